/-
  The code of each function does what its plain program says.
-/
import Derived.Test.YtkgnjpoafilicaaL4W0
set_option linter.unusedVariables false
set_option linter.unusedSimpArgs false
set_option maxRecDepth 100000
namespace Go.Proofs.Ytkgnjpoafilicaa
open Go Go.Pb Go.RowKit
/-- patchbay/control.Tables -/
def RF25 (res : (List Int)) (r : PV) : Prop := (tSl tI).R res r
theorem f25_ok {x0 : List api_ControlNode} {v0 : PV} (r0 : (tSl api_ControlNode.t).R x0 v0) (hs : csl x0 ≤ 1000) : ∃ r, FnR Try.prog 25 [v0] r ∧ (tSl tI).R (control_Tables x0) r := by
  obtain ⟨res, hres⟩ : ∃ res, control_Tables x0 = res := ⟨_, rfl⟩
  suffices H : RC Try.prog ac25 [] (QR Try.prog [(2, none)] (RF25 res)) (argE 0 [v0]) ⟨0, []⟩ by
    rw [hres]
    exact fnE text25 (by simp) H
  unfold control_Tables at hres
  unfold ac25
  refine rc_seq ?_
  refine rc_region ?_
  refine rd_op (v := nilS) (ov_move rfl) ?_
  refine rd_nil ?_
  refine pn_seq ?_
  refine rc_seq ?_
  refine rc_region ?_
  refine rd_allocO (x := nilS) (Mem.nil ⟨0, []⟩) rfl rfl (fun i101 w101 h101 M101 => ?_)
  refine rd_nil ?_
  refine pn_seq ?_
  refine rc_seq ?_
  refine rc_regionS ?_
  refine rs_step ?_
  refine rd_op (ov_move rfl) ?_
  refine rs_back ?_
  refine rs_step ?_
  refine rd_op (v := .fn (.func 57) [] [.op i101 w101 0]) (ov_mkFunc rfl rfl) ?_
  refine rs_back ?_
  have M104 := mem_acc (sz := 1) (es := []) M101 3 (.inl ⟨none, rfl, rfl⟩) (by simp)
  have M103 : Mem h101 [⟨.op i101 w101 0, 29, 1, [nilS]⟩, ⟨nilS, 3, 1, ([] : List PV)⟩] := (Mem.front (k := 1) (Mem.front (k := 0) M104 rfl) rfl)
  obtain ⟨y103, hw103, hres⟩ := let_ex hres
  obtain ⟨h103, L103, hX103, hE103, M103v⟩ : ∃ h2 L2, FnX Try.prog 48 [v0, .fn (.func 57) [] [.op i101 w101 0]] h101 (vb y103.1) h2 ∧ ME57 i101 w101 0 y103.2 L2 ∧ Mem h2 (L2 ++ []) := by
    rw [← hw103]
    exact f48_pre (mono57 i101 w101) (hv57  ) _ _ (Nat.lt_succ_self _) (by exact fun _ _ => trivial) 0 _ ([] : List Int) [⟨.op i101 w101 0, 29, 1, [nilS]⟩, ⟨nilS, 3, 1, ([] : List PV)⟩] [] _ r0 (show ME57 i101 w101 (csl x0 + 0) ([] : List Int) [⟨.op i101 w101 0, 29, 1, [nilS]⟩, ⟨nilS, 3, 1, ([] : List PV)⟩] from ⟨⟨nilS, ([] : List PV), rfl, (show All2 tI.R ([] : List Int) [] from trivial), rfl, (by decide)⟩, by (simp; omega)⟩) M103
  obtain ⟨⟨a103_0_0, es103_0_0, hL103, qs103_0_0, ne103_0_0, hl103_0_0⟩, hi103⟩ := hE103
  subst hL103
  replace M103v : Mem h103 [⟨.op i101 w101 0, 29, 1, [a103_0_0]⟩, ⟨a103_0_0, 3, 1, es103_0_0⟩] := M103v
  refine rs_callX rfl rfl hX103 ?_
  refine rs_nil ?_
  refine pn_seq ?_
  refine rc_seq ?_
  refine rc_region ?_
  refine rd_op (ov_load0 (k := 0) M103v rfl rfl (mem_one (k := 1) M103v rfl ne103_0_0).2) ?_
  refine rd_op (ov_move rfl) ?_
  refine rd_nil ?_
  refine pn_seq ?_
  obtain ⟨v106, d106, r106⟩ := own_sl (P := Try.prog) (k := 1) (t := tI) M103v rfl ne103_0_0 qs103_0_0 (Nat.le_trans hl103_0_0 (by decide))
  subst hres
  exact rc_retV (.tmp rfl .nil) d106 r106

/-- patchbay/patchbayref20.applies -/
def RF58 (res : Bool) (r : PV) : Prop := r = vb res
theorem f58_ok {x0 : api_ControlNode} {v0 : PV} (r0 : api_ControlNode.t.R x0 v0) : FnR Try.prog 58 [v0] (vb (ref20_applies x0)) := by
  obtain ⟨res, hres⟩ : ∃ res, ref20_applies x0 = res := ⟨_, rfl⟩
  suffices H : RC Try.prog ac58 [] (QR Try.prog [(2, none)] (RF58 res)) (argE 0 [v0]) ⟨0, []⟩ by
    obtain ⟨r, h1, h2⟩ := fnE text58 (by simp) H
    rw [hres]
    have h2 : r = vb res := h2
    rw [← h2]; exact h1
  unfold ref20_applies at hres
  unfold ac58
  refine rc_seq ?_
  refine rc_region ?_
  refine rd_op (ov_box rfl (TR.cnt api_ControlNode.t r0)) ?_
  refine rd_op (v := vb false) (ov_move rfl) ?_
  refine rd_nil ?_
  refine pn_seq ?_
  refine rc_seq ?_
  refine rc_region ?_
  refine rd_op (ov_faddr rfl (api_ControlNode.g_Kind r0)) ?_
  refine rd_op (ov_load rfl rfl rfl) ?_
  refine rd_op (ov_bin rfl rfl i_eql) ?_
  refine rd_op (ov_move rfl) ?_
  refine rd_cut (d := 10) (v := vb ((decide (x0.Kind = 1)) || (decide (x0.Kind = 3)))) ?_ ?_
  · intro S Q r
    simp only [ac58_G1, List.cons_append, List.nil_append, List.append_assoc]
    cases hb101 : (decide (x0.Kind = 1))
    · intro k
      have hb101' := hb101
      try simp only [Bool.or_eq_true, Bool.or_eq_false_iff, Bool.and_eq_true, Bool.and_eq_false_imp, decide_eq_true_eq, decide_eq_false_iff_not, Bool.not_eq_true', Bool.not_eq_false', Bool.not_eq_true, Bool.not_eq_false, Bool.not_true, Bool.not_false, ne_eq] at hb101'
      refine rd_yes rfl rfl (ov_faddr rfl (api_ControlNode.g_Kind r0)) ?_
      refine rd_yes rfl rfl (ov_load rfl rfl rfl) ?_
      refine rd_yes rfl rfl (ov_bin rfl rfl i_eql) ?_
      refine rd_op (v := vb (decide (x0.Kind = 3))) (ov_pick rfl rfl rfl rfl) ?_
      exact rd_weak (sub_cons rfl (sub_skip rfl (sub_skip rfl (sub_skip rfl (sub_skip rfl (sub_refl _)))))) k
    · intro k
      refine rd_skip rfl rfl ?_
      refine rd_skip rfl rfl ?_
      refine rd_skip rfl rfl ?_
      refine rd_op (v := vb true) (ov_pick rfl rfl rfl rfl) ?_
      exact rd_weak (sub_cons rfl (sub_skip rfl (sub_skip rfl (sub_skip rfl (sub_skip rfl (sub_refl _)))))) k
  refine rd_op (ov_move rfl) ?_
  refine rd_nil ?_
  refine pn_seq ?_
  subst hres
  exact rc_retV (.tmp rfl .nil) (deep_closed rfl) rfl

/-- patchbay/patchbayref20.Tables -/
def RF26 (res : (List Int)) (r : PV) : Prop := (tSl tI).R res r
theorem ref20_Tables_L1_ok {S : List Fr} {res : (List Int)} {x0 : List api_ControlNode} {y101 : (List api_ControlNode)} {v102 : PV} (hs : csl x0 ≤ 1000) (hw101 : ref20_Preorder x0 = y101) (r102 : (tSl api_ControlNode.t).R y101 v102) (ek101 : y101.length ≤ csl x0) {K0 : (List Int) → (List Int)}
    (hK0 : ∀ (zE104 : List Int) (esE104 : List PV) (aE104 : PV) (qE104 : All2 tI.R zE104 esE104) (nE104 : isL aE104 = true) (wrE104 : Wri aE104 esE104) (hlE104 : zE104.length ≤ 4611686018427387904) (h : Heap) (M0 : Mem h [⟨aE104, 3, 1, esE104⟩]), K0 zE104 = res → PX Try.prog 0 S (QR Try.prog [(2, none)] (RF26 res)) [(4, aE104)] h) :
    ∀ (m : Nat) (x5_ : Int) (zE104 : List Int) (esE104 : List PV) (aE104 : PV) (qE104 : All2 tI.R zE104 esE104) (nE104 : isL aE104 = true) (wrE104 : Wri aE104 esE104) (hlE104 : zE104.length ≤ 4611686018427387904) (hm1 : m = Int.toNat ((y101.length : Int) - x5_)) (hlo1 : 0 ≤ x5_) (iv1_0 : (zE104.length : Int) ≤ x5_) (h : Heap) (M0 : Mem h [⟨aE104, 3, 1, esE104⟩]), ref20_Tables_L1 y101 K0 m x5_ zE104 = res → RC Try.prog (.loop ac26_L1) S (QR Try.prog [(2, none)] (RF26 res)) [(5, vi x5_), (4, aE104), (3, v102)] h := by
  intro m
  induction m with
  | zero =>
    intro x5_ zE104 esE104 aE104 qE104 nE104 wrE104 hlE104 hm1 hlo1 iv1_0 h M0 hres
    rw [ref20_Tables_L1] at hres
    refine rc_loop ?_
    unfold ac26_L1
    refine rc_seq ?_
    refine rc_seq ?_
    refine rc_region ?_
    refine rd_op (ov_move rfl) ?_
    refine rd_op (ov_move rfl) ?_
    refine rd_op (ov_bi rfl (sl_len r102 Try.underlying28 _)) ?_
    refine rd_op (ov_bin rfl rfl i_lss) ?_
    refine rd_nil ?_
    refine pn_seq ?_
    refine rc_cond rfl (fun hc105 => ?_) (fun hc105 => ?_)
    · exfalso
      try simp only [Bool.or_eq_true, Bool.or_eq_false_iff, Bool.and_eq_true, Bool.and_eq_false_imp, decide_eq_true_eq, decide_eq_false_iff_not, Bool.not_eq_true', Bool.not_eq_false', Bool.not_eq_true, Bool.not_eq_false, Bool.not_true, Bool.not_false, ne_eq] at hc105
      omega
    · have hend := hres
      have hc105' := hc105
      try simp only [Bool.or_eq_true, Bool.or_eq_false_iff, Bool.and_eq_true, Bool.and_eq_false_imp, decide_eq_true_eq, decide_eq_false_iff_not, Bool.not_eq_true', Bool.not_eq_false', Bool.not_eq_true, Bool.not_eq_false, Bool.not_true, Bool.not_false, ne_eq] at hc105'
      refine rc_exit ?_
      refine px_seq ?_
      refine px_again ?_
      exact px_weak ((sub_cons rfl (sub_nil _))) (hK0 zE104 esE104 aE104 qE104 nE104 wrE104 hlE104 _ (Mem.sub M0 (.cons_cons _ .slnil)) hres)
  | succ m ih =>
    intro x5_ zE104 esE104 aE104 qE104 nE104 wrE104 hlE104 hm1 hlo1 iv1_0 h M0 hres
    rw [ref20_Tables_L1] at hres
    refine rc_loop ?_
    unfold ac26_L1
    refine rc_seq ?_
    refine rc_seq ?_
    refine rc_region ?_
    refine rd_op (ov_move rfl) ?_
    refine rd_op (ov_move rfl) ?_
    refine rd_op (ov_bi rfl (sl_len r102 Try.underlying28 _)) ?_
    refine rd_op (ov_bin rfl rfl i_lss) ?_
    refine rd_nil ?_
    refine pn_seq ?_
    refine rc_cond rfl (fun hc106 => ?_) (fun hc106 => ?_)
    · have hgo := hres
      have hc106' := hc106
      try simp only [Bool.or_eq_true, Bool.or_eq_false_iff, Bool.and_eq_true, Bool.and_eq_false_imp, decide_eq_true_eq, decide_eq_false_iff_not, Bool.not_eq_true', Bool.not_eq_false', Bool.not_eq_true, Bool.not_eq_false, Bool.not_true, Bool.not_false, ne_eq] at hc106'
      refine rc_skip ?_
      refine pn_seq ?_
      refine rc_seq ?_
      refine rc_block ?_
      refine rc_seq ?_
      refine rc_region ?_
      refine rd_op (ov_move rfl) ?_
      refine rd_op (ov_move rfl) ?_
      obtain ⟨v107, e107, r107⟩ := sl_idx (i := x5_) r102 (by omega) (by omega)
      refine rd_op (ov_iaddr rfl rfl e107) ?_
      refine rd_op (ov_load rfl (TR.cnt api_ControlNode.t r107) (TR.agg api_ControlNode.t r107)) ?_
      obtain ⟨y108, hw108, hres⟩ := let_ex hres
      have f108 := f58_ok  r107 
      rw [hw108] at f108
      refine rd_call (cv_fn rfl rfl (clL_cons (TR.clo api_ControlNode.t r107) clL_nil) f108) ?_
      refine rd_nil ?_
      refine pn_seq ?_
      refine rc_cond rfl (fun hc109 => ?_) (fun hc109 => ?_)
      · replace hres := (ite_t hc109).symm.trans hres
        have hc109' := hc109
        try simp only [Bool.or_eq_true, Bool.or_eq_false_iff, Bool.and_eq_true, Bool.and_eq_false_imp, decide_eq_true_eq, decide_eq_false_iff_not, Bool.not_eq_true', Bool.not_eq_false', Bool.not_eq_true, Bool.not_eq_false, Bool.not_true, Bool.not_false, ne_eq] at hc109'
        refine rc_region ?_
        refine rd_op (ov_move rfl) ?_
        refine rd_op (ov_move rfl) ?_
        refine rd_op (ov_move rfl) ?_
        obtain ⟨v110, e110, r110⟩ := sl_idx (i := x5_) r102 (by omega) (by omega)
        refine rd_op (ov_iaddr rfl rfl e110) ?_
        refine rd_op (ov_faddr rfl (api_ControlNode.g_Table r110)) ?_
        refine rd_op (ov_load rfl rfl rfl) ?_
        refine rd_op (v := .fs true [vi ((ix y101 x5_).Table)]) (ov_bslice rfl (all_cons rfl all_nil)) ?_
        have r111 : (tSl tI).R ([(ix y101 x5_).Table] : List Int) (.fs true [vi ((ix y101 x5_).Table)]) := sl_fs ⟨rfl, trivial⟩ (by simp)
        obtain ⟨nw112, sr112, ar112⟩ := src_of (t := tI) (h := h) r111
        have f112 : fits (esE104.length + nw112.length) 8 = true := by rw [All2.length_eq qE104, All2.length_eq ar112]; (try simp only [List.length_cons, List.length_nil]); exact fits_of (by first | omega | (simp only [List.length_append, List.length_cons, List.length_nil]; omega)) (by first | omega | (simp only [List.length_append, List.length_cons, List.length_nil]; omega))
        refine rd_appW (k := 0) (es := esE104) (news := nw112) M0 rfl rfl rfl nE104 wrE104 sr112 f112 (fun a112 h112 n112 wr112 M112 => ?_)
        have q112 : All2 tI.R (zE104 ++ ([(ix y101 x5_).Table] : List Int)) (esE104 ++ nw112) := All2.app qE104 ar112
        have hl112 : (zE104 ++ ([(ix y101 x5_).Table] : List Int)).length ≤ 4611686018427387904 := by rw [← All2.length_eq q112, List.length_append]; exact fits_len f112
        refine rd_op (ov_move rfl) ?_
        refine rd_nil ?_
        refine pn_blk ?_
        refine pn_seq ?_
        refine rc_region ?_
        refine rd_op (ov_move rfl) ?_
        refine rd_op (ov_bin rfl rfl i_add) ?_
        refine rd_op (ov_move rfl) ?_
        refine rd_nil ?_
        refine pn_again ?_
        have hbd := sl_bound r102
        have hinc : wr (x5_ + 1) = x5_ + 1 := wr_of (by omega) (by omega)
        rw [hinc]
        refine rc_weak ?_ (ih (x5_ + 1) (zE104 ++ ([(ix y101 x5_).Table] : List Int)) (esE104 ++ nw112) a112 q112 n112 wr112 hl112 (by omega) (by omega) (by first | omega | (simp only [List.length_append, List.length_cons, List.length_nil]; omega)) _ (Mem.sub M112 (.cons_cons _ .slnil)) hres)
        exact ((sub_cons rfl (sub_cons rfl (sub_cons rfl (sub_nil _)))))
      · replace hres := (ite_f hc109).symm.trans hres
        have hc109' := hc109
        try simp only [Bool.or_eq_true, Bool.or_eq_false_iff, Bool.and_eq_true, Bool.and_eq_false_imp, decide_eq_true_eq, decide_eq_false_iff_not, Bool.not_eq_true', Bool.not_eq_false', Bool.not_eq_true, Bool.not_eq_false, Bool.not_true, Bool.not_false, ne_eq] at hc109'
        refine rc_skip ?_
        refine pn_blk ?_
        refine pn_seq ?_
        refine rc_region ?_
        refine rd_op (ov_move rfl) ?_
        refine rd_op (ov_bin rfl rfl i_add) ?_
        refine rd_op (ov_move rfl) ?_
        refine rd_nil ?_
        refine pn_again ?_
        have hbd := sl_bound r102
        have hinc : wr (x5_ + 1) = x5_ + 1 := wr_of (by omega) (by omega)
        rw [hinc]
        refine rc_weak ?_ (ih (x5_ + 1) zE104 esE104 aE104 qE104 nE104 wrE104 hlE104 (by omega) (by omega) (by first | omega | (simp only [List.length_append, List.length_cons, List.length_nil]; omega)) _ (Mem.sub M0 (.cons_cons _ .slnil)) hres)
        exact ((sub_cons rfl (sub_cons rfl (sub_cons rfl (sub_nil _)))))
    · exfalso
      try simp only [Bool.or_eq_true, Bool.or_eq_false_iff, Bool.and_eq_true, Bool.and_eq_false_imp, decide_eq_true_eq, decide_eq_false_iff_not, Bool.not_eq_true', Bool.not_eq_false', Bool.not_eq_true, Bool.not_eq_false, Bool.not_true, Bool.not_false, ne_eq] at hc106
      omega

theorem f26_ok {x0 : List api_ControlNode} {v0 : PV} (r0 : (tSl api_ControlNode.t).R x0 v0) (hs : csl x0 ≤ 1000) : ∃ r, FnR Try.prog 26 [v0] r ∧ (tSl tI).R (ref20_Tables x0) r := by
  obtain ⟨res, hres⟩ : ∃ res, ref20_Tables x0 = res := ⟨_, rfl⟩
  suffices H : RC Try.prog ac26 [] (QR Try.prog [(2, none)] (RF26 res)) (argE 0 [v0]) ⟨0, []⟩ by
    rw [hres]
    exact fnE text26 (by simp) H
  unfold ref20_Tables at hres
  unfold ac26
  refine rc_seq ?_
  refine rc_region ?_
  refine rd_op (v := nilS) (ov_move rfl) ?_
  refine rd_nil ?_
  refine pn_seq ?_
  refine rc_seq ?_
  refine rc_region ?_
  refine rd_op (ov_move rfl) ?_
  obtain ⟨y101, hw101, hres⟩ := let_ex hres
  obtain ⟨v102, f101, r102⟩ := f52_ok  r0 (by first | assumption | omega)
  rw [hw101] at r102
  have ek101 : y101.length ≤ csl x0 := by rw [← hw101]; exact preorder_len _ _
  refine rd_call (cv_fn rfl rfl (clL_cons (TR.clo (tSl api_ControlNode.t) r0) clL_nil) f101) ?_
  refine rd_op (ov_move rfl) ?_
  refine rd_nil ?_
  refine pn_seq ?_
  refine rc_seq ?_
  refine rc_region ?_
  refine rd_op (v := nilS) (ov_move rfl) ?_
  refine rd_nil ?_
  refine pn_seq ?_
  refine rc_seq ?_
  refine rc_seq ?_
  refine rc_region ?_
  refine rd_op (v := vi 0) (ov_move rfl) ?_
  refine rd_nil ?_
  refine pn_seq ?_
  refine rc_block ?_
  have M103 := mem_acc (sz := 1) (es := []) (Mem.nil ⟨0, []⟩) 3 (.inl ⟨none, rfl, rfl⟩) (by simp)
  refine rc_weak ?_ (ref20_Tables_L1_ok (x0 := x0) (y101 := y101) (v102 := v102)  (hs := hs) (hw101 := hw101) (r102 := r102) (ek101 := ek101) ?_ (Int.toNat ((y101.length : Int) - 0)) 0 ([] : List Int) ([] : List PV) nilS (show All2 tI.R ([] : List Int) [] from trivial) rfl (.inl rfl) (by decide) rfl (by omega) (by simp) _ (Mem.sub M103 (.cons_cons _ .slnil)) hres)
  · exact ((sub_cons rfl (sub_cons rfl (sub_cons rfl (sub_nil _)))))
  · intro zE104_113 es113E104 a113E104 q113E104 n113E104 wr113E104 hl113E104 h113 M113 hres
    refine px_blk ?_
    refine pn_seq ?_
    refine rc_seq ?_
    refine rc_region ?_
    refine rd_op (ov_move rfl) ?_
    refine rd_op (ov_move rfl) ?_
    refine rd_nil ?_
    refine pn_seq ?_
    obtain ⟨v114, d114, r114⟩ := own_sl (P := Try.prog) (k := 0) (t := tI) M113 rfl n113E104 q113E104 (Nat.le_trans hl113E104 (by decide))
    subst hres
    exact rc_retV (.tmp rfl .nil) d114 r114

/-- patchbay/patchbayref02.EqualInts -/
def RF24 (res : Bool) (r : PV) : Prop := r = vb res
theorem ref02_EqualInts_L1_ok {S : List Fr} {res : Bool} {x0 : List Int} {x1 : List Int} {v0 : PV} {v1 : PV} (r0 : (tSl tI).R x0 v0) (r1 : (tSl tI).R x1 v1) (hc101 : (!decide ((x0.length : Int) = (x1.length : Int))) = false) {K0 : Unit → Bool}
    (hK0 : K0 () = res → PX Try.prog 0 S (QR Try.prog [(4, none)] (RF24 res)) [] ⟨0, []⟩) :
    ∀ (m : Nat) (x5_ : Int) (hm1 : m = Int.toNat ((x0.length : Int) - x5_)) (hlo1 : 0 ≤ x5_), ref02_EqualInts_L1 x0 x1 K0 m x5_ = res → RC Try.prog (.loop ac24_L1) S (QR Try.prog [(4, none)] (RF24 res)) [(5, vi x5_), (1, v1), (0, v0)] ⟨0, []⟩ := by
  have hc101' := hc101
  try simp only [Bool.or_eq_true, Bool.or_eq_false_iff, Bool.and_eq_true, Bool.and_eq_false_imp, decide_eq_true_eq, decide_eq_false_iff_not, Bool.not_eq_true', Bool.not_eq_false', Bool.not_eq_true, Bool.not_eq_false, Bool.not_true, Bool.not_false, ne_eq] at hc101'
  intro m
  induction m with
  | zero =>
    intro x5_ hm1 hlo1 hres
    rw [ref02_EqualInts_L1] at hres
    refine rc_loop ?_
    unfold ac24_L1
    refine rc_seq ?_
    refine rc_seq ?_
    refine rc_region ?_
    refine rd_op (ov_move rfl) ?_
    refine rd_op (ov_move rfl) ?_
    refine rd_op (ov_bi rfl (sl_len r0 Try.underlying29 _)) ?_
    refine rd_op (ov_bin rfl rfl i_lss) ?_
    refine rd_nil ?_
    refine pn_seq ?_
    refine rc_cond rfl (fun hc102 => ?_) (fun hc102 => ?_)
    · exfalso
      try simp only [Bool.or_eq_true, Bool.or_eq_false_iff, Bool.and_eq_true, Bool.and_eq_false_imp, decide_eq_true_eq, decide_eq_false_iff_not, Bool.not_eq_true', Bool.not_eq_false', Bool.not_eq_true, Bool.not_eq_false, Bool.not_true, Bool.not_false, ne_eq] at hc102
      omega
    · have hend := hres
      have hc102' := hc102
      try simp only [Bool.or_eq_true, Bool.or_eq_false_iff, Bool.and_eq_true, Bool.and_eq_false_imp, decide_eq_true_eq, decide_eq_false_iff_not, Bool.not_eq_true', Bool.not_eq_false', Bool.not_eq_true, Bool.not_eq_false, Bool.not_true, Bool.not_false, ne_eq] at hc102'
      refine rc_exit ?_
      refine px_seq ?_
      refine px_again ?_
      exact px_weak ((sub_nil _)) (hK0  hres)
  | succ m ih =>
    intro x5_ hm1 hlo1 hres
    rw [ref02_EqualInts_L1] at hres
    refine rc_loop ?_
    unfold ac24_L1
    refine rc_seq ?_
    refine rc_seq ?_
    refine rc_region ?_
    refine rd_op (ov_move rfl) ?_
    refine rd_op (ov_move rfl) ?_
    refine rd_op (ov_bi rfl (sl_len r0 Try.underlying29 _)) ?_
    refine rd_op (ov_bin rfl rfl i_lss) ?_
    refine rd_nil ?_
    refine pn_seq ?_
    refine rc_cond rfl (fun hc103 => ?_) (fun hc103 => ?_)
    · have hgo := hres
      have hc103' := hc103
      try simp only [Bool.or_eq_true, Bool.or_eq_false_iff, Bool.and_eq_true, Bool.and_eq_false_imp, decide_eq_true_eq, decide_eq_false_iff_not, Bool.not_eq_true', Bool.not_eq_false', Bool.not_eq_true, Bool.not_eq_false, Bool.not_true, Bool.not_false, ne_eq] at hc103'
      refine rc_skip ?_
      refine pn_seq ?_
      refine rc_seq ?_
      refine rc_block ?_
      refine rc_seq ?_
      refine rc_region ?_
      refine rd_op (ov_move rfl) ?_
      refine rd_op (ov_move rfl) ?_
      refine rd_op (ov_iaddr rfl rfl (slI r0 (by omega) (by omega))) ?_
      refine rd_op (ov_load rfl rfl rfl) ?_
      refine rd_op (ov_move rfl) ?_
      refine rd_op (ov_move rfl) ?_
      refine rd_op (ov_iaddr rfl rfl (slI r1 (by omega) (by omega))) ?_
      refine rd_op (ov_load rfl rfl rfl) ?_
      refine rd_op (ov_bin rfl rfl i_neq) ?_
      refine rd_nil ?_
      refine pn_seq ?_
      refine rc_cond rfl (fun hc104 => ?_) (fun hc104 => ?_)
      · replace hres := (ite_t hc104).symm.trans hres
        have hc104' := hc104
        try simp only [Bool.or_eq_true, Bool.or_eq_false_iff, Bool.and_eq_true, Bool.and_eq_false_imp, decide_eq_true_eq, decide_eq_false_iff_not, Bool.not_eq_true', Bool.not_eq_false', Bool.not_eq_true, Bool.not_eq_false, Bool.not_true, Bool.not_false, ne_eq] at hc104'
        refine rc_seq ?_
        refine rc_region ?_
        refine rd_op (v := vb false) (ov_move rfl) ?_
        refine rd_nil ?_
        refine pn_seq ?_
        subst hres
        exact rc_retV (.tmp rfl .nil) (deep_closed rfl) rfl
      · replace hres := (ite_f hc104).symm.trans hres
        have hc104' := hc104
        try simp only [Bool.or_eq_true, Bool.or_eq_false_iff, Bool.and_eq_true, Bool.and_eq_false_imp, decide_eq_true_eq, decide_eq_false_iff_not, Bool.not_eq_true', Bool.not_eq_false', Bool.not_eq_true, Bool.not_eq_false, Bool.not_true, Bool.not_false, ne_eq] at hc104'
        refine rc_skip ?_
        refine pn_blk ?_
        refine pn_seq ?_
        refine rc_region ?_
        refine rd_op (ov_move rfl) ?_
        refine rd_op (ov_bin rfl rfl i_add) ?_
        refine rd_op (ov_move rfl) ?_
        refine rd_nil ?_
        refine pn_again ?_
        have hbd := sl_bound r0
        have hinc : wr (x5_ + 1) = x5_ + 1 := wr_of (by omega) (by omega)
        rw [hinc]
        refine rc_weak ?_ (ih (x5_ + 1)  (by omega) (by omega) hres)
        exact ((sub_cons rfl (sub_cons rfl (sub_cons rfl (sub_nil _)))))
    · exfalso
      try simp only [Bool.or_eq_true, Bool.or_eq_false_iff, Bool.and_eq_true, Bool.and_eq_false_imp, decide_eq_true_eq, decide_eq_false_iff_not, Bool.not_eq_true', Bool.not_eq_false', Bool.not_eq_true, Bool.not_eq_false, Bool.not_true, Bool.not_false, ne_eq] at hc103
      omega

theorem f24_ok {x0 : List Int} {x1 : List Int} {v0 : PV} {v1 : PV} (r0 : (tSl tI).R x0 v0) (r1 : (tSl tI).R x1 v1) : FnR Try.prog 24 [v0, v1] (vb (ref02_EqualInts x0 x1)) := by
  obtain ⟨res, hres⟩ : ∃ res, ref02_EqualInts x0 x1 = res := ⟨_, rfl⟩
  suffices H : RC Try.prog ac24 [] (QR Try.prog [(4, none)] (RF24 res)) (argE 0 [v0, v1]) ⟨0, []⟩ by
    obtain ⟨r, h1, h2⟩ := fnE text24 (by simp) H
    rw [hres]
    have h2 : r = vb res := h2
    rw [← h2]; exact h1
  unfold ref02_EqualInts at hres
  unfold ac24
  refine rc_seq ?_
  refine rc_region ?_
  refine rd_op (v := vb false) (ov_move rfl) ?_
  refine rd_nil ?_
  refine pn_seq ?_
  refine rc_seq ?_
  refine rc_seq ?_
  refine rc_region ?_
  refine rd_op (ov_move rfl) ?_
  refine rd_op (ov_bi rfl (sl_len r0 Try.underlying29 _)) ?_
  refine rd_op (ov_move rfl) ?_
  refine rd_op (ov_bi rfl (sl_len r1 Try.underlying29 _)) ?_
  refine rd_op (ov_bin rfl rfl i_neq) ?_
  refine rd_nil ?_
  refine pn_seq ?_
  refine rc_cond rfl (fun hc101 => ?_) (fun hc101 => ?_)
  · replace hres := (ite_t hc101).symm.trans hres
    have hc101' := hc101
    try simp only [Bool.or_eq_true, Bool.or_eq_false_iff, Bool.and_eq_true, Bool.and_eq_false_imp, decide_eq_true_eq, decide_eq_false_iff_not, Bool.not_eq_true', Bool.not_eq_false', Bool.not_eq_true, Bool.not_eq_false, Bool.not_true, Bool.not_false, ne_eq] at hc101'
    refine rc_seq ?_
    refine rc_region ?_
    refine rd_op (v := vb false) (ov_move rfl) ?_
    refine rd_nil ?_
    refine pn_seq ?_
    subst hres
    exact rc_retV (.tmp rfl .nil) (deep_closed rfl) rfl
  · replace hres := (ite_f hc101).symm.trans hres
    have hc101' := hc101
    try simp only [Bool.or_eq_true, Bool.or_eq_false_iff, Bool.and_eq_true, Bool.and_eq_false_imp, decide_eq_true_eq, decide_eq_false_iff_not, Bool.not_eq_true', Bool.not_eq_false', Bool.not_eq_true, Bool.not_eq_false, Bool.not_true, Bool.not_false, ne_eq] at hc101'
    refine rc_skip ?_
    refine pn_seq ?_
    refine rc_seq ?_
    refine rc_seq ?_
    refine rc_region ?_
    refine rd_op (v := vi 0) (ov_move rfl) ?_
    refine rd_nil ?_
    refine pn_seq ?_
    refine rc_block ?_
    refine rc_weak ?_ (ref02_EqualInts_L1_ok (x0 := x0) (x1 := x1) (v0 := v0) (v1 := v1)  (r0 := r0) (r1 := r1) (hc101 := hc101) ?_ (Int.toNat ((x0.length : Int) - 0)) 0 rfl (by omega) hres)
    · exact ((sub_cons rfl (sub_cons rfl (sub_cons rfl (sub_nil _)))))
    · intro  hres
      refine px_blk ?_
      refine pn_seq ?_
      refine rc_seq ?_
      refine rc_region ?_
      refine rd_op (v := vb true) (ov_move rfl) ?_
      refine rd_nil ?_
      refine pn_seq ?_
      subst hres
      exact rc_retV (.tmp rfl .nil) (deep_closed rfl) rfl

/-- patchbay/patchbayref13.used -/
def RF79 (res : api_ExprNode) (r : PV) : Prop := api_ExprNode.t.R res r
theorem f79_ok {x0 : api_ExprNode} {v0 : PV} (r0 : api_ExprNode.t.R x0 v0) : ∃ r, FnR Try.prog 79 [v0] r ∧ api_ExprNode.t.R (ref13_used x0) r := by
  obtain ⟨res, hres⟩ : ∃ res, ref13_used x0 = res := ⟨_, rfl⟩
  suffices H : RC Try.prog ac79 [] (QR Try.prog [(2, some (3, true))] (RF79 res)) (argE 0 [v0]) ⟨0, []⟩ by
    rw [hres]
    exact fnE text79 (by simp) H
  unfold ref13_used at hres
  unfold ac79
  refine rc_seq ?_
  refine rc_region ?_
  refine rd_op (ov_box rfl (TR.cnt api_ExprNode.t r0)) ?_
  refine rd_allocO (x := .agg [vi 0, vi 0, vi 0]) (Mem.nil ⟨0, []⟩) rfl rfl (fun i101 w101 h101 M101 => ?_)
  refine rd_nil ?_
  refine pn_seq ?_
  refine rc_seq ?_
  refine rc_seq ?_
  refine rc_region ?_
  refine rd_op (ov_faddr rfl (api_ExprNode.g_Op r0)) ?_
  refine rd_op (ov_load rfl rfl rfl) ?_
  refine rd_nil ?_
  refine pn_seq ?_
  refine rc_block ?_
  refine rc_seq ?_
  refine rc_seq ?_
  refine rc_region ?_
  refine rd_op (ov_bin rfl rfl i_eql) ?_
  refine rd_op (ov_move rfl) ?_
  refine rd_nil ?_
  refine pn_seq ?_
  obtain ⟨k105, hk105, hres⟩ := let_ex hres
  refine rc_join (F := fun b S Q => ∀ (x5_105 : Bool) (hj105 : Heap) (Mj105 : Mem hj105 [⟨.op i101 w101 0, 106, 3, [.agg [vi 0, vi 0, vi 0]]⟩]), k105 x5_105 = res → RC Try.prog b S Q [(5, vb x5_105), (4, vi x0.Op), (2, .op i101 w101 0), (1, .fp v0)] hj105) ?_ ?_
  · intro x5_105 hj105 Mj105 hres
    rw [← hk105] at hres
    refine rc_cond rfl (fun hc106 => ?_) (fun hc106 => ?_)
    · replace hres := (ite_t hc106).symm.trans hres
      have hc106' := hc106
      try simp only [Bool.or_eq_true, Bool.or_eq_false_iff, Bool.and_eq_true, Bool.and_eq_false_imp, decide_eq_true_eq, decide_eq_false_iff_not, Bool.not_eq_true', Bool.not_eq_false', Bool.not_eq_true, Bool.not_eq_false, Bool.not_true, Bool.not_false, ne_eq] at hc106'
      refine rc_seq ?_
      refine rc_region ?_
      refine rd_op (ov_load rfl (TR.cnt api_ExprNode.t r0) (TR.agg api_ExprNode.t r0)) ?_
      refine rd_storeO (k := 0) (v := v0) Mj105 rfl rfl rfl (TR.cnt api_ExprNode.t r0) (fun h107 M107 => ?_)
      replace M107 : Mem h107 [⟨.op i101 w101 0, 106, 3, [v0]⟩] := M107
      refine rd_nil ?_
      refine pn_seq ?_
      subst hres
      exact rc_retV (.cell rfl (load_whole (k := 0) M107 rfl (TR.agg api_ExprNode.t r0)) .nil) (deep_closed (TR.clo api_ExprNode.t r0)) r0
    · replace hres := (ite_f hc106).symm.trans hres
      have hc106' := hc106
      try simp only [Bool.or_eq_true, Bool.or_eq_false_iff, Bool.and_eq_true, Bool.and_eq_false_imp, decide_eq_true_eq, decide_eq_false_iff_not, Bool.not_eq_true', Bool.not_eq_false', Bool.not_eq_true, Bool.not_eq_false, Bool.not_true, Bool.not_false, ne_eq] at hc106'
      refine rc_seq ?_
      refine rc_seq ?_
      refine rc_region ?_
      refine rd_op (ov_bin rfl rfl i_eql) ?_
      refine rd_op (ov_move rfl) ?_
      refine rd_nil ?_
      refine pn_seq ?_
      obtain ⟨k111, hk111, hres⟩ := let_ex hres
      refine rc_join (F := fun b S Q => ∀ (x10_111 : Bool) (hj111 : Heap) (Mj111 : Mem hj111 [⟨.op i101 w101 0, 106, 3, [.agg [vi 0, vi 0, vi 0]]⟩]), k111 x10_111 = res → RC Try.prog b S Q [(10, vb x10_111), (2, .op i101 w101 0), (1, .fp v0)] hj111) ?_ ?_
      · intro x10_111 hj111 Mj111 hres
        rw [← hk111] at hres
        refine rc_cond rfl (fun hc112 => ?_) (fun hc112 => ?_)
        · replace hres := (ite_t hc112).symm.trans hres
          have hc112' := hc112
          try simp only [Bool.or_eq_true, Bool.or_eq_false_iff, Bool.and_eq_true, Bool.and_eq_false_imp, decide_eq_true_eq, decide_eq_false_iff_not, Bool.not_eq_true', Bool.not_eq_false', Bool.not_eq_true, Bool.not_eq_false, Bool.not_true, Bool.not_false, ne_eq] at hc112'
          refine rc_seq ?_
          refine rc_region ?_
          refine rd_op (ov_faddr rfl (api_ExprNode.g_Op r0)) ?_
          refine rd_op (ov_load rfl rfl rfl) ?_
          refine rd_op (ov_faddr rfl (api_ExprNode.g_N r0)) ?_
          refine rd_op (ov_load rfl rfl rfl) ?_
          refine rd_op (v := .agg [vi x0.Op, vi x0.N, vi 0]) (ov_build (cs := [vi x0.Op, vi x0.N, vi 0]) rfl rfl) ?_
          refine rd_storeO (k := 0) (v := .agg [vi x0.Op, vi x0.N, vi 0]) Mj111 rfl rfl rfl rfl (fun h113 M113 => ?_)
          replace M113 : Mem h113 [⟨.op i101 w101 0, 106, 3, [.agg [vi x0.Op, vi x0.N, vi 0]]⟩] := M113
          refine rd_nil ?_
          refine pn_seq ?_
          subst hres
          exact rc_retV (.cell rfl (load_whole (k := 0) M113 rfl rfl) .nil) (deep_closed (TR.clo api_ExprNode.t (show api_ExprNode.t.R ({ Op := x0.Op, N := x0.N, W := 0 } : api_ExprNode) (.agg [vi x0.Op, vi x0.N, vi 0]) from rfl))) (show api_ExprNode.t.R ({ Op := x0.Op, N := x0.N, W := 0 } : api_ExprNode) (.agg [vi x0.Op, vi x0.N, vi 0]) from rfl)
        · replace hres := (ite_f hc112).symm.trans hres
          have hc112' := hc112
          try simp only [Bool.or_eq_true, Bool.or_eq_false_iff, Bool.and_eq_true, Bool.and_eq_false_imp, decide_eq_true_eq, decide_eq_false_iff_not, Bool.not_eq_true', Bool.not_eq_false', Bool.not_eq_true, Bool.not_eq_false, Bool.not_true, Bool.not_false, ne_eq] at hc112'
          refine rc_skip ?_
          refine pn_blk ?_
          refine pn_seq ?_
          refine rc_seq ?_
          refine rc_region ?_
          refine rd_op (ov_faddr rfl (api_ExprNode.g_Op r0)) ?_
          refine rd_op (ov_load rfl rfl rfl) ?_
          refine rd_op (v := .agg [vi x0.Op, vi 0, vi 0]) (ov_build (cs := [vi x0.Op, vi 0, vi 0]) rfl rfl) ?_
          refine rd_storeO (k := 0) (v := .agg [vi x0.Op, vi 0, vi 0]) Mj111 rfl rfl rfl rfl (fun h114 M114 => ?_)
          replace M114 : Mem h114 [⟨.op i101 w101 0, 106, 3, [.agg [vi x0.Op, vi 0, vi 0]]⟩] := M114
          refine rd_nil ?_
          refine pn_seq ?_
          subst hres
          exact rc_retV (.cell rfl (load_whole (k := 0) M114 rfl rfl) .nil) (deep_closed (TR.clo api_ExprNode.t (show api_ExprNode.t.R ({ Op := x0.Op, N := 0, W := 0 } : api_ExprNode) (.agg [vi x0.Op, vi 0, vi 0]) from rfl))) (show api_ExprNode.t.R ({ Op := x0.Op, N := 0, W := 0 } : api_ExprNode) (.agg [vi x0.Op, vi 0, vi 0]) from rfl)
      · intro J
        refine rc_cond rfl (fun hc115 => ?_) (fun hc115 => ?_)
        · replace hres := (ite_t hc115).symm.trans hres
          have hc115' := hc115
          try simp only [Bool.or_eq_true, Bool.or_eq_false_iff, Bool.and_eq_true, Bool.and_eq_false_imp, decide_eq_true_eq, decide_eq_false_iff_not, Bool.not_eq_true', Bool.not_eq_false', Bool.not_eq_true, Bool.not_eq_false, Bool.not_true, Bool.not_false, ne_eq] at hc115'
          refine rc_skip ?_
          refine pn_seq (rc_weak ((sub_cons rfl (sub_cons rfl (sub_cons rfl (sub_nil _))))) (J _ _ (Mem.sub Mj105 (.cons_cons _ .slnil)) hres))
        · replace hres := (ite_f hc115).symm.trans hres
          have hc115' := hc115
          try simp only [Bool.or_eq_true, Bool.or_eq_false_iff, Bool.and_eq_true, Bool.and_eq_false_imp, decide_eq_true_eq, decide_eq_false_iff_not, Bool.not_eq_true', Bool.not_eq_false', Bool.not_eq_true, Bool.not_eq_false, Bool.not_true, Bool.not_false, ne_eq] at hc115'
          refine rc_seq ?_
          refine rc_region ?_
          refine rd_op (ov_bin rfl rfl i_eql) ?_
          refine rd_op (ov_move rfl) ?_
          refine rd_nil ?_
          refine pn_seq ?_
          refine rc_cond rfl (fun hc116 => ?_) (fun hc116 => ?_)
          · replace hres := (ite_t hc116).symm.trans hres
            have hc116' := hc116
            try simp only [Bool.or_eq_true, Bool.or_eq_false_iff, Bool.and_eq_true, Bool.and_eq_false_imp, decide_eq_true_eq, decide_eq_false_iff_not, Bool.not_eq_true', Bool.not_eq_false', Bool.not_eq_true, Bool.not_eq_false, Bool.not_true, Bool.not_false, ne_eq] at hc116'
            refine rc_skip ?_
            refine pn_seq (rc_weak ((sub_cons rfl (sub_cons rfl (sub_cons rfl (sub_nil _))))) (J _ _ (Mem.sub Mj105 (.cons_cons _ .slnil)) hres))
          · replace hres := (ite_f hc116).symm.trans hres
            have hc116' := hc116
            try simp only [Bool.or_eq_true, Bool.or_eq_false_iff, Bool.and_eq_true, Bool.and_eq_false_imp, decide_eq_true_eq, decide_eq_false_iff_not, Bool.not_eq_true', Bool.not_eq_false', Bool.not_eq_true, Bool.not_eq_false, Bool.not_true, Bool.not_false, ne_eq] at hc116'
            refine rc_seq ?_
            refine rc_region ?_
            refine rd_op (ov_bin rfl rfl i_eql) ?_
            refine rd_op (ov_move rfl) ?_
            refine rd_nil ?_
            refine pn_seq ?_
            refine rc_cond rfl (fun hc117 => ?_) (fun hc117 => ?_)
            · replace hres := (ite_t hc117).symm.trans hres
              have hc117' := hc117
              try simp only [Bool.or_eq_true, Bool.or_eq_false_iff, Bool.and_eq_true, Bool.and_eq_false_imp, decide_eq_true_eq, decide_eq_false_iff_not, Bool.not_eq_true', Bool.not_eq_false', Bool.not_eq_true, Bool.not_eq_false, Bool.not_true, Bool.not_false, ne_eq] at hc117'
              refine rc_skip ?_
              refine pn_seq (rc_weak ((sub_cons rfl (sub_cons rfl (sub_cons rfl (sub_nil _))))) (J _ _ (Mem.sub Mj105 (.cons_cons _ .slnil)) hres))
            · replace hres := (ite_f hc117).symm.trans hres
              have hc117' := hc117
              try simp only [Bool.or_eq_true, Bool.or_eq_false_iff, Bool.and_eq_true, Bool.and_eq_false_imp, decide_eq_true_eq, decide_eq_false_iff_not, Bool.not_eq_true', Bool.not_eq_false', Bool.not_eq_true, Bool.not_eq_false, Bool.not_true, Bool.not_false, ne_eq] at hc117'
              refine rc_region ?_
              refine rd_op (ov_bin rfl rfl i_eql) ?_
              refine rd_op (ov_move rfl) ?_
              refine rd_nil ?_
              refine pn_seq (rc_weak ((sub_cons rfl (sub_cons rfl (sub_cons rfl (sub_nil _))))) (J _ _ (Mem.sub Mj105 (.cons_cons _ .slnil)) hres))
  · intro J
    refine rc_cond rfl (fun hc118 => ?_) (fun hc118 => ?_)
    · replace hres := (ite_t hc118).symm.trans hres
      have hc118' := hc118
      try simp only [Bool.or_eq_true, Bool.or_eq_false_iff, Bool.and_eq_true, Bool.and_eq_false_imp, decide_eq_true_eq, decide_eq_false_iff_not, Bool.not_eq_true', Bool.not_eq_false', Bool.not_eq_true, Bool.not_eq_false, Bool.not_true, Bool.not_false, ne_eq] at hc118'
      refine rc_skip ?_
      refine pn_seq (rc_weak ((sub_cons rfl (sub_cons rfl (sub_cons rfl (sub_cons rfl (sub_nil _)))))) (J _ _ (Mem.sub M101 (.cons_cons _ .slnil)) hres))
    · replace hres := (ite_f hc118).symm.trans hres
      have hc118' := hc118
      try simp only [Bool.or_eq_true, Bool.or_eq_false_iff, Bool.and_eq_true, Bool.and_eq_false_imp, decide_eq_true_eq, decide_eq_false_iff_not, Bool.not_eq_true', Bool.not_eq_false', Bool.not_eq_true, Bool.not_eq_false, Bool.not_true, Bool.not_false, ne_eq] at hc118'
      refine rc_seq ?_
      refine rc_region ?_
      refine rd_op (ov_bin rfl rfl i_eql) ?_
      refine rd_op (ov_move rfl) ?_
      refine rd_nil ?_
      refine pn_seq ?_
      refine rc_cond rfl (fun hc119 => ?_) (fun hc119 => ?_)
      · replace hres := (ite_t hc119).symm.trans hres
        have hc119' := hc119
        try simp only [Bool.or_eq_true, Bool.or_eq_false_iff, Bool.and_eq_true, Bool.and_eq_false_imp, decide_eq_true_eq, decide_eq_false_iff_not, Bool.not_eq_true', Bool.not_eq_false', Bool.not_eq_true, Bool.not_eq_false, Bool.not_true, Bool.not_false, ne_eq] at hc119'
        refine rc_skip ?_
        refine pn_seq (rc_weak ((sub_cons rfl (sub_cons rfl (sub_cons rfl (sub_cons rfl (sub_nil _)))))) (J _ _ (Mem.sub M101 (.cons_cons _ .slnil)) hres))
      · replace hres := (ite_f hc119).symm.trans hres
        have hc119' := hc119
        try simp only [Bool.or_eq_true, Bool.or_eq_false_iff, Bool.and_eq_true, Bool.and_eq_false_imp, decide_eq_true_eq, decide_eq_false_iff_not, Bool.not_eq_true', Bool.not_eq_false', Bool.not_eq_true, Bool.not_eq_false, Bool.not_true, Bool.not_false, ne_eq] at hc119'
        refine rc_region ?_
        refine rd_op (ov_bin rfl rfl i_eql) ?_
        refine rd_op (ov_move rfl) ?_
        refine rd_nil ?_
        refine pn_seq (rc_weak ((sub_cons rfl (sub_cons rfl (sub_cons rfl (sub_cons rfl (sub_nil _)))))) (J _ _ (Mem.sub M101 (.cons_cons _ .slnil)) hres))

/-- patchbay/patchbayref13.EqualNodes -/
def RF59 (res : Bool) (r : PV) : Prop := r = vb res
theorem ref13_EqualNodes_L1_ok {S : List Fr} {res : Bool} {x0 : List api_ExprNode} {x1 : List api_ExprNode} {v0 : PV} {v1 : PV} (r0 : (tSl api_ExprNode.t).R x0 v0) (r1 : (tSl api_ExprNode.t).R x1 v1) (hc101 : (!decide ((x0.length : Int) = (x1.length : Int))) = false) {K0 : Unit → Bool}
    (hK0 : K0 () = res → PX Try.prog 0 S (QR Try.prog [(4, none)] (RF59 res)) [] ⟨0, []⟩) :
    ∀ (m : Nat) (x5_ : Int) (hm1 : m = Int.toNat ((x0.length : Int) - x5_)) (hlo1 : 0 ≤ x5_), ref13_EqualNodes_L1 x0 x1 K0 m x5_ = res → RC Try.prog (.loop ac59_L1) S (QR Try.prog [(4, none)] (RF59 res)) [(5, vi x5_), (1, v1), (0, v0)] ⟨0, []⟩ := by
  have hc101' := hc101
  try simp only [Bool.or_eq_true, Bool.or_eq_false_iff, Bool.and_eq_true, Bool.and_eq_false_imp, decide_eq_true_eq, decide_eq_false_iff_not, Bool.not_eq_true', Bool.not_eq_false', Bool.not_eq_true, Bool.not_eq_false, Bool.not_true, Bool.not_false, ne_eq] at hc101'
  intro m
  induction m with
  | zero =>
    intro x5_ hm1 hlo1 hres
    rw [ref13_EqualNodes_L1] at hres
    refine rc_loop ?_
    unfold ac59_L1
    refine rc_seq ?_
    refine rc_seq ?_
    refine rc_region ?_
    refine rd_op (ov_move rfl) ?_
    refine rd_op (ov_move rfl) ?_
    refine rd_op (ov_bi rfl (sl_len r0 Try.underlying38 _)) ?_
    refine rd_op (ov_bin rfl rfl i_lss) ?_
    refine rd_nil ?_
    refine pn_seq ?_
    refine rc_cond rfl (fun hc102 => ?_) (fun hc102 => ?_)
    · exfalso
      try simp only [Bool.or_eq_true, Bool.or_eq_false_iff, Bool.and_eq_true, Bool.and_eq_false_imp, decide_eq_true_eq, decide_eq_false_iff_not, Bool.not_eq_true', Bool.not_eq_false', Bool.not_eq_true, Bool.not_eq_false, Bool.not_true, Bool.not_false, ne_eq] at hc102
      omega
    · have hend := hres
      have hc102' := hc102
      try simp only [Bool.or_eq_true, Bool.or_eq_false_iff, Bool.and_eq_true, Bool.and_eq_false_imp, decide_eq_true_eq, decide_eq_false_iff_not, Bool.not_eq_true', Bool.not_eq_false', Bool.not_eq_true, Bool.not_eq_false, Bool.not_true, Bool.not_false, ne_eq] at hc102'
      refine rc_exit ?_
      refine px_seq ?_
      refine px_again ?_
      exact px_weak ((sub_nil _)) (hK0  hres)
  | succ m ih =>
    intro x5_ hm1 hlo1 hres
    rw [ref13_EqualNodes_L1] at hres
    refine rc_loop ?_
    unfold ac59_L1
    refine rc_seq ?_
    refine rc_seq ?_
    refine rc_region ?_
    refine rd_op (ov_move rfl) ?_
    refine rd_op (ov_move rfl) ?_
    refine rd_op (ov_bi rfl (sl_len r0 Try.underlying38 _)) ?_
    refine rd_op (ov_bin rfl rfl i_lss) ?_
    refine rd_nil ?_
    refine pn_seq ?_
    refine rc_cond rfl (fun hc103 => ?_) (fun hc103 => ?_)
    · have hgo := hres
      have hc103' := hc103
      try simp only [Bool.or_eq_true, Bool.or_eq_false_iff, Bool.and_eq_true, Bool.and_eq_false_imp, decide_eq_true_eq, decide_eq_false_iff_not, Bool.not_eq_true', Bool.not_eq_false', Bool.not_eq_true, Bool.not_eq_false, Bool.not_true, Bool.not_false, ne_eq] at hc103'
      refine rc_skip ?_
      refine pn_seq ?_
      refine rc_seq ?_
      refine rc_block ?_
      refine rc_seq ?_
      refine rc_region ?_
      refine rd_op (ov_move rfl) ?_
      refine rd_op (ov_move rfl) ?_
      obtain ⟨v104, e104, r104⟩ := sl_idx (i := x5_) r0 (by omega) (by omega)
      refine rd_op (ov_iaddr rfl rfl e104) ?_
      refine rd_op (ov_load rfl (TR.cnt api_ExprNode.t r104) (TR.agg api_ExprNode.t r104)) ?_
      obtain ⟨y105, hw105, hres⟩ := let_ex hres
      obtain ⟨v106, f105, r106⟩ := f79_ok  r104 
      rw [hw105] at r106
      refine rd_call (cv_fn rfl rfl (clL_cons (TR.clo api_ExprNode.t r104) clL_nil) f105) ?_
      refine rd_op (ov_move rfl) ?_
      refine rd_op (ov_move rfl) ?_
      obtain ⟨v107, e107, r107⟩ := sl_idx (i := x5_) r1 (by omega) (by omega)
      refine rd_op (ov_iaddr rfl rfl e107) ?_
      refine rd_op (ov_load rfl (TR.cnt api_ExprNode.t r107) (TR.agg api_ExprNode.t r107)) ?_
      obtain ⟨y108, hw108, hres⟩ := let_ex hres
      obtain ⟨v109, f108, r109⟩ := f79_ok  r107 
      rw [hw108] at r109
      refine rd_call (cv_fn rfl rfl (clL_cons (TR.clo api_ExprNode.t r107) clL_nil) f108) ?_
      refine rd_op (ov_bin rfl rfl (api_ExprNode.neq_106 r106 r109)) ?_
      refine rd_nil ?_
      refine pn_seq ?_
      refine rc_cond rfl (fun hc110 => ?_) (fun hc110 => ?_)
      · replace hres := (ite_t hc110).symm.trans hres
        have hc110' := hc110
        try simp only [Bool.or_eq_true, Bool.or_eq_false_iff, Bool.and_eq_true, Bool.and_eq_false_imp, decide_eq_true_eq, decide_eq_false_iff_not, Bool.not_eq_true', Bool.not_eq_false', Bool.not_eq_true, Bool.not_eq_false, Bool.not_true, Bool.not_false, ne_eq] at hc110'
        refine rc_seq ?_
        refine rc_region ?_
        refine rd_op (v := vb false) (ov_move rfl) ?_
        refine rd_nil ?_
        refine pn_seq ?_
        subst hres
        exact rc_retV (.tmp rfl .nil) (deep_closed rfl) rfl
      · replace hres := (ite_f hc110).symm.trans hres
        have hc110' := hc110
        try simp only [Bool.or_eq_true, Bool.or_eq_false_iff, Bool.and_eq_true, Bool.and_eq_false_imp, decide_eq_true_eq, decide_eq_false_iff_not, Bool.not_eq_true', Bool.not_eq_false', Bool.not_eq_true, Bool.not_eq_false, Bool.not_true, Bool.not_false, ne_eq] at hc110'
        refine rc_skip ?_
        refine pn_blk ?_
        refine pn_seq ?_
        refine rc_region ?_
        refine rd_op (ov_move rfl) ?_
        refine rd_op (ov_bin rfl rfl i_add) ?_
        refine rd_op (ov_move rfl) ?_
        refine rd_nil ?_
        refine pn_again ?_
        have hbd := sl_bound r0
        have hinc : wr (x5_ + 1) = x5_ + 1 := wr_of (by omega) (by omega)
        rw [hinc]
        refine rc_weak ?_ (ih (x5_ + 1)  (by omega) (by omega) hres)
        exact ((sub_cons rfl (sub_cons rfl (sub_cons rfl (sub_nil _)))))
    · exfalso
      try simp only [Bool.or_eq_true, Bool.or_eq_false_iff, Bool.and_eq_true, Bool.and_eq_false_imp, decide_eq_true_eq, decide_eq_false_iff_not, Bool.not_eq_true', Bool.not_eq_false', Bool.not_eq_true, Bool.not_eq_false, Bool.not_true, Bool.not_false, ne_eq] at hc103
      omega

theorem f59_ok {x0 : List api_ExprNode} {x1 : List api_ExprNode} {v0 : PV} {v1 : PV} (r0 : (tSl api_ExprNode.t).R x0 v0) (r1 : (tSl api_ExprNode.t).R x1 v1) : FnR Try.prog 59 [v0, v1] (vb (ref13_EqualNodes x0 x1)) := by
  obtain ⟨res, hres⟩ : ∃ res, ref13_EqualNodes x0 x1 = res := ⟨_, rfl⟩
  suffices H : RC Try.prog ac59 [] (QR Try.prog [(4, none)] (RF59 res)) (argE 0 [v0, v1]) ⟨0, []⟩ by
    obtain ⟨r, h1, h2⟩ := fnE text59 (by simp) H
    rw [hres]
    have h2 : r = vb res := h2
    rw [← h2]; exact h1
  unfold ref13_EqualNodes at hres
  unfold ac59
  refine rc_seq ?_
  refine rc_region ?_
  refine rd_op (v := vb false) (ov_move rfl) ?_
  refine rd_nil ?_
  refine pn_seq ?_
  refine rc_seq ?_
  refine rc_seq ?_
  refine rc_region ?_
  refine rd_op (ov_move rfl) ?_
  refine rd_op (ov_bi rfl (sl_len r0 Try.underlying38 _)) ?_
  refine rd_op (ov_move rfl) ?_
  refine rd_op (ov_bi rfl (sl_len r1 Try.underlying38 _)) ?_
  refine rd_op (ov_bin rfl rfl i_neq) ?_
  refine rd_nil ?_
  refine pn_seq ?_
  refine rc_cond rfl (fun hc101 => ?_) (fun hc101 => ?_)
  · replace hres := (ite_t hc101).symm.trans hres
    have hc101' := hc101
    try simp only [Bool.or_eq_true, Bool.or_eq_false_iff, Bool.and_eq_true, Bool.and_eq_false_imp, decide_eq_true_eq, decide_eq_false_iff_not, Bool.not_eq_true', Bool.not_eq_false', Bool.not_eq_true, Bool.not_eq_false, Bool.not_true, Bool.not_false, ne_eq] at hc101'
    refine rc_seq ?_
    refine rc_region ?_
    refine rd_op (v := vb false) (ov_move rfl) ?_
    refine rd_nil ?_
    refine pn_seq ?_
    subst hres
    exact rc_retV (.tmp rfl .nil) (deep_closed rfl) rfl
  · replace hres := (ite_f hc101).symm.trans hres
    have hc101' := hc101
    try simp only [Bool.or_eq_true, Bool.or_eq_false_iff, Bool.and_eq_true, Bool.and_eq_false_imp, decide_eq_true_eq, decide_eq_false_iff_not, Bool.not_eq_true', Bool.not_eq_false', Bool.not_eq_true, Bool.not_eq_false, Bool.not_true, Bool.not_false, ne_eq] at hc101'
    refine rc_skip ?_
    refine pn_seq ?_
    refine rc_seq ?_
    refine rc_seq ?_
    refine rc_region ?_
    refine rd_op (v := vi 0) (ov_move rfl) ?_
    refine rd_nil ?_
    refine pn_seq ?_
    refine rc_block ?_
    refine rc_weak ?_ (ref13_EqualNodes_L1_ok (x0 := x0) (x1 := x1) (v0 := v0) (v1 := v1)  (r0 := r0) (r1 := r1) (hc101 := hc101) ?_ (Int.toNat ((x0.length : Int) - 0)) 0 rfl (by omega) hres)
    · exact ((sub_cons rfl (sub_cons rfl (sub_cons rfl (sub_nil _)))))
    · intro  hres
      refine px_blk ?_
      refine pn_seq ?_
      refine rc_seq ?_
      refine rc_region ?_
      refine rd_op (v := vb true) (ov_move rfl) ?_
      refine rd_nil ?_
      refine pn_seq ?_
      subst hres
      exact rc_retV (.tmp rfl .nil) (deep_closed rfl) rfl

/-- patchbay/patchbayref20.Equal -/
def RF27 (res : Bool) (r : PV) : Prop := r = vb res
theorem ref20_Equal_L1_ok {S : List Fr} {res : Bool} {x0 : List api_ControlNode} {x1 : List api_ControlNode} {rec_ : (List api_ControlNode) → (List api_ControlNode) → Bool} {mu_ : Nat} {v0 : PV} {v1 : PV} (r0 : (tSl api_ControlNode.t).R x0 v0) (r1 : (tSl api_ControlNode.t).R x1 v1) (ihR : ∀ {z0 : List api_ControlNode} {z1 : List api_ControlNode} {zv0 : PV} {zv1 : PV} (zr0 : (tSl api_ControlNode.t).R z0 zv0) (zr1 : (tSl api_ControlNode.t).R z1 zv1), csl z0 < mu_ → FnR Try.prog 27 [zv0, zv1] (vb (rec_ z0 z1))) (hmu : mu_ = csl x0) (hc101 : (!decide ((x0.length : Int) = (x1.length : Int))) = false) {K0 : Unit → Bool}
    (hK0 : ∀ (h : Heap) (M0 : Mem h []), K0 () = res → PX Try.prog 0 S (QR Try.prog [(4, none)] (RF27 res)) [] h) :
    ∀ (m : Nat) (x5_ : Int) (hm1 : m = Int.toNat ((x0.length : Int) - x5_)) (hlo1 : 0 ≤ x5_) (h : Heap) (M0 : Mem h []), ref20_Equal_L1 x0 x1 rec_ K0 m x5_ = res → RC Try.prog (.loop ac27_L1) S (QR Try.prog [(4, none)] (RF27 res)) [(5, vi x5_), (1, v1), (0, v0)] h := by
  have hc101' := hc101
  try simp only [Bool.or_eq_true, Bool.or_eq_false_iff, Bool.and_eq_true, Bool.and_eq_false_imp, decide_eq_true_eq, decide_eq_false_iff_not, Bool.not_eq_true', Bool.not_eq_false', Bool.not_eq_true, Bool.not_eq_false, Bool.not_true, Bool.not_false, ne_eq] at hc101'
  intro m
  induction m with
  | zero =>
    intro x5_ hm1 hlo1 h M0 hres
    rw [ref20_Equal_L1] at hres
    refine rc_loop ?_
    unfold ac27_L1
    refine rc_seq ?_
    refine rc_seq ?_
    refine rc_region ?_
    refine rd_op (ov_move rfl) ?_
    refine rd_op (ov_move rfl) ?_
    refine rd_op (ov_bi rfl (sl_len r0 Try.underlying28 _)) ?_
    refine rd_op (ov_bin rfl rfl i_lss) ?_
    refine rd_nil ?_
    refine pn_seq ?_
    refine rc_cond rfl (fun hc102 => ?_) (fun hc102 => ?_)
    · exfalso
      try simp only [Bool.or_eq_true, Bool.or_eq_false_iff, Bool.and_eq_true, Bool.and_eq_false_imp, decide_eq_true_eq, decide_eq_false_iff_not, Bool.not_eq_true', Bool.not_eq_false', Bool.not_eq_true, Bool.not_eq_false, Bool.not_true, Bool.not_false, ne_eq] at hc102
      omega
    · have hend := hres
      have hc102' := hc102
      try simp only [Bool.or_eq_true, Bool.or_eq_false_iff, Bool.and_eq_true, Bool.and_eq_false_imp, decide_eq_true_eq, decide_eq_false_iff_not, Bool.not_eq_true', Bool.not_eq_false', Bool.not_eq_true, Bool.not_eq_false, Bool.not_true, Bool.not_false, ne_eq] at hc102'
      refine rc_exit ?_
      refine px_seq ?_
      refine px_again ?_
      exact px_weak ((sub_nil _)) (hK0 _ (Mem.sub M0 .slnil) hres)
  | succ m ih =>
    intro x5_ hm1 hlo1 h M0 hres
    rw [ref20_Equal_L1] at hres
    refine rc_loop ?_
    unfold ac27_L1
    refine rc_seq ?_
    refine rc_seq ?_
    refine rc_region ?_
    refine rd_op (ov_move rfl) ?_
    refine rd_op (ov_move rfl) ?_
    refine rd_op (ov_bi rfl (sl_len r0 Try.underlying28 _)) ?_
    refine rd_op (ov_bin rfl rfl i_lss) ?_
    refine rd_nil ?_
    refine pn_seq ?_
    refine rc_cond rfl (fun hc103 => ?_) (fun hc103 => ?_)
    · have hgo := hres
      have hc103' := hc103
      try simp only [Bool.or_eq_true, Bool.or_eq_false_iff, Bool.and_eq_true, Bool.and_eq_false_imp, decide_eq_true_eq, decide_eq_false_iff_not, Bool.not_eq_true', Bool.not_eq_false', Bool.not_eq_true, Bool.not_eq_false, Bool.not_true, Bool.not_false, ne_eq] at hc103'
      refine rc_skip ?_
      refine pn_seq ?_
      refine rc_seq ?_
      refine rc_block ?_
      refine rc_seq ?_
      refine rc_region ?_
      refine rd_op (ov_move rfl) ?_
      refine rd_op (ov_move rfl) ?_
      obtain ⟨v104, e104, r104⟩ := sl_idx (i := x5_) r0 (by omega) (by omega)
      refine rd_op (ov_iaddr rfl rfl e104) ?_
      refine rd_op (ov_load rfl (TR.cnt api_ControlNode.t r104) (TR.agg api_ControlNode.t r104)) ?_
      refine rd_op (ov_move rfl) ?_
      refine rd_op (ov_move rfl) ?_
      obtain ⟨v105, e105, r105⟩ := sl_idx (i := x5_) r1 (by omega) (by omega)
      refine rd_op (ov_iaddr rfl rfl e105) ?_
      refine rd_op (ov_load rfl (TR.cnt api_ControlNode.t r105) (TR.agg api_ControlNode.t r105)) ?_
      refine rd_allocO (x := .agg [vi 0, vi 0, nilS, nilS, nilS]) M0 rfl rfl (fun i106 w106 h106 M106 => ?_)
      refine rd_allocO (x := .agg [vi 0, vi 0, nilS, nilS, nilS]) M106 rfl rfl (fun i108 w108 h108 M108 => ?_)
      refine rd_storeO (k := 1) (v := v104) M108 rfl rfl rfl (TR.cnt api_ControlNode.t r104) (fun h110 M110 => ?_)
      replace M110 : Mem h110 [⟨.op i108 w108 0, 40, 5, [.agg [vi 0, vi 0, nilS, nilS, nilS]]⟩, ⟨.op i106 w106 0, 40, 5, [v104]⟩] := M110
      refine rd_storeO (k := 0) (v := v105) M110 rfl rfl rfl (TR.cnt api_ControlNode.t r105) (fun h111 M111 => ?_)
      replace M111 : Mem h111 [⟨.op i108 w108 0, 40, 5, [v105]⟩, ⟨.op i106 w106 0, 40, 5, [v104]⟩] := M111
      refine rd_nil ?_
      refine pn_seq ?_
      refine rc_seq ?_
      refine rc_seq ?_
      refine rc_region ?_
      refine rd_op (ov_faddrO rfl) ?_
      refine rd_op (ov_loadf (k := 1) M111 rfl rfl (api_ControlNode.g_Kind r104)) ?_
      refine rd_op (ov_faddrO rfl) ?_
      refine rd_op (ov_loadf (k := 0) M111 rfl rfl (api_ControlNode.g_Kind r105)) ?_
      refine rd_op (ov_bin rfl rfl i_neq) ?_
      refine rd_op (ov_move rfl) ?_
      refine rd_cut (d := 43) (v := vb ((!decide (((ix x0 x5_).Kind) = ((ix x1 x5_).Kind))) || ((!decide (((ix x0 x5_).Kind) = 2)) && (!decide (((ix x0 x5_).Table) = ((ix x1 x5_).Table)))))) ?_ ?_
      · intro S Q r
        simp only [ac27_G1, List.cons_append, List.nil_append, List.append_assoc]
        cases hb112 : (!decide (((ix x0 x5_).Kind) = ((ix x1 x5_).Kind)))
        · intro k
          have hb112' := hb112
          try simp only [Bool.or_eq_true, Bool.or_eq_false_iff, Bool.and_eq_true, Bool.and_eq_false_imp, decide_eq_true_eq, decide_eq_false_iff_not, Bool.not_eq_true', Bool.not_eq_false', Bool.not_eq_true, Bool.not_eq_false, Bool.not_true, Bool.not_false, ne_eq] at hb112'
          refine rd_yes rfl rfl (ov_faddrO rfl) ?_
          refine rd_yes rfl rfl (ov_loadf (k := 1) M111 rfl rfl (api_ControlNode.g_Kind r104)) ?_
          refine rd_yes rfl rfl (ov_bin rfl rfl i_neq) ?_
          refine rd_yes rfl rfl (ov_move rfl) ?_
          refine rd_cut (d := 42) (v := vb ((!decide (((ix x0 x5_).Kind) = 2)) && (!decide (((ix x0 x5_).Table) = ((ix x1 x5_).Table))))) ?_ ?_
          · intro S Q r
            simp only [ac27_G2, List.cons_append, List.nil_append, List.append_assoc]
            cases hb113 : (!decide (((ix x0 x5_).Kind) = 2))
            · intro k
              refine rd_skip rfl rfl ?_
              refine rd_skip rfl rfl ?_
              refine rd_skip rfl rfl ?_
              refine rd_skip rfl rfl ?_
              refine rd_skip rfl rfl ?_
              refine rd_yes (v := vb false) rfl rfl (ov_pick rfl rfl rfl rfl) ?_
              exact rd_weak (sub_cons rfl (sub_skip rfl (sub_skip rfl (sub_skip rfl (sub_skip rfl (sub_skip rfl (sub_skip rfl (sub_refl _)))))))) k
            · intro k
              have hb113' := hb113
              try simp only [Bool.or_eq_true, Bool.or_eq_false_iff, Bool.and_eq_true, Bool.and_eq_false_imp, decide_eq_true_eq, decide_eq_false_iff_not, Bool.not_eq_true', Bool.not_eq_false', Bool.not_eq_true, Bool.not_eq_false, Bool.not_true, Bool.not_false, ne_eq] at hb113'
              refine rd_yes rfl rfl (ov_faddrO rfl) ?_
              refine rd_yes rfl rfl (ov_loadf (k := 1) M111 rfl rfl (api_ControlNode.g_Table r104)) ?_
              refine rd_yes rfl rfl (ov_faddrO rfl) ?_
              refine rd_yes rfl rfl (ov_loadf (k := 0) M111 rfl rfl (api_ControlNode.g_Table r105)) ?_
              refine rd_yes rfl rfl (ov_bin rfl rfl i_neq) ?_
              refine rd_yes (v := vb (!decide (((ix x0 x5_).Table) = ((ix x1 x5_).Table)))) rfl rfl (ov_pick rfl rfl rfl rfl) ?_
              exact rd_weak (sub_cons rfl (sub_skip rfl (sub_skip rfl (sub_skip rfl (sub_skip rfl (sub_skip rfl (sub_skip rfl (sub_refl _)))))))) k
          refine rd_op (v := vb ((!decide (((ix x0 x5_).Kind) = 2)) && (!decide (((ix x0 x5_).Table) = ((ix x1 x5_).Table))))) (ov_pick rfl rfl rfl rfl) ?_
          exact rd_weak (sub_cons rfl (sub_skip rfl (sub_skip rfl (sub_skip rfl (sub_skip rfl (sub_skip rfl (sub_skip rfl (sub_refl _)))))))) k
        · intro k
          simp only [ac27_G2, List.cons_append, List.nil_append, List.append_assoc]
          refine rd_skip rfl rfl ?_
          refine rd_skip rfl rfl ?_
          refine rd_skip rfl rfl ?_
          refine rd_skip rfl rfl ?_
          refine rd_skipU rfl ?_
          refine rd_skipU rfl ?_
          refine rd_skipU rfl ?_
          refine rd_skipU rfl ?_
          refine rd_skipU rfl ?_
          refine rd_skip rfl rfl ?_
          refine rd_op (v := vb true) (ov_pick rfl rfl rfl rfl) ?_
          exact rd_weak (sub_cons rfl (sub_skip rfl (sub_skip rfl (sub_skip rfl (sub_skip rfl (sub_skip rfl (sub_skip rfl (sub_skip rfl (sub_skip rfl (sub_skip rfl (sub_skip rfl (sub_skip rfl (sub_refl _))))))))))))) k
      refine rd_op (ov_move rfl) ?_
      refine rd_cut (d := 51) (v := vb (((!decide (((ix x0 x5_).Kind) = ((ix x1 x5_).Kind))) || ((!decide (((ix x0 x5_).Kind) = 2)) && (!decide (((ix x0 x5_).Table) = ((ix x1 x5_).Table))))) || (!(rec_ ((ix x0 x5_).Then) ((ix x1 x5_).Then))))) ?_ ?_
      · intro S Q r
        simp only [ac27_G3, List.cons_append, List.nil_append, List.append_assoc]
        cases hb114 : ((!decide (((ix x0 x5_).Kind) = ((ix x1 x5_).Kind))) || ((!decide (((ix x0 x5_).Kind) = 2)) && (!decide (((ix x0 x5_).Table) = ((ix x1 x5_).Table)))))
        · intro k
          have hb114' := hb114
          try simp only [Bool.or_eq_true, Bool.or_eq_false_iff, Bool.and_eq_true, Bool.and_eq_false_imp, decide_eq_true_eq, decide_eq_false_iff_not, Bool.not_eq_true', Bool.not_eq_false', Bool.not_eq_true, Bool.not_eq_false, Bool.not_true, Bool.not_false, ne_eq] at hb114'
          refine rd_yes rfl rfl (ov_faddrO rfl) ?_
          obtain ⟨v115, e115, r115⟩ := api_ControlNode.g_Then r104
          refine rd_yes rfl rfl (ov_loadf (k := 1) M111 rfl rfl e115) ?_
          refine rd_yes rfl rfl (ov_faddrO rfl) ?_
          obtain ⟨v116, e116, r116⟩ := api_ControlNode.g_Then r105
          refine rd_yes rfl rfl (ov_loadf (k := 0) M111 rfl rfl e116) ?_
          have f117 := ihR (z0 := (ix x0 x5_).Then) (z1 := (ix x1 x5_).Then) r115 r116  (by (have hk := csl_ix (l := x0) (by omega) (by omega); omega))
          refine rd_ycall rfl rfl (cv_fn rfl rfl (clL_cons (TR.clo (tSl api_ControlNode.t) r115) (clL_cons (TR.clo (tSl api_ControlNode.t) r116) clL_nil)) f117) ?_
          refine rd_yes rfl rfl (ov_not rfl) ?_
          refine rd_op (v := vb (!(rec_ ((ix x0 x5_).Then) ((ix x1 x5_).Then)))) (ov_pick rfl rfl rfl rfl) ?_
          exact rd_weak (sub_cons rfl (sub_skip rfl (sub_skip rfl (sub_skip rfl (sub_skip rfl (sub_skip rfl (sub_skip rfl (sub_skip rfl (sub_refl _))))))))) k
        · intro k
          refine rd_skip rfl rfl ?_
          refine rd_skip rfl rfl ?_
          refine rd_skip rfl rfl ?_
          refine rd_skip rfl rfl ?_
          refine rd_skip rfl rfl ?_
          refine rd_skip rfl rfl ?_
          refine rd_op (v := vb true) (ov_pick rfl rfl rfl rfl) ?_
          exact rd_weak (sub_cons rfl (sub_skip rfl (sub_skip rfl (sub_skip rfl (sub_skip rfl (sub_skip rfl (sub_skip rfl (sub_skip rfl (sub_refl _))))))))) k
      refine rd_op (ov_move rfl) ?_
      refine rd_cut (d := 59) (v := vb ((((!decide (((ix x0 x5_).Kind) = ((ix x1 x5_).Kind))) || ((!decide (((ix x0 x5_).Kind) = 2)) && (!decide (((ix x0 x5_).Table) = ((ix x1 x5_).Table))))) || (!(rec_ ((ix x0 x5_).Then) ((ix x1 x5_).Then)))) || (!(rec_ ((ix x0 x5_).Else) ((ix x1 x5_).Else))))) ?_ ?_
      · intro S Q r
        simp only [ac27_G4, List.cons_append, List.nil_append, List.append_assoc]
        cases hb118 : (((!decide (((ix x0 x5_).Kind) = ((ix x1 x5_).Kind))) || ((!decide (((ix x0 x5_).Kind) = 2)) && (!decide (((ix x0 x5_).Table) = ((ix x1 x5_).Table))))) || (!(rec_ ((ix x0 x5_).Then) ((ix x1 x5_).Then))))
        · intro k
          have hb118' := hb118
          try simp only [Bool.or_eq_true, Bool.or_eq_false_iff, Bool.and_eq_true, Bool.and_eq_false_imp, decide_eq_true_eq, decide_eq_false_iff_not, Bool.not_eq_true', Bool.not_eq_false', Bool.not_eq_true, Bool.not_eq_false, Bool.not_true, Bool.not_false, ne_eq] at hb118'
          refine rd_yes rfl rfl (ov_faddrO rfl) ?_
          obtain ⟨v119, e119, r119⟩ := api_ControlNode.g_Else r104
          refine rd_yes rfl rfl (ov_loadf (k := 1) M111 rfl rfl e119) ?_
          refine rd_yes rfl rfl (ov_faddrO rfl) ?_
          obtain ⟨v120, e120, r120⟩ := api_ControlNode.g_Else r105
          refine rd_yes rfl rfl (ov_loadf (k := 0) M111 rfl rfl e120) ?_
          have f121 := ihR (z0 := (ix x0 x5_).Else) (z1 := (ix x1 x5_).Else) r119 r120  (by (have hk := csl_ix (l := x0) (by omega) (by omega); omega))
          refine rd_ycall rfl rfl (cv_fn rfl rfl (clL_cons (TR.clo (tSl api_ControlNode.t) r119) (clL_cons (TR.clo (tSl api_ControlNode.t) r120) clL_nil)) f121) ?_
          refine rd_yes rfl rfl (ov_not rfl) ?_
          refine rd_op (v := vb (!(rec_ ((ix x0 x5_).Else) ((ix x1 x5_).Else)))) (ov_pick rfl rfl rfl rfl) ?_
          exact rd_weak (sub_cons rfl (sub_skip rfl (sub_skip rfl (sub_skip rfl (sub_skip rfl (sub_skip rfl (sub_skip rfl (sub_skip rfl (sub_refl _))))))))) k
        · intro k
          refine rd_skip rfl rfl ?_
          refine rd_skip rfl rfl ?_
          refine rd_skip rfl rfl ?_
          refine rd_skip rfl rfl ?_
          refine rd_skip rfl rfl ?_
          refine rd_skip rfl rfl ?_
          refine rd_op (v := vb true) (ov_pick rfl rfl rfl rfl) ?_
          exact rd_weak (sub_cons rfl (sub_skip rfl (sub_skip rfl (sub_skip rfl (sub_skip rfl (sub_skip rfl (sub_skip rfl (sub_skip rfl (sub_refl _))))))))) k
      refine rd_nil ?_
      refine pn_seq ?_
      refine rc_cond rfl (fun hc122 => ?_) (fun hc122 => ?_)
      · replace hres := (ite_t hc122).symm.trans hres
        have hc122' := hc122
        try simp only [Bool.or_eq_true, Bool.or_eq_false_iff, Bool.and_eq_true, Bool.and_eq_false_imp, decide_eq_true_eq, decide_eq_false_iff_not, Bool.not_eq_true', Bool.not_eq_false', Bool.not_eq_true, Bool.not_eq_false, Bool.not_true, Bool.not_false, ne_eq] at hc122'
        refine rc_seq ?_
        refine rc_region ?_
        refine rd_op (v := vb false) (ov_move rfl) ?_
        refine rd_nil ?_
        refine pn_seq ?_
        subst hres
        exact rc_retV (.tmp rfl .nil) (deep_closed rfl) rfl
      · replace hres := (ite_f hc122).symm.trans hres
        have hc122' := hc122
        try simp only [Bool.or_eq_true, Bool.or_eq_false_iff, Bool.and_eq_true, Bool.and_eq_false_imp, decide_eq_true_eq, decide_eq_false_iff_not, Bool.not_eq_true', Bool.not_eq_false', Bool.not_eq_true, Bool.not_eq_false, Bool.not_true, Bool.not_false, ne_eq] at hc122'
        refine rc_skip ?_
        refine pn_seq ?_
        refine rc_seq ?_
        refine rc_region ?_
        refine rd_op (ov_faddrO rfl) ?_
        refine rd_op (ov_loadf (k := 1) M111 rfl rfl (api_ControlNode.g_Kind r104)) ?_
        refine rd_op (ov_bin rfl rfl i_eql) ?_
        refine rd_op (ov_move rfl) ?_
        refine rd_cut (d := 70) (v := vb ((decide (((ix x0 x5_).Kind) = 2)) && (!(ref13_EqualNodes ((ix x0 x5_).Cond) ((ix x1 x5_).Cond))))) ?_ ?_
        · intro S Q r
          simp only [ac27_G5, List.cons_append, List.nil_append, List.append_assoc]
          cases hb123 : (decide (((ix x0 x5_).Kind) = 2))
          · intro k
            refine rd_skip rfl rfl ?_
            refine rd_skip rfl rfl ?_
            refine rd_skip rfl rfl ?_
            refine rd_skip rfl rfl ?_
            refine rd_skip rfl rfl ?_
            refine rd_skip rfl rfl ?_
            refine rd_op (v := vb false) (ov_pick rfl rfl rfl rfl) ?_
            exact rd_weak (sub_cons rfl (sub_skip rfl (sub_skip rfl (sub_skip rfl (sub_skip rfl (sub_skip rfl (sub_skip rfl (sub_skip rfl (sub_refl _))))))))) k
          · intro k
            have hb123' := hb123
            try simp only [Bool.or_eq_true, Bool.or_eq_false_iff, Bool.and_eq_true, Bool.and_eq_false_imp, decide_eq_true_eq, decide_eq_false_iff_not, Bool.not_eq_true', Bool.not_eq_false', Bool.not_eq_true, Bool.not_eq_false, Bool.not_true, Bool.not_false, ne_eq] at hb123'
            refine rd_yes rfl rfl (ov_faddrO rfl) ?_
            obtain ⟨v124, e124, r124⟩ := api_ControlNode.g_Cond r104
            refine rd_yes rfl rfl (ov_loadf (k := 1) M111 rfl rfl e124) ?_
            refine rd_yes rfl rfl (ov_faddrO rfl) ?_
            obtain ⟨v125, e125, r125⟩ := api_ControlNode.g_Cond r105
            refine rd_yes rfl rfl (ov_loadf (k := 0) M111 rfl rfl e125) ?_
            have f126 := f59_ok  r124 r125 
            refine rd_ycall rfl rfl (cv_fn rfl rfl (clL_cons (TR.clo (tSl api_ExprNode.t) r124) (clL_cons (TR.clo (tSl api_ExprNode.t) r125) clL_nil)) f126) ?_
            refine rd_yes rfl rfl (ov_not rfl) ?_
            refine rd_op (v := vb (!(ref13_EqualNodes ((ix x0 x5_).Cond) ((ix x1 x5_).Cond)))) (ov_pick rfl rfl rfl rfl) ?_
            exact rd_weak (sub_cons rfl (sub_skip rfl (sub_skip rfl (sub_skip rfl (sub_skip rfl (sub_skip rfl (sub_skip rfl (sub_skip rfl (sub_refl _))))))))) k
        refine rd_nil ?_
        refine pn_seq ?_
        refine rc_cond rfl (fun hc127 => ?_) (fun hc127 => ?_)
        · replace hres := (ite_t hc127).symm.trans hres
          have hc127' := hc127
          try simp only [Bool.or_eq_true, Bool.or_eq_false_iff, Bool.and_eq_true, Bool.and_eq_false_imp, decide_eq_true_eq, decide_eq_false_iff_not, Bool.not_eq_true', Bool.not_eq_false', Bool.not_eq_true, Bool.not_eq_false, Bool.not_true, Bool.not_false, ne_eq] at hc127'
          refine rc_seq ?_
          refine rc_region ?_
          refine rd_op (v := vb false) (ov_move rfl) ?_
          refine rd_nil ?_
          refine pn_seq ?_
          subst hres
          exact rc_retV (.tmp rfl .nil) (deep_closed rfl) rfl
        · replace hres := (ite_f hc127).symm.trans hres
          have hc127' := hc127
          try simp only [Bool.or_eq_true, Bool.or_eq_false_iff, Bool.and_eq_true, Bool.and_eq_false_imp, decide_eq_true_eq, decide_eq_false_iff_not, Bool.not_eq_true', Bool.not_eq_false', Bool.not_eq_true, Bool.not_eq_false, Bool.not_true, Bool.not_false, ne_eq] at hc127'
          refine rc_skip ?_
          refine pn_blk ?_
          refine pn_seq ?_
          refine rc_region ?_
          refine rd_op (ov_move rfl) ?_
          refine rd_op (ov_bin rfl rfl i_add) ?_
          refine rd_op (ov_move rfl) ?_
          refine rd_nil ?_
          refine pn_again ?_
          have hbd := sl_bound r0
          have hinc : wr (x5_ + 1) = x5_ + 1 := wr_of (by omega) (by omega)
          rw [hinc]
          refine rc_weak ?_ (ih (x5_ + 1)  (by omega) (by omega) _ (Mem.sub M111 (.cons _ (.cons _ .slnil))) hres)
          exact ((sub_cons rfl (sub_cons rfl (sub_cons rfl (sub_nil _)))))
    · exfalso
      try simp only [Bool.or_eq_true, Bool.or_eq_false_iff, Bool.and_eq_true, Bool.and_eq_false_imp, decide_eq_true_eq, decide_eq_false_iff_not, Bool.not_eq_true', Bool.not_eq_false', Bool.not_eq_true, Bool.not_eq_false, Bool.not_true, Bool.not_false, ne_eq] at hc103
      omega

theorem f27_okB {rec_ : (List api_ControlNode) → (List api_ControlNode) → Bool} {mu_ : Nat} {x0 : List api_ControlNode} {x1 : List api_ControlNode} {v0 : PV} {v1 : PV} (r0 : (tSl api_ControlNode.t).R x0 v0) (r1 : (tSl api_ControlNode.t).R x1 v1) (hmu : mu_ = csl x0) (ihR : ∀ {z0 : List api_ControlNode} {z1 : List api_ControlNode} {zv0 : PV} {zv1 : PV} (zr0 : (tSl api_ControlNode.t).R z0 zv0) (zr1 : (tSl api_ControlNode.t).R z1 zv1), csl z0 < mu_ → FnR Try.prog 27 [zv0, zv1] (vb (rec_ z0 z1))) : FnR Try.prog 27 [v0, v1] (vb (ref20_Equal_B rec_ x0 x1)) := by
  obtain ⟨res, hres⟩ : ∃ res, ref20_Equal_B rec_ x0 x1 = res := ⟨_, rfl⟩
  suffices H : RC Try.prog ac27 [] (QR Try.prog [(4, none)] (RF27 res)) (argE 0 [v0, v1]) ⟨0, []⟩ by
    obtain ⟨r, h1, h2⟩ := fnE text27 (by simp) H
    rw [hres]
    have h2 : r = vb res := h2
    rw [← h2]; exact h1
  unfold ref20_Equal_B at hres
  unfold ac27
  refine rc_seq ?_
  refine rc_region ?_
  refine rd_op (v := vb false) (ov_move rfl) ?_
  refine rd_nil ?_
  refine pn_seq ?_
  refine rc_seq ?_
  refine rc_seq ?_
  refine rc_region ?_
  refine rd_op (ov_move rfl) ?_
  refine rd_op (ov_bi rfl (sl_len r0 Try.underlying28 _)) ?_
  refine rd_op (ov_move rfl) ?_
  refine rd_op (ov_bi rfl (sl_len r1 Try.underlying28 _)) ?_
  refine rd_op (ov_bin rfl rfl i_neq) ?_
  refine rd_nil ?_
  refine pn_seq ?_
  refine rc_cond rfl (fun hc101 => ?_) (fun hc101 => ?_)
  · replace hres := (ite_t hc101).symm.trans hres
    have hc101' := hc101
    try simp only [Bool.or_eq_true, Bool.or_eq_false_iff, Bool.and_eq_true, Bool.and_eq_false_imp, decide_eq_true_eq, decide_eq_false_iff_not, Bool.not_eq_true', Bool.not_eq_false', Bool.not_eq_true, Bool.not_eq_false, Bool.not_true, Bool.not_false, ne_eq] at hc101'
    refine rc_seq ?_
    refine rc_region ?_
    refine rd_op (v := vb false) (ov_move rfl) ?_
    refine rd_nil ?_
    refine pn_seq ?_
    subst hres
    exact rc_retV (.tmp rfl .nil) (deep_closed rfl) rfl
  · replace hres := (ite_f hc101).symm.trans hres
    have hc101' := hc101
    try simp only [Bool.or_eq_true, Bool.or_eq_false_iff, Bool.and_eq_true, Bool.and_eq_false_imp, decide_eq_true_eq, decide_eq_false_iff_not, Bool.not_eq_true', Bool.not_eq_false', Bool.not_eq_true, Bool.not_eq_false, Bool.not_true, Bool.not_false, ne_eq] at hc101'
    refine rc_skip ?_
    refine pn_seq ?_
    refine rc_seq ?_
    refine rc_seq ?_
    refine rc_region ?_
    refine rd_op (v := vi 0) (ov_move rfl) ?_
    refine rd_nil ?_
    refine pn_seq ?_
    refine rc_block ?_
    refine rc_weak ?_ (ref20_Equal_L1_ok (x0 := x0) (x1 := x1) (rec_ := rec_) (mu_ := mu_) (v0 := v0) (v1 := v1)  (r0 := r0) (r1 := r1) (ihR := ihR) (hmu := hmu) (hc101 := hc101) ?_ (Int.toNat ((x0.length : Int) - 0)) 0 rfl (by omega) _ (Mem.sub (Mem.nil ⟨0, []⟩) .slnil) hres)
    · exact ((sub_cons rfl (sub_cons rfl (sub_cons rfl (sub_nil _)))))
    · intro h128 M128 hres
      refine px_blk ?_
      refine pn_seq ?_
      refine rc_seq ?_
      refine rc_region ?_
      refine rd_op (v := vb true) (ov_move rfl) ?_
      refine rd_nil ?_
      refine pn_seq ?_
      subst hres
      exact rc_retV (.tmp rfl .nil) (deep_closed rfl) rfl
theorem f27_okR : ∀ (n_ : Nat) {x0 : List api_ControlNode} {x1 : List api_ControlNode} {v0 : PV} {v1 : PV} (r0 : (tSl api_ControlNode.t).R x0 v0) (r1 : (tSl api_ControlNode.t).R x1 v1), csl x0 < n_ → FnR Try.prog 27 [v0, v1] (vb (ref20_Equal_R n_ x0 x1)) := by
  intro n_
  induction n_ with
  | zero => intros; rename_i hlt; exact absurd hlt (Nat.not_lt_zero _)
  | succ n_ ihn =>
    intro x0 x1 v0 v1 r0 r1 hlt
    have e_ : ref20_Equal_R (n_ + 1) x0 x1 = ref20_Equal_B (ref20_Equal_R n_) x0 x1 := by rw [ref20_Equal_R]
    rw [e_]
    exact f27_okB r0 r1 rfl (fun {z0} {z1} {zv0} {zv1} zr0 zr1 hz => ihn zr0 zr1 (by omega))
theorem f27_ok {x0 : List api_ControlNode} {x1 : List api_ControlNode} {v0 : PV} {v1 : PV} (r0 : (tSl api_ControlNode.t).R x0 v0) (r1 : (tSl api_ControlNode.t).R x1 v1) : FnR Try.prog 27 [v0, v1] (vb (ref20_Equal x0 x1)) := f27_okR _ r0 r1 (Nat.lt_succ_self _)

/-- patchbay/patchbaylaw20.ControlQueries -/
def RF4 (res : Bool) (r : PV) : Prop := r = vb res
theorem f4_ok {x0 : List api_ControlNode} {x1 : Int} {v0 : PV} (r0 : (tSl api_ControlNode.t).R x0 v0) : FnR Try.prog 4 [v0, vi x1] (vb (law20_ControlQueries x0 x1)) := by
  obtain ⟨res, hres⟩ : ∃ res, law20_ControlQueries x0 x1 = res := ⟨_, rfl⟩
  suffices H : RC Try.prog ac4 [] (QR Try.prog [(4, none)] (RF4 res)) (argE 0 [v0, vi x1]) ⟨0, []⟩ by
    obtain ⟨r, h1, h2⟩ := fnE text4 (by simp) H
    rw [hres]
    have h2 : r = vb res := h2
    rw [← h2]; exact h1
  unfold law20_ControlQueries at hres
  unfold ac4
  refine rc_seq ?_
  refine rc_region ?_
  refine rd_op (v := vb false) (ov_move rfl) ?_
  refine rd_nil ?_
  refine pn_seq ?_
  refine rc_seq ?_
  refine rc_seq ?_
  refine rc_region ?_
  refine rd_op (ov_move rfl) ?_
  obtain ⟨y101, hw101, hres⟩ := let_ex hres
  have f101 := f14_ok (x1 := 60) r0 
  rw [hw101] at f101
  refine rd_call (cv_fn rfl rfl (clL_cons (TR.clo (tSl api_ControlNode.t) r0) (clL_cons rfl clL_nil)) f101) ?_
  refine rd_op (ov_not rfl) ?_
  refine rd_nil ?_
  refine pn_seq ?_
  refine rc_cond rfl (fun hc102 => ?_) (fun hc102 => ?_)
  · replace hres := (ite_t hc102).symm.trans hres
    have hc102' := hc102
    try simp only [Bool.or_eq_true, Bool.or_eq_false_iff, Bool.and_eq_true, Bool.and_eq_false_imp, decide_eq_true_eq, decide_eq_false_iff_not, Bool.not_eq_true', Bool.not_eq_false', Bool.not_eq_true, Bool.not_eq_false, Bool.not_true, Bool.not_false, ne_eq] at hc102'
    refine rc_seq ?_
    refine rc_region ?_
    obtain ⟨y103, hw103, hres⟩ := let_ex hres
    have f103 := f15_ok   
    rw [hw103] at f103
    refine rd_call (cv_fn rfl rfl clL_nil f103) ?_
    refine rd_op (ov_move rfl) ?_
    refine rd_nil ?_
    refine pn_seq ?_
    subst hres
    exact rc_retV (.tmp rfl .nil) (deep_closed rfl) rfl
  · replace hres := (ite_f hc102).symm.trans hres
    have hc102' := hc102
    try simp only [Bool.or_eq_true, Bool.or_eq_false_iff, Bool.and_eq_true, Bool.and_eq_false_imp, decide_eq_true_eq, decide_eq_false_iff_not, Bool.not_eq_true', Bool.not_eq_false', Bool.not_eq_true, Bool.not_eq_false, Bool.not_true, Bool.not_false, ne_eq] at hc102'
    refine rc_skip ?_
    refine pn_seq ?_
    refine rc_seq ?_
    refine rc_region ?_
    refine rd_op (ov_move rfl) ?_
    refine rd_op (ov_move rfl) ?_
    obtain ⟨y104, hw104, hres⟩ := let_ex hres
    obtain ⟨v105, f104, r105⟩ := f18_ok (x1 := x1) r0 (by exact small_gl (by assumption) (by assumption) (by omega))
    rw [hw104] at f104 r105
    refine rd_call (cv_fn rfl rfl (clL_cons (TR.clo (tSl api_ControlNode.t) r0) (clL_cons rfl clL_nil)) f104) ?_
    refine rd_op (ov_move rfl) ?_
    refine rd_op (ov_extract rfl rfl) ?_
    refine rd_op (ov_extract rfl rfl) ?_
    refine rd_allocO (x := .agg [vi 0, vi 0, nilS, nilS, nilS]) (Mem.nil ⟨0, []⟩) rfl rfl (fun i106 w106 h106 M106 => ?_)
    refine rd_storeO (k := 0) (v := v105) M106 rfl rfl rfl (TR.cnt api_ControlNode.t r105) (fun h108 M108 => ?_)
    replace M108 : Mem h108 [⟨.op i106 w106 0, 40, 5, [v105]⟩] := M108
    refine rd_op (ov_move rfl) ?_
    refine rd_nil ?_
    refine pn_seq ?_
    refine rc_seq ?_
    refine rc_region ?_
    refine rd_op (ov_move rfl) ?_
    refine rd_op (ov_move rfl) ?_
    obtain ⟨y109, hw109, hres⟩ := let_ex hres
    obtain ⟨v110, f109, r110⟩ := f19_ok (x1 := x1) r0 (by (have hk := small_csl (by assumption) (by assumption) (by omega); omega))
    rw [hw109] at f109 r110
    refine rd_call (cv_fn rfl rfl (clL_cons (TR.clo (tSl api_ControlNode.t) r0) (clL_cons rfl clL_nil)) f109) ?_
    refine rd_op (ov_move rfl) ?_
    refine rd_op (ov_extract rfl rfl) ?_
    refine rd_op (ov_extract rfl rfl) ?_
    refine rd_allocO (x := .agg [vi 0, vi 0, nilS, nilS, nilS]) M108 rfl rfl (fun i111 w111 h111 M111 => ?_)
    refine rd_storeO (k := 0) (v := v110) M111 rfl rfl rfl (TR.cnt api_ControlNode.t r110) (fun h113 M113 => ?_)
    replace M113 : Mem h113 [⟨.op i111 w111 0, 40, 5, [v110]⟩, ⟨.op i106 w106 0, 40, 5, [v105]⟩] := M113
    refine rd_op (ov_move rfl) ?_
    refine rd_nil ?_
    refine pn_seq ?_
    refine rc_seq ?_
    refine rc_region ?_
    refine rd_op (ov_move rfl) ?_
    obtain ⟨y114, hw114, hres⟩ := let_ex hres
    have f114 := f20_ok  r0 
    rw [hw114] at f114
    refine rd_call (cv_fn rfl rfl (clL_cons (TR.clo (tSl api_ControlNode.t) r0) clL_nil) f114) ?_
    refine rd_op (ov_move rfl) ?_
    obtain ⟨y115, hw115, hres⟩ := let_ex hres
    have f115 := f21_ok  r0 
    rw [hw115] at f115
    refine rd_call (cv_fn rfl rfl (clL_cons (TR.clo (tSl api_ControlNode.t) r0) clL_nil) f115) ?_
    refine rd_op (ov_bin rfl rfl i_eql) ?_
    refine rd_op (ov_move rfl) ?_
    refine rd_cut (d := 36) (v := vb ((decide (y114 = y115)) && (decide ((control_Nesting x0) = (ref20_Nesting x0))))) ?_ ?_
    · intro S Q r
      simp only [ac4_G1, List.cons_append, List.nil_append, List.append_assoc]
      cases hb116 : (decide (y114 = y115))
      · intro k
        refine rd_skip rfl rfl ?_
        refine rd_skip rfl rfl ?_
        refine rd_skip rfl rfl ?_
        refine rd_skip rfl rfl ?_
        refine rd_skip rfl rfl ?_
        refine rd_op (v := vb false) (ov_pick rfl rfl rfl rfl) ?_
        exact rd_weak (sub_cons rfl (sub_skip rfl (sub_skip rfl (sub_skip rfl (sub_skip rfl (sub_skip rfl (sub_skip rfl (sub_refl _)))))))) k
      · intro k
        have hb116' := hb116
        try simp only [Bool.or_eq_true, Bool.or_eq_false_iff, Bool.and_eq_true, Bool.and_eq_false_imp, decide_eq_true_eq, decide_eq_false_iff_not, Bool.not_eq_true', Bool.not_eq_false', Bool.not_eq_true, Bool.not_eq_false, Bool.not_true, Bool.not_false, ne_eq] at hb116'
        refine rd_yes rfl rfl (ov_move rfl) ?_
        have f117 := f22_ok  r0 
        refine rd_ycall rfl rfl (cv_fn rfl rfl (clL_cons (TR.clo (tSl api_ControlNode.t) r0) clL_nil) f117) ?_
        refine rd_yes rfl rfl (ov_move rfl) ?_
        have f118 := f23_ok  r0 
        refine rd_ycall rfl rfl (cv_fn rfl rfl (clL_cons (TR.clo (tSl api_ControlNode.t) r0) clL_nil) f118) ?_
        refine rd_yes rfl rfl (ov_bin rfl rfl i_eql) ?_
        refine rd_op (v := vb (decide ((control_Nesting x0) = (ref20_Nesting x0)))) (ov_pick rfl rfl rfl rfl) ?_
        exact rd_weak (sub_cons rfl (sub_skip rfl (sub_skip rfl (sub_skip rfl (sub_skip rfl (sub_skip rfl (sub_skip rfl (sub_refl _)))))))) k
    refine rd_op (ov_move rfl) ?_
    refine rd_cut (d := 43) (v := vb (((decide (y114 = y115)) && (decide ((control_Nesting x0) = (ref20_Nesting x0)))) && (ref02_EqualInts (control_Tables x0) (ref20_Tables x0)))) ?_ ?_
    · intro S Q r
      simp only [ac4_G2, List.cons_append, List.nil_append, List.append_assoc]
      cases hb119 : ((decide (y114 = y115)) && (decide ((control_Nesting x0) = (ref20_Nesting x0))))
      · intro k
        refine rd_skip rfl rfl ?_
        refine rd_skip rfl rfl ?_
        refine rd_skip rfl rfl ?_
        refine rd_skip rfl rfl ?_
        refine rd_skip rfl rfl ?_
        refine rd_op (v := vb false) (ov_pick rfl rfl rfl rfl) ?_
        exact rd_weak (sub_cons rfl (sub_skip rfl (sub_skip rfl (sub_skip rfl (sub_skip rfl (sub_skip rfl (sub_skip rfl (sub_refl _)))))))) k
      · intro k
        have hb119' := hb119
        try simp only [Bool.or_eq_true, Bool.or_eq_false_iff, Bool.and_eq_true, Bool.and_eq_false_imp, decide_eq_true_eq, decide_eq_false_iff_not, Bool.not_eq_true', Bool.not_eq_false', Bool.not_eq_true, Bool.not_eq_false, Bool.not_true, Bool.not_false, ne_eq] at hb119'
        refine rd_yes rfl rfl (ov_move rfl) ?_
        obtain ⟨v121, f120, r121⟩ := f25_ok  r0 (by (have hk := small_csl (by assumption) (by assumption) (by omega); omega))
        refine rd_ycall rfl rfl (cv_fn rfl rfl (clL_cons (TR.clo (tSl api_ControlNode.t) r0) clL_nil) f120) ?_
        refine rd_yes rfl rfl (ov_move rfl) ?_
        obtain ⟨v123, f122, r123⟩ := f26_ok  r0 (by (have hk := small_csl (by assumption) (by assumption) (by omega); omega))
        refine rd_ycall rfl rfl (cv_fn rfl rfl (clL_cons (TR.clo (tSl api_ControlNode.t) r0) clL_nil) f122) ?_
        have f124 := f24_ok  r121 r123 
        refine rd_ycall rfl rfl (cv_fn rfl rfl (clL_cons (TR.clo (tSl tI) r121) (clL_cons (TR.clo (tSl tI) r123) clL_nil)) f124) ?_
        refine rd_op (v := vb (ref02_EqualInts (control_Tables x0) (ref20_Tables x0))) (ov_pick rfl rfl rfl rfl) ?_
        exact rd_weak (sub_cons rfl (sub_skip rfl (sub_skip rfl (sub_skip rfl (sub_skip rfl (sub_skip rfl (sub_skip rfl (sub_refl _)))))))) k
    refine rd_op (ov_move rfl) ?_
    refine rd_cut (d := 50) (v := vb ((((decide (y114 = y115)) && (decide ((control_Nesting x0) = (ref20_Nesting x0)))) && (ref02_EqualInts (control_Tables x0) (ref20_Tables x0))) && (ref20_Equal ([y104.1] : List api_ControlNode) ([y109.1] : List api_ControlNode)))) ?_ ?_
    · intro S Q r
      simp only [ac4_G3, List.cons_append, List.nil_append, List.append_assoc]
      cases hb125 : (((decide (y114 = y115)) && (decide ((control_Nesting x0) = (ref20_Nesting x0)))) && (ref02_EqualInts (control_Tables x0) (ref20_Tables x0)))
      · intro k
        refine rd_skip rfl rfl ?_
        refine rd_skip rfl rfl ?_
        refine rd_skip rfl rfl ?_
        refine rd_skip rfl rfl ?_
        refine rd_skip rfl rfl ?_
        refine rd_op (v := vb false) (ov_pick rfl rfl rfl rfl) ?_
        exact rd_weak (sub_cons rfl (sub_skip rfl (sub_skip rfl (sub_skip rfl (sub_skip rfl (sub_skip rfl (sub_skip rfl (sub_refl _)))))))) k
      · intro k
        have hb125' := hb125
        try simp only [Bool.or_eq_true, Bool.or_eq_false_iff, Bool.and_eq_true, Bool.and_eq_false_imp, decide_eq_true_eq, decide_eq_false_iff_not, Bool.not_eq_true', Bool.not_eq_false', Bool.not_eq_true, Bool.not_eq_false, Bool.not_true, Bool.not_false, ne_eq] at hb125'
        refine rd_yes rfl rfl (ov_load0 (k := 1) M113 rfl rfl (TR.agg api_ControlNode.t r105)) ?_
        refine rd_yes (v := .fs true [v105]) rfl rfl (ov_bslice rfl (all_cons (TR.cnt api_ControlNode.t r105) all_nil)) ?_
        have r126 : (tSl api_ControlNode.t).R ([y104.1] : List api_ControlNode) (.fs true [v105]) := sl_fs ⟨r105, trivial⟩ (by simp)
        refine rd_yes rfl rfl (ov_load0 (k := 0) M113 rfl rfl (TR.agg api_ControlNode.t r110)) ?_
        refine rd_yes (v := .fs true [v110]) rfl rfl (ov_bslice rfl (all_cons (TR.cnt api_ControlNode.t r110) all_nil)) ?_
        have r127 : (tSl api_ControlNode.t).R ([y109.1] : List api_ControlNode) (.fs true [v110]) := sl_fs ⟨r110, trivial⟩ (by simp)
        have f128 := f27_ok  r126 r127 
        refine rd_ycall rfl rfl (cv_fn rfl rfl (clL_cons (TR.clo (tSl api_ControlNode.t) r126) (clL_cons (TR.clo (tSl api_ControlNode.t) r127) clL_nil)) f128) ?_
        refine rd_op (v := vb (ref20_Equal ([y104.1] : List api_ControlNode) ([y109.1] : List api_ControlNode))) (ov_pick rfl rfl rfl rfl) ?_
        exact rd_weak (sub_cons rfl (sub_skip rfl (sub_skip rfl (sub_skip rfl (sub_skip rfl (sub_skip rfl (sub_skip rfl (sub_refl _)))))))) k
    refine rd_op (ov_move rfl) ?_
    refine rd_cut (d := 55) (v := vb (((((decide (y114 = y115)) && (decide ((control_Nesting x0) = (ref20_Nesting x0)))) && (ref02_EqualInts (control_Tables x0) (ref20_Tables x0))) && (ref20_Equal ([y104.1] : List api_ControlNode) ([y109.1] : List api_ControlNode))) && (decide (y104.2 = y109.2)))) ?_ ?_
    · intro S Q r
      simp only [ac4_G4, List.cons_append, List.nil_append, List.append_assoc]
      cases hb129 : ((((decide (y114 = y115)) && (decide ((control_Nesting x0) = (ref20_Nesting x0)))) && (ref02_EqualInts (control_Tables x0) (ref20_Tables x0))) && (ref20_Equal ([y104.1] : List api_ControlNode) ([y109.1] : List api_ControlNode)))
      · intro k
        refine rd_skip rfl rfl ?_
        refine rd_skip rfl rfl ?_
        refine rd_skip rfl rfl ?_
        refine rd_op (v := vb false) (ov_pick rfl rfl rfl rfl) ?_
        exact rd_weak (sub_cons rfl (sub_skip rfl (sub_skip rfl (sub_skip rfl (sub_skip rfl (sub_refl _)))))) k
      · intro k
        have hb129' := hb129
        try simp only [Bool.or_eq_true, Bool.or_eq_false_iff, Bool.and_eq_true, Bool.and_eq_false_imp, decide_eq_true_eq, decide_eq_false_iff_not, Bool.not_eq_true', Bool.not_eq_false', Bool.not_eq_true, Bool.not_eq_false, Bool.not_true, Bool.not_false, ne_eq] at hb129'
        refine rd_yes rfl rfl (ov_move rfl) ?_
        refine rd_yes rfl rfl (ov_move rfl) ?_
        refine rd_yes rfl rfl (ov_bin rfl rfl (bin_eqlb (by rw [Try.underlying4]; rfl))) ?_
        refine rd_op (v := vb (decide (y104.2 = y109.2))) (ov_pick rfl rfl rfl rfl) ?_
        exact rd_weak (sub_cons rfl (sub_skip rfl (sub_skip rfl (sub_skip rfl (sub_skip rfl (sub_refl _)))))) k
    refine rd_op (ov_move rfl) ?_
    refine rd_cut (d := 58) (v := vb ((((((decide (y114 = y115)) && (decide ((control_Nesting x0) = (ref20_Nesting x0)))) && (ref02_EqualInts (control_Tables x0) (ref20_Tables x0))) && (ref20_Equal ([y104.1] : List api_ControlNode) ([y109.1] : List api_ControlNode))) && (decide (y104.2 = y109.2))) && (law20_works))) ?_ ?_
    · intro S Q r
      simp only [ac4_G5, List.cons_append, List.nil_append, List.append_assoc]
      cases hb130 : (((((decide (y114 = y115)) && (decide ((control_Nesting x0) = (ref20_Nesting x0)))) && (ref02_EqualInts (control_Tables x0) (ref20_Tables x0))) && (ref20_Equal ([y104.1] : List api_ControlNode) ([y109.1] : List api_ControlNode))) && (decide (y104.2 = y109.2)))
      · intro k
        refine rd_skip rfl rfl ?_
        refine rd_op (v := vb false) (ov_pick rfl rfl rfl rfl) ?_
        exact rd_weak (sub_cons rfl (sub_skip rfl (sub_skip rfl (sub_refl _)))) k
      · intro k
        have hb130' := hb130
        try simp only [Bool.or_eq_true, Bool.or_eq_false_iff, Bool.and_eq_true, Bool.and_eq_false_imp, decide_eq_true_eq, decide_eq_false_iff_not, Bool.not_eq_true', Bool.not_eq_false', Bool.not_eq_true, Bool.not_eq_false, Bool.not_true, Bool.not_false, ne_eq] at hb130'
        have f131 := f15_ok   
        refine rd_ycall rfl rfl (cv_fn rfl rfl clL_nil f131) ?_
        refine rd_op (v := vb (law20_works)) (ov_pick rfl rfl rfl rfl) ?_
        exact rd_weak (sub_cons rfl (sub_skip rfl (sub_skip rfl (sub_refl _)))) k
    refine rd_op (ov_move rfl) ?_
    refine rd_nil ?_
    refine pn_seq ?_
    subst hres
    exact rc_retV (.tmp rfl .nil) (deep_closed rfl) rfl

end Go.Proofs.Ytkgnjpoafilicaa
