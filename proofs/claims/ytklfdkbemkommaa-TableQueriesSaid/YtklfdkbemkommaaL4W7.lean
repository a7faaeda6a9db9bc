/-
 The code of each function does what its plain program says.
-/
import Derived.Test.YtklfdkbemkommaaL4W6
set_option linter.unusedVariables false
set_option linter.unusedSimpArgs false
set_option maxRecDepth 100000
namespace Go.Proofs.Ytklfdkbemkommaa
open Go Go.Pb Go.RowKit
/-- patchbay/patchbayref17.Widths -/
def RF22 (res : (List Int)) (r : PV) : Prop := (tSl tI).R res r
theorem ref17_Widths_L1_ok {S : List Fr} {res : (List Int)} {x0 : api_Program} {x1 : Int} {y101 : Bool} {v0 : PV} (r0 : api_Program.t.R x0 v0) (hw101 : ref17_valid x0 x1 = y101) (hc102 : (!y101) = false) {K0 : (List Int) → (List Int)}
  (hK0 : ∀ (zE104 : List Int) (esE104 : List PV) (aE104 : PV) (qE104 : All2 tI.R zE104 esE104) (nE104 : isL aE104 = true) (wrE104 : Wri aE104 esE104) (hlE104 : zE104.length ≤ 4611686018427387904) (h : Heap) (M0 : Mem h [⟨aE104, 3, 1, esE104⟩]), K0 zE104 = res → PX Try.prog 0 S (QR Try.prog [(4, none)] (RF22 res)) [(5, aE104)] h) :
  ∀ (m : Nat) (x6_ : Int) (zE104 : List Int) (esE104 : List PV) (aE104 : PV) (qE104 : All2 tI.R zE104 esE104) (nE104 : isL aE104 = true) (wrE104 : Wri aE104 esE104) (hlE104 : zE104.length ≤ 4611686018427387904) (hm1 : m = Int.toNat ((((ix x0.Tables x1).Keys).length : Int) - x6_)) (hlo1 : 0 ≤ x6_) (iv1_0 : (zE104.length : Int) ≤ x6_) (h : Heap) (M0 : Mem h [⟨aE104, 3, 1, esE104⟩]), ref17_Widths_L1 x0 x1 K0 m x6_ zE104 = res → RC Try.prog (.loop ac22_L1) S (QR Try.prog [(4, none)] (RF22 res)) [(6, vi x6_), (5, aE104), (2, .fp v0), (1, vi x1)] h := by
 have hc102' := hc102
 try simp only [qa1, qa2, qa3, qa4, qa5, qa6, qa7, qa8, qa9, qaA, qaB, qaC, qaD] at hc102'
 intro m
 induction m with
 | zero =>
  intro x6_ zE104 esE104 aE104 qE104 nE104 wrE104 hlE104 hm1 hlo1 iv1_0 h M0 hres
  rw [ref17_Widths_L1] at hres
  refine rc_loop ?_
  unfold ac22_L1
  refine rc_seq ?_
  refine rc_seq ?_
  refine rc_region ?_
  refine rd_op (ov_move rfl) ?_
  obtain ⟨v105, e105, r105⟩ := api_Program.g_Tables r0
  refine rd_op (ov_faddr rfl e105) ?_
  refine rd_op (ov_load rfl (TR.cnt (tSl api_Table.t) r105) (TR.agg (tSl api_Table.t) r105)) ?_
  refine rd_op (ov_move rfl) ?_
  obtain ⟨v106, e106, r106⟩ := sl_idx (i := x1) r105 (by first | omega | (have hk := tck (by assumption) (by assumption); omega) | (have hk := rtck (by assumption) (by assumption); omega) | (have hk := eck (by assumption) (by assumption) (by assumption); omega) | (have hk := tv (by assumption) (by assumption); omega) | (have hk := rtv (by assumption) (by assumption); omega)) (by first | omega | (have hk := tck (by assumption) (by assumption); omega) | (have hk := rtck (by assumption) (by assumption); omega) | (have hk := eck (by assumption) (by assumption) (by assumption); omega) | (have hk := tv (by assumption) (by assumption); omega) | (have hk := rtv (by assumption) (by assumption); omega))
  refine rd_op (ov_iaddr rfl rfl e106) ?_
  obtain ⟨v107, e107, r107⟩ := api_Table.g_Keys r106
  refine rd_op (ov_faddr rfl e107) ?_
  refine rd_op (ov_load rfl (TR.cnt (tSl api_TableKey.t) r107) (TR.agg (tSl api_TableKey.t) r107)) ?_
  refine rd_op (ov_bi rfl (sl_len r107 Try.underlying52 _)) ?_
  refine rd_op (ov_bin rfl rfl i_lss) ?_
  refine rd_nil ?_
  refine pn_seq ?_
  refine rc_cond rfl (fun hc108 => ?_) (fun hc108 => ?_)
  ·exfalso
   try simp only [qa1, qa2, qa3, qa4, qa5, qa6, qa7, qa8, qa9, qaA, qaB, qaC, qaD] at hc108
   omega
  ·have hend := hres
   have hc108' := hc108
   try simp only [qa1, qa2, qa3, qa4, qa5, qa6, qa7, qa8, qa9, qaA, qaB, qaC, qaD] at hc108'
   refine rc_exit ?_
   refine px_seq ?_
   refine px_again ?_
   exact px_weak ((sub_cons rfl (sub_nil _))) (hK0 zE104 esE104 aE104 qE104 nE104 wrE104 hlE104 _ (Mem.sub M0 (.cons_cons _ .slnil)) hres)
 | succ m ih =>
  intro x6_ zE104 esE104 aE104 qE104 nE104 wrE104 hlE104 hm1 hlo1 iv1_0 h M0 hres
  rw [ref17_Widths_L1] at hres
  refine rc_loop ?_
  unfold ac22_L1
  refine rc_seq ?_
  refine rc_seq ?_
  refine rc_region ?_
  refine rd_op (ov_move rfl) ?_
  obtain ⟨v109, e109, r109⟩ := api_Program.g_Tables r0
  refine rd_op (ov_faddr rfl e109) ?_
  refine rd_op (ov_load rfl (TR.cnt (tSl api_Table.t) r109) (TR.agg (tSl api_Table.t) r109)) ?_
  refine rd_op (ov_move rfl) ?_
  obtain ⟨v110, e110, r110⟩ := sl_idx (i := x1) r109 (by first | omega | (have hk := tck (by assumption) (by assumption); omega) | (have hk := rtck (by assumption) (by assumption); omega) | (have hk := eck (by assumption) (by assumption) (by assumption); omega) | (have hk := tv (by assumption) (by assumption); omega) | (have hk := rtv (by assumption) (by assumption); omega)) (by first | omega | (have hk := tck (by assumption) (by assumption); omega) | (have hk := rtck (by assumption) (by assumption); omega) | (have hk := eck (by assumption) (by assumption) (by assumption); omega) | (have hk := tv (by assumption) (by assumption); omega) | (have hk := rtv (by assumption) (by assumption); omega))
  refine rd_op (ov_iaddr rfl rfl e110) ?_
  obtain ⟨v111, e111, r111⟩ := api_Table.g_Keys r110
  refine rd_op (ov_faddr rfl e111) ?_
  refine rd_op (ov_load rfl (TR.cnt (tSl api_TableKey.t) r111) (TR.agg (tSl api_TableKey.t) r111)) ?_
  refine rd_op (ov_bi rfl (sl_len r111 Try.underlying52 _)) ?_
  refine rd_op (ov_bin rfl rfl i_lss) ?_
  refine rd_nil ?_
  refine pn_seq ?_
  refine rc_cond rfl (fun hc112 => ?_) (fun hc112 => ?_)
  ·have hgo := hres
   have hc112' := hc112
   try simp only [qa1, qa2, qa3, qa4, qa5, qa6, qa7, qa8, qa9, qaA, qaB, qaC, qaD] at hc112'
   refine rc_skip ?_
   refine pn_seq ?_
   refine rc_seq ?_
   refine rc_block ?_
   refine rc_region ?_
   refine rd_op (ov_move rfl) ?_
   refine rd_op (ov_load rfl (TR.cnt api_Program.t r0) (TR.agg api_Program.t r0)) ?_
   obtain ⟨v113, e113, r113⟩ := api_Program.g_Tables r0
   refine rd_op (ov_faddr rfl e113) ?_
   refine rd_op (ov_load rfl (TR.cnt (tSl api_Table.t) r113) (TR.agg (tSl api_Table.t) r113)) ?_
   refine rd_op (ov_move rfl) ?_
   obtain ⟨v114, e114, r114⟩ := sl_idx (i := x1) r113 (by first | omega | (have hk := tck (by assumption) (by assumption); omega) | (have hk := rtck (by assumption) (by assumption); omega) | (have hk := eck (by assumption) (by assumption) (by assumption); omega) | (have hk := tv (by assumption) (by assumption); omega) | (have hk := rtv (by assumption) (by assumption); omega)) (by first | omega | (have hk := tck (by assumption) (by assumption); omega) | (have hk := rtck (by assumption) (by assumption); omega) | (have hk := eck (by assumption) (by assumption) (by assumption); omega) | (have hk := tv (by assumption) (by assumption); omega) | (have hk := rtv (by assumption) (by assumption); omega))
   refine rd_op (ov_iaddr rfl rfl e114) ?_
   obtain ⟨v115, e115, r115⟩ := api_Table.g_Keys r114
   refine rd_op (ov_faddr rfl e115) ?_
   refine rd_op (ov_load rfl (TR.cnt (tSl api_TableKey.t) r115) (TR.agg (tSl api_TableKey.t) r115)) ?_
   refine rd_op (ov_move rfl) ?_
   obtain ⟨v116, e116, r116⟩ := sl_idx (i := x6_) r115 (by first | omega | (have hk := tck (by assumption) (by assumption); omega) | (have hk := rtck (by assumption) (by assumption); omega) | (have hk := eck (by assumption) (by assumption) (by assumption); omega) | (have hk := tv (by assumption) (by assumption); omega) | (have hk := rtv (by assumption) (by assumption); omega)) (by first | omega | (have hk := tck (by assumption) (by assumption); omega) | (have hk := rtck (by assumption) (by assumption); omega) | (have hk := eck (by assumption) (by assumption) (by assumption); omega) | (have hk := tv (by assumption) (by assumption); omega) | (have hk := rtv (by assumption) (by assumption); omega))
   refine rd_op (ov_iaddr rfl rfl e116) ?_
   obtain ⟨v117, e117, r117⟩ := api_TableKey.g_Field r116
   refine rd_op (ov_faddr rfl e117) ?_
   refine rd_op (ov_load rfl (TR.cnt api_FieldRef.t r117) (TR.agg api_FieldRef.t r117)) ?_
   obtain ⟨y118, hw118, hres⟩ := let_ex hres
   have f118 := f55_ok  r0 r117 
   rw [hw118] at f118
   refine rd_call (cv_fn rfl rfl (clL_cons (TR.clo api_Program.t r0) (clL_cons (TR.clo api_FieldRef.t r117) clL_nil)) f118) ?_
   refine rd_op (v := .fs true [vi y118]) (ov_bslice rfl (all_cons rfl all_nil)) ?_
   have r119 : (tSl tI).R ([y118] : List Int) (.fs true [vi y118]) := sl_fs ⟨rfl, trivial⟩ (by simp)
   obtain ⟨nw120, sr120, ar120⟩ := src_of (t := tI) (h := h) r119
   have f120 : fits (esE104.length + nw120.length) 8 = true := by rw [All2.length_eq qE104, All2.length_eq ar120]; (try simp only [List.length_cons, List.length_nil]); exact fits_of (by have hk := rtv (by assumption) (by assumption); omega) (by have hk := rtv (by assumption) (by assumption); omega)
   refine rd_appW (k := 0) (es := esE104) (news := nw120) M0 rfl rfl rfl nE104 wrE104 sr120 f120 (fun a120 h120 n120 wr120 M120 => ?_)
   have q120 : All2 tI.R (zE104 ++ ([y118] : List Int)) (esE104 ++ nw120) := All2.app qE104 ar120
   have hl120 : (zE104 ++ ([y118] : List Int)).length ≤ 4611686018427387904 := by rw [← All2.length_eq q120, List.length_append]; exact fits_len f120
   refine rd_op (ov_move rfl) ?_
   refine rd_nil ?_
   refine pn_blk ?_
   refine pn_seq ?_
   refine rc_region ?_
   refine rd_op (ov_move rfl) ?_
   refine rd_op (ov_bin rfl rfl i_add) ?_
   refine rd_op (ov_move rfl) ?_
   refine rd_nil ?_
   refine pn_again ?_
   have hbd := sl_bound r111
   have hinc : wr (x6_ + 1) = x6_ + 1 := wr_of (by omega) (by omega)
   rw [hinc]
   refine rc_weak ?_ (ih (x6_ + 1) (zE104 ++ ([y118] : List Int)) (esE104 ++ nw120) a120 q120 n120 wr120 hl120 (by omega) (by omega) (by first | omega | (simp; done) | (simp only [List.length_append, List.length_cons, List.length_nil, List.length_set]; omega)) _ (Mem.sub M120 (.cons_cons _ .slnil)) hres)
   exact ((sub_cons rfl (sub_cons rfl (sub_cons rfl (sub_cons rfl (sub_nil _))))))
  ·exfalso
   try simp only [qa1, qa2, qa3, qa4, qa5, qa6, qa7, qa8, qa9, qaA, qaB, qaC, qaD] at hc112
   omega

theorem f22_ok {x0 : api_Program} {x1 : Int} {v0 : PV} (r0 : api_Program.t.R x0 v0) : ∃ r, FnR Try.prog 22 [v0, vi x1] r ∧ (tSl tI).R (ref17_Widths x0 x1) r := by
 obtain ⟨res, hres⟩ : ∃ res, ref17_Widths x0 x1 = res := ⟨_, rfl⟩
 suffices H : RC Try.prog ac22 [] (QR Try.prog [(4, none)] (RF22 res)) (argE 0 [v0, vi x1]) ⟨0, []⟩ by
  rw [hres]
  exact fnE text22 (by simp) H
 unfold ref17_Widths at hres
 unfold ac22
 refine rc_seq ?_
 refine rc_region ?_
 refine rd_op (ov_box rfl (TR.cnt api_Program.t r0)) ?_
 refine rd_op (v := nilS) (ov_move rfl) ?_
 refine rd_nil ?_
 refine pn_seq ?_
 refine rc_seq ?_
 refine rc_seq ?_
 refine rc_region ?_
 refine rd_op (ov_load rfl (TR.cnt api_Program.t r0) (TR.agg api_Program.t r0)) ?_
 refine rd_op (ov_move rfl) ?_
 obtain ⟨y101, hw101, hres⟩ := let_ex hres
 have f101 := f53_ok (x1 := x1) r0 
 rw [hw101] at f101
 refine rd_call (cv_fn rfl rfl (clL_cons (TR.clo api_Program.t r0) (clL_cons rfl clL_nil)) f101) ?_
 refine rd_op (ov_not rfl) ?_
 refine rd_nil ?_
 refine pn_seq ?_
 refine rc_cond rfl (fun hc102 => ?_) (fun hc102 => ?_)
 ·replace hres := (ite_t hc102).symm.trans hres
  have hc102' := hc102
  try simp only [qa1, qa2, qa3, qa4, qa5, qa6, qa7, qa8, qa9, qaA, qaB, qaC, qaD] at hc102'
  refine rc_seq ?_
  refine rc_region ?_
  refine rd_op (v := nilS) (ov_move rfl) ?_
  refine rd_nil ?_
  refine pn_seq ?_
  subst hres
  exact rc_retV (.tmp rfl .nil) (deep_closed (TR.clo (tSl tI) sl_nil)) sl_nil
 ·replace hres := (ite_f hc102).symm.trans hres
  have hc102' := hc102
  try simp only [qa1, qa2, qa3, qa4, qa5, qa6, qa7, qa8, qa9, qaA, qaB, qaC, qaD] at hc102'
  refine rc_skip ?_
  refine pn_seq ?_
  refine rc_seq ?_
  refine rc_region ?_
  refine rd_op (v := nilS) (ov_move rfl) ?_
  refine rd_nil ?_
  refine pn_seq ?_
  refine rc_seq ?_
  refine rc_seq ?_
  refine rc_region ?_
  refine rd_op (v := vi 0) (ov_move rfl) ?_
  refine rd_nil ?_
  refine pn_seq ?_
  refine rc_block ?_
  have M103 := mem_acc (sz := 1) (es := []) (Mem.nil ⟨0, []⟩) 3 (.inl ⟨none, rfl, rfl⟩) (by simp)
  refine rc_weak ?_ (ref17_Widths_L1_ok (x0 := x0) (x1 := x1) (y101 := y101) (v0 := v0)  (r0 := r0) (hw101 := hw101) (hc102 := hc102) ?_ (Int.toNat ((((ix x0.Tables x1).Keys).length : Int) - 0)) 0 ([] : List Int) ([] : List PV) nilS (show All2 tI.R ([] : List Int) [] from trivial) rfl (.inl rfl) (by decide) rfl (by omega) (by first | omega | (simp; done) | (simp only [List.length_append, List.length_cons, List.length_nil, List.length_set]; omega)) _ (Mem.sub M103 (.cons_cons _ .slnil)) hres)
  ·exact ((sub_cons rfl (sub_cons rfl (sub_cons rfl (sub_cons rfl (sub_nil _))))))
  ·intro zE104_121 es121E104 a121E104 q121E104 n121E104 wr121E104 hl121E104 h121 M121 hres
   refine px_blk ?_
   refine pn_seq ?_
   refine rc_seq ?_
   refine rc_region ?_
   refine rd_op (ov_move rfl) ?_
   refine rd_op (ov_move rfl) ?_
   refine rd_nil ?_
   refine pn_seq ?_
   obtain ⟨v122, d122, r122⟩ := own_sl (P := Try.prog) (k := 0) (t := tI) M121 rfl n121E104 q121E104 (Nat.le_trans hl121E104 (by decide))
   subst hres
   exact rc_retV (.tmp rfl .nil) d122 r122

/-- patchbay/patchbayref02.EqualInts -/
def RF20 (res : Bool) (r : PV) : Prop := r = vb res
theorem ref02_EqualInts_L1_ok {S : List Fr} {res : Bool} {x0 : List Int} {x1 : List Int} {v0 : PV} {v1 : PV} (r0 : (tSl tI).R x0 v0) (r1 : (tSl tI).R x1 v1) (hc101 : (!decide ((x0.length : Int) = (x1.length : Int))) = false) {K0 : Unit → Bool}
  (hK0 : K0 () = res → PX Try.prog 0 S (QR Try.prog [(4, none)] (RF20 res)) [] ⟨0, []⟩) :
  ∀ (m : Nat) (x5_ : Int) (hm1 : m = Int.toNat ((x0.length : Int) - x5_)) (hlo1 : 0 ≤ x5_), ref02_EqualInts_L1 x0 x1 K0 m x5_ = res → RC Try.prog (.loop ac20_L1) S (QR Try.prog [(4, none)] (RF20 res)) [(5, vi x5_), (1, v1), (0, v0)] ⟨0, []⟩ := by
 have hc101' := hc101
 try simp only [qa1, qa2, qa3, qa4, qa5, qa6, qa7, qa8, qa9, qaA, qaB, qaC, qaD] at hc101'
 intro m
 induction m with
 | zero =>
  intro x5_ hm1 hlo1 hres
  rw [ref02_EqualInts_L1] at hres
  refine rc_loop ?_
  unfold ac20_L1
  refine rc_seq ?_
  refine rc_seq ?_
  refine rc_region ?_
  refine rd_op (ov_move rfl) ?_
  refine rd_op (ov_move rfl) ?_
  refine rd_op (ov_bi rfl (sl_len r0 Try.underlying29 _)) ?_
  refine rd_op (ov_bin rfl rfl i_lss) ?_
  refine rd_nil ?_
  refine pn_seq ?_
  refine rc_cond rfl (fun hc102 => ?_) (fun hc102 => ?_)
  ·exfalso
   try simp only [qa1, qa2, qa3, qa4, qa5, qa6, qa7, qa8, qa9, qaA, qaB, qaC, qaD] at hc102
   omega
  ·have hend := hres
   have hc102' := hc102
   try simp only [qa1, qa2, qa3, qa4, qa5, qa6, qa7, qa8, qa9, qaA, qaB, qaC, qaD] at hc102'
   refine rc_exit ?_
   refine px_seq ?_
   refine px_again ?_
   exact px_weak ((sub_nil _)) (hK0  hres)
 | succ m ih =>
  intro x5_ hm1 hlo1 hres
  rw [ref02_EqualInts_L1] at hres
  refine rc_loop ?_
  unfold ac20_L1
  refine rc_seq ?_
  refine rc_seq ?_
  refine rc_region ?_
  refine rd_op (ov_move rfl) ?_
  refine rd_op (ov_move rfl) ?_
  refine rd_op (ov_bi rfl (sl_len r0 Try.underlying29 _)) ?_
  refine rd_op (ov_bin rfl rfl i_lss) ?_
  refine rd_nil ?_
  refine pn_seq ?_
  refine rc_cond rfl (fun hc103 => ?_) (fun hc103 => ?_)
  ·have hgo := hres
   have hc103' := hc103
   try simp only [qa1, qa2, qa3, qa4, qa5, qa6, qa7, qa8, qa9, qaA, qaB, qaC, qaD] at hc103'
   refine rc_skip ?_
   refine pn_seq ?_
   refine rc_seq ?_
   refine rc_block ?_
   refine rc_seq ?_
   refine rc_region ?_
   refine rd_op (ov_move rfl) ?_
   refine rd_op (ov_move rfl) ?_
   refine rd_op (ov_iaddr rfl rfl (slI r0 (by first | omega | (have hk := tck (by assumption) (by assumption); omega) | (have hk := rtck (by assumption) (by assumption); omega) | (have hk := eck (by assumption) (by assumption) (by assumption); omega) | (have hk := tv (by assumption) (by assumption); omega) | (have hk := rtv (by assumption) (by assumption); omega)) (by first | omega | (have hk := tck (by assumption) (by assumption); omega) | (have hk := rtck (by assumption) (by assumption); omega) | (have hk := eck (by assumption) (by assumption) (by assumption); omega) | (have hk := tv (by assumption) (by assumption); omega) | (have hk := rtv (by assumption) (by assumption); omega)))) ?_
   refine rd_op (ov_load rfl rfl rfl) ?_
   refine rd_op (ov_move rfl) ?_
   refine rd_op (ov_move rfl) ?_
   refine rd_op (ov_iaddr rfl rfl (slI r1 (by first | omega | (have hk := tck (by assumption) (by assumption); omega) | (have hk := rtck (by assumption) (by assumption); omega) | (have hk := eck (by assumption) (by assumption) (by assumption); omega) | (have hk := tv (by assumption) (by assumption); omega) | (have hk := rtv (by assumption) (by assumption); omega)) (by first | omega | (have hk := tck (by assumption) (by assumption); omega) | (have hk := rtck (by assumption) (by assumption); omega) | (have hk := eck (by assumption) (by assumption) (by assumption); omega) | (have hk := tv (by assumption) (by assumption); omega) | (have hk := rtv (by assumption) (by assumption); omega)))) ?_
   refine rd_op (ov_load rfl rfl rfl) ?_
   refine rd_op (ov_bin rfl rfl i_neq) ?_
   refine rd_nil ?_
   refine pn_seq ?_
   refine rc_cond rfl (fun hc104 => ?_) (fun hc104 => ?_)
   ·replace hres := (ite_t hc104).symm.trans hres
    have hc104' := hc104
    try simp only [qa1, qa2, qa3, qa4, qa5, qa6, qa7, qa8, qa9, qaA, qaB, qaC, qaD] at hc104'
    refine rc_seq ?_
    refine rc_region ?_
    refine rd_op (v := vb false) (ov_move rfl) ?_
    refine rd_nil ?_
    refine pn_seq ?_
    subst hres
    exact rc_retV (.tmp rfl .nil) (deep_closed rfl) rfl
   ·replace hres := (ite_f hc104).symm.trans hres
    have hc104' := hc104
    try simp only [qa1, qa2, qa3, qa4, qa5, qa6, qa7, qa8, qa9, qaA, qaB, qaC, qaD] at hc104'
    refine rc_skip ?_
    refine pn_blk ?_
    refine pn_seq ?_
    refine rc_region ?_
    refine rd_op (ov_move rfl) ?_
    refine rd_op (ov_bin rfl rfl i_add) ?_
    refine rd_op (ov_move rfl) ?_
    refine rd_nil ?_
    refine pn_again ?_
    have hbd := sl_bound r0
    have hinc : wr (x5_ + 1) = x5_ + 1 := wr_of (by omega) (by omega)
    rw [hinc]
    refine rc_weak ?_ (ih (x5_ + 1)  (by omega) (by omega) hres)
    exact ((sub_cons rfl (sub_cons rfl (sub_cons rfl (sub_nil _)))))
  ·exfalso
   try simp only [qa1, qa2, qa3, qa4, qa5, qa6, qa7, qa8, qa9, qaA, qaB, qaC, qaD] at hc103
   omega

theorem f20_ok {x0 : List Int} {x1 : List Int} {v0 v1 : PV} (r0 : (tSl tI).R x0 v0) (r1 : (tSl tI).R x1 v1) : FnR Try.prog 20 [v0, v1] (vb (ref02_EqualInts x0 x1)) := by
 obtain ⟨res, hres⟩ : ∃ res, ref02_EqualInts x0 x1 = res := ⟨_, rfl⟩
 suffices H : RC Try.prog ac20 [] (QR Try.prog [(4, none)] (RF20 res)) (argE 0 [v0, v1]) ⟨0, []⟩ by
  obtain ⟨r, h1, h2⟩ := fnE text20 (by simp) H
  rw [hres]
  have h2 : r = vb res := h2
  rw [← h2]; exact h1
 unfold ref02_EqualInts at hres
 unfold ac20
 refine rc_seq ?_
 refine rc_region ?_
 refine rd_op (v := vb false) (ov_move rfl) ?_
 refine rd_nil ?_
 refine pn_seq ?_
 refine rc_seq ?_
 refine rc_seq ?_
 refine rc_region ?_
 refine rd_op (ov_move rfl) ?_
 refine rd_op (ov_bi rfl (sl_len r0 Try.underlying29 _)) ?_
 refine rd_op (ov_move rfl) ?_
 refine rd_op (ov_bi rfl (sl_len r1 Try.underlying29 _)) ?_
 refine rd_op (ov_bin rfl rfl i_neq) ?_
 refine rd_nil ?_
 refine pn_seq ?_
 refine rc_cond rfl (fun hc101 => ?_) (fun hc101 => ?_)
 ·replace hres := (ite_t hc101).symm.trans hres
  have hc101' := hc101
  try simp only [qa1, qa2, qa3, qa4, qa5, qa6, qa7, qa8, qa9, qaA, qaB, qaC, qaD] at hc101'
  refine rc_seq ?_
  refine rc_region ?_
  refine rd_op (v := vb false) (ov_move rfl) ?_
  refine rd_nil ?_
  refine pn_seq ?_
  subst hres
  exact rc_retV (.tmp rfl .nil) (deep_closed rfl) rfl
 ·replace hres := (ite_f hc101).symm.trans hres
  have hc101' := hc101
  try simp only [qa1, qa2, qa3, qa4, qa5, qa6, qa7, qa8, qa9, qaA, qaB, qaC, qaD] at hc101'
  refine rc_skip ?_
  refine pn_seq ?_
  refine rc_seq ?_
  refine rc_seq ?_
  refine rc_region ?_
  refine rd_op (v := vi 0) (ov_move rfl) ?_
  refine rd_nil ?_
  refine pn_seq ?_
  refine rc_block ?_
  refine rc_weak ?_ (ref02_EqualInts_L1_ok (x0 := x0) (x1 := x1) (v0 := v0) (v1 := v1)  (r0 := r0) (r1 := r1) (hc101 := hc101) ?_ (Int.toNat ((x0.length : Int) - 0)) 0 rfl (by omega) hres)
  ·exact ((sub_cons rfl (sub_cons rfl (sub_cons rfl (sub_nil _)))))
  ·intro  hres
   refine px_blk ?_
   refine pn_seq ?_
   refine rc_seq ?_
   refine rc_region ?_
   refine rd_op (v := vb true) (ov_move rfl) ?_
   refine rd_nil ?_
   refine pn_seq ?_
   subst hres
   exact rc_retV (.tmp rfl .nil) (deep_closed rfl) rfl

/-- patchbay/patchbayref17.Bits -/
def RF24 (res : Int) (r : PV) : Prop := r = vi res
theorem ref17_Bits_L1_ok {S : List Fr} {res : Int} {x0 : api_Program} {x1 : Int} {y101 : (List Int)} {v102 : PV} (hw101 : ref17_Widths x0 x1 = y101) (r102 : (tSl tI).R y101 v102) {K0 : Int → Int}
  (hK0 : ∀ (x6_ : Int), K0 x6_ = res → PX Try.prog 0 S (QR Try.prog [(4, none)] (RF24 res)) [(6, vi x6_)] ⟨0, []⟩) :
  ∀ (m : Nat) (x6_ : Int) (x7_ : Int) (hm1 : m = Int.toNat ((y101.length : Int) - x7_)) (hlo1 : 0 ≤ x7_), ref17_Bits_L1 y101 K0 m x6_ x7_ = res → RC Try.prog (.loop ac24_L1) S (QR Try.prog [(4, none)] (RF24 res)) [(7, vi x7_), (6, vi x6_), (5, v102)] ⟨0, []⟩ := by
 intro m
 induction m with
 | zero =>
  intro x6_ x7_ hm1 hlo1 hres
  rw [ref17_Bits_L1] at hres
  refine rc_loop ?_
  unfold ac24_L1
  refine rc_seq ?_
  refine rc_seq ?_
  refine rc_region ?_
  refine rd_op (ov_move rfl) ?_
  refine rd_op (ov_move rfl) ?_
  refine rd_op (ov_bi rfl (sl_len r102 Try.underlying29 _)) ?_
  refine rd_op (ov_bin rfl rfl i_lss) ?_
  refine rd_nil ?_
  refine pn_seq ?_
  refine rc_cond rfl (fun hc103 => ?_) (fun hc103 => ?_)
  ·exfalso
   try simp only [qa1, qa2, qa3, qa4, qa5, qa6, qa7, qa8, qa9, qaA, qaB, qaC, qaD] at hc103
   omega
  ·have hend := hres
   have hc103' := hc103
   try simp only [qa1, qa2, qa3, qa4, qa5, qa6, qa7, qa8, qa9, qaA, qaB, qaC, qaD] at hc103'
   refine rc_exit ?_
   refine px_seq ?_
   refine px_again ?_
   exact px_weak ((sub_cons rfl (sub_nil _))) (hK0 x6_ hres)
 | succ m ih =>
  intro x6_ x7_ hm1 hlo1 hres
  rw [ref17_Bits_L1] at hres
  refine rc_loop ?_
  unfold ac24_L1
  refine rc_seq ?_
  refine rc_seq ?_
  refine rc_region ?_
  refine rd_op (ov_move rfl) ?_
  refine rd_op (ov_move rfl) ?_
  refine rd_op (ov_bi rfl (sl_len r102 Try.underlying29 _)) ?_
  refine rd_op (ov_bin rfl rfl i_lss) ?_
  refine rd_nil ?_
  refine pn_seq ?_
  refine rc_cond rfl (fun hc104 => ?_) (fun hc104 => ?_)
  ·have hgo := hres
   have hc104' := hc104
   try simp only [qa1, qa2, qa3, qa4, qa5, qa6, qa7, qa8, qa9, qaA, qaB, qaC, qaD] at hc104'
   refine rc_skip ?_
   refine pn_seq ?_
   refine rc_seq ?_
   refine rc_block ?_
   refine rc_region ?_
   refine rd_op (ov_move rfl) ?_
   refine rd_op (ov_move rfl) ?_
   refine rd_op (ov_move rfl) ?_
   refine rd_op (ov_iaddr rfl rfl (slI r102 (by first | omega | (have hk := tck (by assumption) (by assumption); omega) | (have hk := rtck (by assumption) (by assumption); omega) | (have hk := eck (by assumption) (by assumption) (by assumption); omega) | (have hk := tv (by assumption) (by assumption); omega) | (have hk := rtv (by assumption) (by assumption); omega)) (by first | omega | (have hk := tck (by assumption) (by assumption); omega) | (have hk := rtck (by assumption) (by assumption); omega) | (have hk := eck (by assumption) (by assumption) (by assumption); omega) | (have hk := tv (by assumption) (by assumption); omega) | (have hk := rtv (by assumption) (by assumption); omega)))) ?_
   refine rd_op (ov_load rfl rfl rfl) ?_
   refine rd_op (ov_bin rfl rfl i_add) ?_
   refine rd_op (ov_move rfl) ?_
   refine rd_nil ?_
   refine pn_blk ?_
   refine pn_seq ?_
   refine rc_region ?_
   refine rd_op (ov_move rfl) ?_
   refine rd_op (ov_bin rfl rfl i_add) ?_
   refine rd_op (ov_move rfl) ?_
   refine rd_nil ?_
   refine pn_again ?_
   have hbd := sl_bound r102
   have hinc : wr (x7_ + 1) = x7_ + 1 := wr_of (by omega) (by omega)
   rw [hinc]
   refine rc_weak ?_ (ih (wr (x6_ + (ix y101 x7_))) (x7_ + 1)  (by omega) (by omega) hres)
   exact ((sub_cons rfl (sub_cons rfl (sub_cons rfl (sub_nil _)))))
  ·exfalso
   try simp only [qa1, qa2, qa3, qa4, qa5, qa6, qa7, qa8, qa9, qaA, qaB, qaC, qaD] at hc104
   omega

theorem f24_ok {x0 : api_Program} {x1 : Int} {v0 : PV} (r0 : api_Program.t.R x0 v0) : FnR Try.prog 24 [v0, vi x1] (vi (ref17_Bits x0 x1)) := by
 obtain ⟨res, hres⟩ : ∃ res, ref17_Bits x0 x1 = res := ⟨_, rfl⟩
 suffices H : RC Try.prog ac24 [] (QR Try.prog [(4, none)] (RF24 res)) (argE 0 [v0, vi x1]) ⟨0, []⟩ by
  obtain ⟨r, h1, h2⟩ := fnE text24 (by simp) H
  rw [hres]
  have h2 : r = vi res := h2
  rw [← h2]; exact h1
 unfold ref17_Bits at hres
 unfold ac24
 refine rc_seq ?_
 refine rc_region ?_
 refine rd_op (ov_box rfl (TR.cnt api_Program.t r0)) ?_
 refine rd_op (v := vi 0) (ov_move rfl) ?_
 refine rd_nil ?_
 refine pn_seq ?_
 refine rc_seq ?_
 refine rc_region ?_
 refine rd_op (ov_load rfl (TR.cnt api_Program.t r0) (TR.agg api_Program.t r0)) ?_
 refine rd_op (ov_move rfl) ?_
 obtain ⟨y101, hw101, hres⟩ := let_ex hres
 obtain ⟨v102, f101, r102⟩ := f22_ok (x1 := x1) r0 
 rw [hw101] at r102
 refine rd_call (cv_fn rfl rfl (clL_cons (TR.clo api_Program.t r0) (clL_cons rfl clL_nil)) f101) ?_
 refine rd_op (ov_move rfl) ?_
 refine rd_nil ?_
 refine pn_seq ?_
 refine rc_seq ?_
 refine rc_region ?_
 refine rd_op (v := vi 0) (ov_move rfl) ?_
 refine rd_nil ?_
 refine pn_seq ?_
 refine rc_seq ?_
 refine rc_seq ?_
 refine rc_region ?_
 refine rd_op (v := vi 0) (ov_move rfl) ?_
 refine rd_nil ?_
 refine pn_seq ?_
 refine rc_block ?_
 refine rc_weak ?_ (ref17_Bits_L1_ok (x0 := x0) (x1 := x1) (y101 := y101) (v102 := v102)  (hw101 := hw101) (r102 := r102) ?_ (Int.toNat ((y101.length : Int) - 0)) 0 0 rfl (by omega) hres)
 ·exact ((sub_cons rfl (sub_cons rfl (sub_cons rfl (sub_nil _)))))
 ·intro x6_105 hres
  refine px_blk ?_
  refine pn_seq ?_
  refine rc_seq ?_
  refine rc_region ?_
  refine rd_op (ov_move rfl) ?_
  refine rd_op (ov_move rfl) ?_
  refine rd_nil ?_
  refine pn_seq ?_
  subst hres
  exact rc_retV (.tmp rfl .nil) (deep_closed rfl) rfl

/-- patchbay/patchbayref17.Allows -/
def RF26 (res : Bool) (r : PV) : Prop := r = vb res
theorem f26_ok {x0 : api_Program} {x1 : Int} {x2 : Int} {v0 : PV} (r0 : api_Program.t.R x0 v0) : FnR Try.prog 26 [v0, vi x1, vi x2] (vb (ref17_Allows x0 x1 x2)) := by
 obtain ⟨res, hres⟩ : ∃ res, ref17_Allows x0 x1 x2 = res := ⟨_, rfl⟩
 suffices H : RC Try.prog ac26 [] (QR Try.prog [(6, none)] (RF26 res)) (argE 0 [v0, vi x1, vi x2]) ⟨0, []⟩ by
  obtain ⟨r, h1, h2⟩ := fnE text26 (by simp) H
  rw [hres]
  have h2 : r = vb res := h2
  rw [← h2]; exact h1
 unfold ref17_Allows at hres
 unfold ac26
 refine rc_seq ?_
 refine rc_region ?_
 refine rd_op (ov_box rfl (TR.cnt api_Program.t r0)) ?_
 refine rd_op (v := vb false) (ov_move rfl) ?_
 refine rd_nil ?_
 refine pn_seq ?_
 refine rc_seq ?_
 refine rc_region ?_
 refine rd_op (ov_load rfl (TR.cnt api_Program.t r0) (TR.agg api_Program.t r0)) ?_
 refine rd_op (ov_move rfl) ?_
 obtain ⟨y101, hw101, hres⟩ := let_ex hres
 have f101 := f53_ok (x1 := x1) r0 
 rw [hw101] at f101
 refine rd_call (cv_fn rfl rfl (clL_cons (TR.clo api_Program.t r0) (clL_cons rfl clL_nil)) f101) ?_
 refine rd_op (ov_move rfl) ?_
 refine rd_cut (d := 20) (v := vb (y101 && (decide (0 ≤ (ref17_index ((ix x0.Tables x1).Actions) x2))))) ?_ ?_
 ·intro S Q r
  simp only [ac26_G1, List.cons_append, List.nil_append, List.append_assoc]
  cases hb102 : y101
  ·intro k
   refine rd_skip rfl rfl ?_
   refine rd_skip rfl rfl ?_
   refine rd_skip rfl rfl ?_
   refine rd_skip rfl rfl ?_
   refine rd_skip rfl rfl ?_
   refine rd_skip rfl rfl ?_
   refine rd_skip rfl rfl ?_
   refine rd_skip rfl rfl ?_
   refine rd_skip rfl rfl ?_
   refine rd_op (v := vb false) (ov_pick rfl rfl rfl rfl) ?_
   exact rd_weak (sub_cons rfl (sub_skip rfl (sub_skip rfl (sub_skip rfl (sub_skip rfl (sub_skip rfl (sub_skip rfl (sub_skip rfl (sub_skip rfl (sub_skip rfl (sub_skip rfl (sub_refl _)))))))))))) k
  ·intro k
   have hb102' := hb102
   try simp only [qa1, qa2, qa3, qa4, qa5, qa6, qa7, qa8, qa9, qaA, qaB, qaC, qaD] at hb102'
   obtain ⟨v103, e103, r103⟩ := api_Program.g_Tables r0
   refine rd_yes rfl rfl (ov_faddr rfl e103) ?_
   refine rd_yes rfl rfl (ov_load rfl (TR.cnt (tSl api_Table.t) r103) (TR.agg (tSl api_Table.t) r103)) ?_
   refine rd_yes rfl rfl (ov_move rfl) ?_
   obtain ⟨v104, e104, r104⟩ := sl_idx (i := x1) r103 (by first | omega | (have hk := tck (by assumption) (by assumption); omega) | (have hk := rtck (by assumption) (by assumption); omega) | (have hk := eck (by assumption) (by assumption) (by assumption); omega) | (have hk := tv (by assumption) (by assumption); omega) | (have hk := rtv (by assumption) (by assumption); omega)) (by first | omega | (have hk := tck (by assumption) (by assumption); omega) | (have hk := rtck (by assumption) (by assumption); omega) | (have hk := eck (by assumption) (by assumption) (by assumption); omega) | (have hk := tv (by assumption) (by assumption); omega) | (have hk := rtv (by assumption) (by assumption); omega))
   refine rd_yes rfl rfl (ov_iaddr rfl rfl e104) ?_
   obtain ⟨v105, e105, r105⟩ := api_Table.g_Actions r104
   refine rd_yes rfl rfl (ov_faddr rfl e105) ?_
   refine rd_yes rfl rfl (ov_load rfl (TR.cnt (tSl tI) r105) (TR.agg (tSl tI) r105)) ?_
   refine rd_yes rfl rfl (ov_move rfl) ?_
   have f106 := f56_ok (x1 := x2) r105 
   refine rd_ycall rfl rfl (cv_fn rfl rfl (clL_cons (TR.clo (tSl tI) r105) (clL_cons rfl clL_nil)) f106) ?_
   refine rd_yes rfl rfl (ov_bin rfl rfl i_geq) ?_
   refine rd_op (v := vb (decide (0 ≤ (ref17_index ((ix x0.Tables x1).Actions) x2)))) (ov_pick rfl rfl rfl rfl) ?_
   exact rd_weak (sub_cons rfl (sub_skip rfl (sub_skip rfl (sub_skip rfl (sub_skip rfl (sub_skip rfl (sub_skip rfl (sub_skip rfl (sub_skip rfl (sub_skip rfl (sub_skip rfl (sub_refl _)))))))))))) k
 refine rd_op (ov_move rfl) ?_
 refine rd_nil ?_
 refine pn_seq ?_
 subst hres
 exact rc_retV (.tmp rfl .nil) (deep_closed rfl) rfl

/-- patchbay/patchbaylaw17.TableQueries -/
def RF4 (res : Bool) (r : PV) : Prop := r = vb res
theorem f4_ok {x0 : api_Program} {x1 : Int} {x2 : Int} {v0 : PV} (r0 : api_Program.t.R x0 v0) : FnR Try.prog 4 [v0, vi x1, vi x2] (vb (law17_TableQueries x0 x1 x2)) := by
 obtain ⟨res, hres⟩ : ∃ res, law17_TableQueries x0 x1 x2 = res := ⟨_, rfl⟩
 suffices H : RC Try.prog ac4 [] (QR Try.prog [(6, none)] (RF4 res)) (argE 0 [v0, vi x1, vi x2]) ⟨0, []⟩ by
  obtain ⟨r, h1, h2⟩ := fnE text4 (by simp) H
  rw [hres]
  have h2 : r = vb res := h2
  rw [← h2]; exact h1
 unfold law17_TableQueries at hres
 unfold ac4
 refine rc_seq ?_
 refine rc_region ?_
 refine rd_op (ov_box rfl (TR.cnt api_Program.t r0)) ?_
 refine rd_op (v := vb false) (ov_move rfl) ?_
 refine rd_nil ?_
 refine pn_seq ?_
 refine rc_seq ?_
 refine rc_seq ?_
 refine rc_region ?_
 refine rd_op (ov_load rfl (TR.cnt api_Program.t r0) (TR.agg api_Program.t r0)) ?_
 obtain ⟨y101, hw101, hres⟩ := let_ex hres
 have f101 := f14_ok  r0 
 rw [hw101] at f101
 refine rd_call (cv_fn rfl rfl (clL_cons (TR.clo api_Program.t r0) clL_nil) f101) ?_
 refine rd_op (ov_not rfl) ?_
 refine rd_nil ?_
 refine pn_seq ?_
 refine rc_cond rfl (fun hc102 => ?_) (fun hc102 => ?_)
 ·replace hres := (ite_t hc102).symm.trans hres
  have hc102' := hc102
  try simp only [qa1, qa2, qa3, qa4, qa5, qa6, qa7, qa8, qa9, qaA, qaB, qaC, qaD] at hc102'
  refine rc_seq ?_
  refine rc_region ?_
  obtain ⟨y103, hw103, hres⟩ := let_ex hres
  have f103 := f15_ok   
  rw [hw103] at f103
  refine rd_call (cv_fn rfl rfl clL_nil f103) ?_
  refine rd_op (ov_move rfl) ?_
  refine rd_nil ?_
  refine pn_seq ?_
  subst hres
  exact rc_retV (.tmp rfl .nil) (deep_closed rfl) rfl
 ·replace hres := (ite_f hc102).symm.trans hres
  have hc102' := hc102
  try simp only [qa1, qa2, qa3, qa4, qa5, qa6, qa7, qa8, qa9, qaA, qaB, qaC, qaD] at hc102'
  refine rc_skip ?_
  refine pn_seq ?_
  refine rc_seq ?_
  refine rc_region ?_
  refine rd_op (ov_load rfl (TR.cnt api_Program.t r0) (TR.agg api_Program.t r0)) ?_
  refine rd_op (ov_move rfl) ?_
  obtain ⟨y104, hw104, hres⟩ := let_ex hres
  have f104 := f18_ok (x1 := x1) r0 
  rw [hw104] at f104
  refine rd_call (cv_fn rfl rfl (clL_cons (TR.clo api_Program.t r0) (clL_cons rfl clL_nil)) f104) ?_
  refine rd_op (ov_load rfl (TR.cnt api_Program.t r0) (TR.agg api_Program.t r0)) ?_
  refine rd_op (ov_move rfl) ?_
  obtain ⟨y105, hw105, hres⟩ := let_ex hres
  have f105 := f19_ok (x1 := x1) r0 
  rw [hw105] at f105
  refine rd_call (cv_fn rfl rfl (clL_cons (TR.clo api_Program.t r0) (clL_cons rfl clL_nil)) f105) ?_
  refine rd_op (ov_bin rfl rfl i_eql) ?_
  refine rd_op (ov_move rfl) ?_
  refine rd_cut (d := 26) (v := vb ((decide (y104 = y105)) && (ref02_EqualInts (table_Widths x0 x1) (ref17_Widths x0 x1)))) ?_ ?_
  ·intro S Q r
   simp only [ac4_G1, List.cons_append, List.nil_append, List.append_assoc]
   cases hb106 : (decide (y104 = y105))
   ·intro k
    refine rd_skip rfl rfl ?_
    refine rd_skip rfl rfl ?_
    refine rd_skip rfl rfl ?_
    refine rd_skip rfl rfl ?_
    refine rd_skip rfl rfl ?_
    refine rd_skip rfl rfl ?_
    refine rd_skip rfl rfl ?_
    refine rd_op (v := vb false) (ov_pick rfl rfl rfl rfl) ?_
    exact rd_weak (sub_cons rfl (sub_skip rfl (sub_skip rfl (sub_skip rfl (sub_skip rfl (sub_skip rfl (sub_skip rfl (sub_skip rfl (sub_skip rfl (sub_refl _)))))))))) k
   ·intro k
    have hb106' := hb106
    try simp only [qa1, qa2, qa3, qa4, qa5, qa6, qa7, qa8, qa9, qaA, qaB, qaC, qaD] at hb106'
    refine rd_yes rfl rfl (ov_load rfl (TR.cnt api_Program.t r0) (TR.agg api_Program.t r0)) ?_
    refine rd_yes rfl rfl (ov_move rfl) ?_
    obtain ⟨v108, f107, r108⟩ := f21_ok (x1 := x1) r0 
    refine rd_ycall rfl rfl (cv_fn rfl rfl (clL_cons (TR.clo api_Program.t r0) (clL_cons rfl clL_nil)) f107) ?_
    refine rd_yes rfl rfl (ov_load rfl (TR.cnt api_Program.t r0) (TR.agg api_Program.t r0)) ?_
    refine rd_yes rfl rfl (ov_move rfl) ?_
    obtain ⟨v110, f109, r110⟩ := f22_ok (x1 := x1) r0 
    refine rd_ycall rfl rfl (cv_fn rfl rfl (clL_cons (TR.clo api_Program.t r0) (clL_cons rfl clL_nil)) f109) ?_
    have f111 := f20_ok  r108 r110 
    refine rd_ycall rfl rfl (cv_fn rfl rfl (clL_cons (TR.clo (tSl tI) r108) (clL_cons (TR.clo (tSl tI) r110) clL_nil)) f111) ?_
    refine rd_op (v := vb (ref02_EqualInts (table_Widths x0 x1) (ref17_Widths x0 x1))) (ov_pick rfl rfl rfl rfl) ?_
    exact rd_weak (sub_cons rfl (sub_skip rfl (sub_skip rfl (sub_skip rfl (sub_skip rfl (sub_skip rfl (sub_skip rfl (sub_skip rfl (sub_skip rfl (sub_refl _)))))))))) k
  refine rd_op (ov_move rfl) ?_
  refine rd_cut (d := 35) (v := vb (((decide (y104 = y105)) && (ref02_EqualInts (table_Widths x0 x1) (ref17_Widths x0 x1))) && (decide ((table_Bits x0 x1) = (ref17_Bits x0 x1))))) ?_ ?_
  ·intro S Q r
   simp only [ac4_G2, List.cons_append, List.nil_append, List.append_assoc]
   cases hb112 : ((decide (y104 = y105)) && (ref02_EqualInts (table_Widths x0 x1) (ref17_Widths x0 x1)))
   ·intro k
    refine rd_skip rfl rfl ?_
    refine rd_skip rfl rfl ?_
    refine rd_skip rfl rfl ?_
    refine rd_skip rfl rfl ?_
    refine rd_skip rfl rfl ?_
    refine rd_skip rfl rfl ?_
    refine rd_skip rfl rfl ?_
    refine rd_op (v := vb false) (ov_pick rfl rfl rfl rfl) ?_
    exact rd_weak (sub_cons rfl (sub_skip rfl (sub_skip rfl (sub_skip rfl (sub_skip rfl (sub_skip rfl (sub_skip rfl (sub_skip rfl (sub_skip rfl (sub_refl _)))))))))) k
   ·intro k
    have hb112' := hb112
    try simp only [qa1, qa2, qa3, qa4, qa5, qa6, qa7, qa8, qa9, qaA, qaB, qaC, qaD] at hb112'
    refine rd_yes rfl rfl (ov_load rfl (TR.cnt api_Program.t r0) (TR.agg api_Program.t r0)) ?_
    refine rd_yes rfl rfl (ov_move rfl) ?_
    have f113 := f23_ok (x1 := x1) r0 
    refine rd_ycall rfl rfl (cv_fn rfl rfl (clL_cons (TR.clo api_Program.t r0) (clL_cons rfl clL_nil)) f113) ?_
    refine rd_yes rfl rfl (ov_load rfl (TR.cnt api_Program.t r0) (TR.agg api_Program.t r0)) ?_
    refine rd_yes rfl rfl (ov_move rfl) ?_
    have f114 := f24_ok (x1 := x1) r0 
    refine rd_ycall rfl rfl (cv_fn rfl rfl (clL_cons (TR.clo api_Program.t r0) (clL_cons rfl clL_nil)) f114) ?_
    refine rd_yes rfl rfl (ov_bin rfl rfl i_eql) ?_
    refine rd_op (v := vb (decide ((table_Bits x0 x1) = (ref17_Bits x0 x1)))) (ov_pick rfl rfl rfl rfl) ?_
    exact rd_weak (sub_cons rfl (sub_skip rfl (sub_skip rfl (sub_skip rfl (sub_skip rfl (sub_skip rfl (sub_skip rfl (sub_skip rfl (sub_skip rfl (sub_refl _)))))))))) k
  refine rd_op (ov_move rfl) ?_
  refine rd_cut (d := 46) (v := vb ((((decide (y104 = y105)) && (ref02_EqualInts (table_Widths x0 x1) (ref17_Widths x0 x1))) && (decide ((table_Bits x0 x1) = (ref17_Bits x0 x1)))) && (decide ((table_Allows x0 x1 x2) = (ref17_Allows x0 x1 x2))))) ?_ ?_
  ·intro S Q r
   simp only [ac4_G3, List.cons_append, List.nil_append, List.append_assoc]
   cases hb115 : (((decide (y104 = y105)) && (ref02_EqualInts (table_Widths x0 x1) (ref17_Widths x0 x1))) && (decide ((table_Bits x0 x1) = (ref17_Bits x0 x1))))
   ·intro k
    refine rd_skip rfl rfl ?_
    refine rd_skip rfl rfl ?_
    refine rd_skip rfl rfl ?_
    refine rd_skip rfl rfl ?_
    refine rd_skip rfl rfl ?_
    refine rd_skip rfl rfl ?_
    refine rd_skip rfl rfl ?_
    refine rd_skip rfl rfl ?_
    refine rd_skip rfl rfl ?_
    refine rd_op (v := vb false) (ov_pick rfl rfl rfl rfl) ?_
    exact rd_weak (sub_cons rfl (sub_skip rfl (sub_skip rfl (sub_skip rfl (sub_skip rfl (sub_skip rfl (sub_skip rfl (sub_skip rfl (sub_skip rfl (sub_skip rfl (sub_skip rfl (sub_refl _)))))))))))) k
   ·intro k
    have hb115' := hb115
    try simp only [qa1, qa2, qa3, qa4, qa5, qa6, qa7, qa8, qa9, qaA, qaB, qaC, qaD] at hb115'
    refine rd_yes rfl rfl (ov_load rfl (TR.cnt api_Program.t r0) (TR.agg api_Program.t r0)) ?_
    refine rd_yes rfl rfl (ov_move rfl) ?_
    refine rd_yes rfl rfl (ov_move rfl) ?_
    have f116 := f25_ok (x1 := x1) (x2 := x2) r0 
    refine rd_ycall rfl rfl (cv_fn rfl rfl (clL_cons (TR.clo api_Program.t r0) (clL_cons rfl (clL_cons rfl clL_nil))) f116) ?_
    refine rd_yes rfl rfl (ov_load rfl (TR.cnt api_Program.t r0) (TR.agg api_Program.t r0)) ?_
    refine rd_yes rfl rfl (ov_move rfl) ?_
    refine rd_yes rfl rfl (ov_move rfl) ?_
    have f117 := f26_ok (x1 := x1) (x2 := x2) r0 
    refine rd_ycall rfl rfl (cv_fn rfl rfl (clL_cons (TR.clo api_Program.t r0) (clL_cons rfl (clL_cons rfl clL_nil))) f117) ?_
    refine rd_yes rfl rfl (ov_bin rfl rfl (bin_eqlb (by rw [Try.underlying4]; rfl))) ?_
    refine rd_op (v := vb (decide ((table_Allows x0 x1 x2) = (ref17_Allows x0 x1 x2)))) (ov_pick rfl rfl rfl rfl) ?_
    exact rd_weak (sub_cons rfl (sub_skip rfl (sub_skip rfl (sub_skip rfl (sub_skip rfl (sub_skip rfl (sub_skip rfl (sub_skip rfl (sub_skip rfl (sub_skip rfl (sub_skip rfl (sub_refl _)))))))))))) k
  refine rd_op (ov_move rfl) ?_
  refine rd_cut (d := 49) (v := vb (((((decide (y104 = y105)) && (ref02_EqualInts (table_Widths x0 x1) (ref17_Widths x0 x1))) && (decide ((table_Bits x0 x1) = (ref17_Bits x0 x1)))) && (decide ((table_Allows x0 x1 x2) = (ref17_Allows x0 x1 x2)))) && (law17_works))) ?_ ?_
  ·intro S Q r
   simp only [ac4_G4, List.cons_append, List.nil_append, List.append_assoc]
   cases hb118 : ((((decide (y104 = y105)) && (ref02_EqualInts (table_Widths x0 x1) (ref17_Widths x0 x1))) && (decide ((table_Bits x0 x1) = (ref17_Bits x0 x1)))) && (decide ((table_Allows x0 x1 x2) = (ref17_Allows x0 x1 x2))))
   ·intro k
    refine rd_skip rfl rfl ?_
    refine rd_op (v := vb false) (ov_pick rfl rfl rfl rfl) ?_
    exact rd_weak (sub_cons rfl (sub_skip rfl (sub_skip rfl (sub_refl _)))) k
   ·intro k
    have hb118' := hb118
    try simp only [qa1, qa2, qa3, qa4, qa5, qa6, qa7, qa8, qa9, qaA, qaB, qaC, qaD] at hb118'
    have f119 := f15_ok   
    refine rd_ycall rfl rfl (cv_fn rfl rfl clL_nil f119) ?_
    refine rd_op (v := vb (law17_works)) (ov_pick rfl rfl rfl rfl) ?_
    exact rd_weak (sub_cons rfl (sub_skip rfl (sub_skip rfl (sub_refl _)))) k
  refine rd_op (ov_move rfl) ?_
  refine rd_nil ?_
  refine pn_seq ?_
  subst hres
  exact rc_retV (.tmp rfl .nil) (deep_closed rfl) rfl

end Go.Proofs.Ytklfdkbemkommaa
