/-
 The code of each function does what its plain program says.
-/
import Derived.Test.YtklfdkbemkommaaL8W2
set_option linter.unusedVariables false
set_option linter.unusedSimpArgs false
set_option maxRecDepth 100000
namespace Go.Proofs.Ytklfdkbemkommaa
open Go Go.Pb Go.RowKit
/-- patchbay/table.valid -/
def RF52 (res : Bool) (r : PV) : Prop := r = vb res
theorem f52_ok {x0 : api_Program} {x1 : Int} {v0 : PV} (r0 : api_Program.t.R x0 v0) : FnR Try.prog 52 [v0, vi x1] (vb (table_valid x0 x1)) := by
 obtain ⟨res, hres⟩ : ∃ res, table_valid x0 x1 = res := ⟨_, rfl⟩
 suffices H : RC Try.prog ac52 [] (QR Try.prog [(4, none)] (RF52 res)) (argE 0 [v0, vi x1]) ⟨0, []⟩ by
  obtain ⟨r, h1, h2⟩ := fnE text52 (by simp) H
  rw [hres]
  have h2 : r = vb res := h2
  rw [← h2]; exact h1
 unfold table_valid at hres
 unfold ac52
 refine rc_seq ?_
 refine rc_region ?_
 refine rd_op (ov_box rfl (TR.cnt api_Program.t r0)) ?_
 refine rd_op (v := vb false) (ov_move rfl) ?_
 refine rd_nil ?_
 refine pn_seq ?_
 refine rc_seq ?_
 refine rc_region ?_
 refine rd_op (ov_load rfl (TR.cnt api_Program.t r0) (TR.agg api_Program.t r0)) ?_
 refine rd_op (ov_move rfl) ?_
 obtain ⟨y101, hw101, hres⟩ := let_ex hres
 have f101 := f16_ok (x1 := x1) r0 
 rw [hw101] at f101
 refine rd_call (cv_fn rfl rfl (clL_cons (TR.clo api_Program.t r0) (clL_cons rfl clL_nil)) f101) ?_
 refine rd_op (ov_move rfl) ?_
 refine rd_op (ov_extract rfl rfl) ?_
 refine rd_op (ov_extract rfl rfl) ?_
 refine rd_op (ov_move rfl) ?_
 refine rd_op (ov_move rfl) ?_
 refine rd_nil ?_
 refine pn_seq ?_
 refine rc_seq ?_
 refine rc_region ?_
 refine rd_op (ov_move rfl) ?_
 refine rd_op (ov_bin rfl rfl i_eql) ?_
 refine rd_op (ov_move rfl) ?_
 refine rd_nil ?_
 refine pn_seq ?_
 subst hres
 exact rc_retV (.tmp rfl .nil) (deep_closed rfl) rfl

/-- patchbay/table.Widths -/
def RF21 (res : (List Int)) (r : PV) : Prop := (tSl tI).R res r
theorem table_Widths_L1_ok {S : List Fr} {res : (List Int)} {x0 : api_Program} {x1 : Int} {y101 : Bool} {v0 : PV} {v105 : PV} (r0 : api_Program.t.R x0 v0) (hw101 : table_valid x0 x1 = y101) (hc102 : (!y101) = false) (r105 : (tSl api_TableKey.t).R ((ix x0.Tables x1).Keys) v105) {K0 : (List Int) → (List Int)}
  (hK0 : ∀ (zE107 : List Int) (esE107 : List PV) (aE107 : PV) (qE107 : All2 tI.R zE107 esE107) (nE107 : isL aE107 = true) (wrE107 : Wri aE107 esE107) (hlE107 : zE107.length ≤ 4611686018427387904) (h : Heap) (M0 : Mem h [⟨aE107, 3, 1, esE107⟩]), K0 zE107 = res → PX Try.prog 0 S (QR Try.prog [(4, none)] (RF21 res)) [(5, aE107)] h) :
  ∀ (m : Nat) (x19_ : Int) (zE107 : List Int) (esE107 : List PV) (aE107 : PV) (qE107 : All2 tI.R zE107 esE107) (nE107 : isL aE107 = true) (wrE107 : Wri aE107 esE107) (hlE107 : zE107.length ≤ 4611686018427387904) (hm1 : m = Int.toNat ((((ix x0.Tables x1).Keys).length : Int) - x19_)) (hlo1 : 0 ≤ x19_) (iv1_0 : (zE107.length : Int) ≤ x19_) (h : Heap) (M0 : Mem h [⟨aE107, 3, 1, esE107⟩]), table_Widths_L1 x0 x1 K0 m x19_ zE107 = res → RC Try.prog (.loop ac21_L1) S (QR Try.prog [(4, none)] (RF21 res)) [(19, vi x19_), (18, vi (((ix x0.Tables x1).Keys).length : Int)), (17, v105), (5, aE107), (2, .fp v0)] h := by
 have hc102' := hc102
 try simp only [qa1, qa2, qa3, qa4, qa5, qa6, qa7, qa8, qa9, qaA, qaB, qaC, qaD] at hc102'
 intro m
 induction m with
 | zero =>
  intro x19_ zE107 esE107 aE107 qE107 nE107 wrE107 hlE107 hm1 hlo1 iv1_0 h M0 hres
  rw [table_Widths_L1] at hres
  refine rc_loop ?_
  unfold ac21_L1
  refine rc_seq ?_
  refine rc_region ?_
  refine rd_op (ov_bin rfl rfl i_lss) ?_
  refine rd_nil ?_
  refine pn_seq ?_
  refine rc_seq ?_
  refine rc_cond rfl (fun hc108 => ?_) (fun hc108 => ?_)
  ·exfalso
   try simp only [qa1, qa2, qa3, qa4, qa5, qa6, qa7, qa8, qa9, qaA, qaB, qaC, qaD] at hc108
   omega
  ·have hend := hres
   have hc108' := hc108
   try simp only [qa1, qa2, qa3, qa4, qa5, qa6, qa7, qa8, qa9, qaA, qaB, qaC, qaD] at hc108'
   refine rc_exit ?_
   refine px_seq ?_
   refine px_again ?_
   exact px_weak ((sub_cons rfl (sub_nil _))) (hK0 zE107 esE107 aE107 qE107 nE107 wrE107 hlE107 _ (Mem.sub M0 (.cons_cons _ .slnil)) hres)
 | succ m ih =>
  intro x19_ zE107 esE107 aE107 qE107 nE107 wrE107 hlE107 hm1 hlo1 iv1_0 h M0 hres
  rw [table_Widths_L1] at hres
  refine rc_loop ?_
  unfold ac21_L1
  refine rc_seq ?_
  refine rc_region ?_
  refine rd_op (ov_bin rfl rfl i_lss) ?_
  refine rd_nil ?_
  refine pn_seq ?_
  refine rc_seq ?_
  refine rc_cond rfl (fun hc109 => ?_) (fun hc109 => ?_)
  ·have hgo := hres
   have hc109' := hc109
   try simp only [qa1, qa2, qa3, qa4, qa5, qa6, qa7, qa8, qa9, qaA, qaB, qaC, qaD] at hc109'
   refine rc_skip ?_
   refine pn_seq ?_
   refine rc_seq ?_
   refine rc_block ?_
   refine rc_seq ?_
   refine rc_region ?_
   obtain ⟨v110, e110, r110⟩ := sl_idx (i := x19_) r105 (by first | omega | (have hk := tck (by assumption) (by assumption); omega) | (have hk := rtck (by assumption) (by assumption); omega) | (have hk := eck (by assumption) (by assumption) (by assumption); omega) | (have hk := tv (by assumption) (by assumption); omega) | (have hk := rtv (by assumption) (by assumption); omega)) (by first | omega | (have hk := tck (by assumption) (by assumption); omega) | (have hk := rtck (by assumption) (by assumption); omega) | (have hk := eck (by assumption) (by assumption) (by assumption); omega) | (have hk := tv (by assumption) (by assumption); omega) | (have hk := rtv (by assumption) (by assumption); omega))
   refine rd_op (ov_iaddr rfl rfl e110) ?_
   refine rd_op (ov_load rfl (TR.cnt api_TableKey.t r110) (TR.agg api_TableKey.t r110)) ?_
   refine rd_allocO (x := .agg [vi 0, vi 0, vi 0]) M0 rfl rfl (fun i111 w111 h111 M111 => ?_)
   refine rd_storeO (k := 0) (v := v110) M111 rfl rfl rfl (TR.cnt api_TableKey.t r110) (fun h113 M113 => ?_)
   replace M113 : Mem h113 [⟨.op i111 w111 0, 62, 3, [v110]⟩, ⟨aE107, 3, 1, esE107⟩] := M113
   refine rd_nil ?_
   refine pn_seq ?_
   refine rc_region ?_
   refine rd_op (ov_move rfl) ?_
   refine rd_op (ov_load rfl (TR.cnt api_Program.t r0) (TR.agg api_Program.t r0)) ?_
   refine rd_op (ov_faddrO rfl) ?_
   obtain ⟨v114, e114, r114⟩ := api_TableKey.g_Field r110
   refine rd_op (ov_loadf (k := 0) M113 rfl rfl e114) ?_
   obtain ⟨y115, hw115, hres⟩ := let_ex hres
   have f115 := f54_ok  r0 r114 
   rw [hw115] at f115
   refine rd_call (cv_fn rfl rfl (clL_cons (TR.clo api_Program.t r0) (clL_cons (TR.clo api_FieldRef.t r114) clL_nil)) f115) ?_
   refine rd_op (v := .fs true [vi y115]) (ov_bslice rfl (all_cons rfl all_nil)) ?_
   have r116 : (tSl tI).R ([y115] : List Int) (.fs true [vi y115]) := sl_fs ⟨rfl, trivial⟩ (by simp)
   obtain ⟨nw117, sr117, ar117⟩ := src_of (t := tI) (h := h113) r116
   have f117 : fits (esE107.length + nw117.length) 8 = true := by rw [All2.length_eq qE107, All2.length_eq ar117]; (try simp only [List.length_cons, List.length_nil]); exact fits_of (by have hk := tv (by assumption) (by assumption); omega) (by have hk := tv (by assumption) (by assumption); omega)
   refine rd_appW (k := 1) (es := esE107) (news := nw117) M113 rfl rfl rfl nE107 wrE107 sr117 f117 (fun a117 h117 n117 wr117 M117 => ?_)
   have q117 : All2 tI.R (zE107 ++ ([y115] : List Int)) (esE107 ++ nw117) := All2.app qE107 ar117
   have hl117 : (zE107 ++ ([y115] : List Int)).length ≤ 4611686018427387904 := by rw [← All2.length_eq q117, List.length_append]; exact fits_len f117
   refine rd_op (ov_move rfl) ?_
   refine rd_nil ?_
   refine pn_blk ?_
   refine pn_seq ?_
   refine rc_region ?_
   refine rd_op (ov_bin rfl rfl i_add) ?_
   refine rd_op (ov_move rfl) ?_
   refine rd_nil ?_
   refine pn_again ?_
   have hbd := sl_bound r105
   have hinc : wr (x19_ + 1) = x19_ + 1 := wr_of (by omega) (by omega)
   rw [hinc]
   refine rc_weak ?_ (ih (x19_ + 1) (zE107 ++ ([y115] : List Int)) (esE107 ++ nw117) a117 q117 n117 wr117 hl117 (by omega) (by omega) (by first | omega | (simp; done) | (simp only [List.length_append, List.length_cons, List.length_nil, List.length_set]; omega)) _ (Mem.sub M117 (.cons _ (.cons_cons _ .slnil))) hres)
   exact ((sub_cons rfl (sub_cons rfl (sub_cons rfl (sub_cons rfl (sub_cons rfl (sub_nil _)))))))
  ·exfalso
   try simp only [qa1, qa2, qa3, qa4, qa5, qa6, qa7, qa8, qa9, qaA, qaB, qaC, qaD] at hc109
   omega

theorem f21_ok {x0 : api_Program} {x1 : Int} {v0 : PV} (r0 : api_Program.t.R x0 v0) : ∃ r, FnR Try.prog 21 [v0, vi x1] r ∧ (tSl tI).R (table_Widths x0 x1) r := by
 obtain ⟨res, hres⟩ : ∃ res, table_Widths x0 x1 = res := ⟨_, rfl⟩
 suffices H : RC Try.prog ac21 [] (QR Try.prog [(4, none)] (RF21 res)) (argE 0 [v0, vi x1]) ⟨0, []⟩ by
  rw [hres]
  exact fnE text21 (by simp) H
 unfold table_Widths at hres
 unfold ac21
 refine rc_seq ?_
 refine rc_region ?_
 refine rd_op (ov_box rfl (TR.cnt api_Program.t r0)) ?_
 refine rd_op (v := nilS) (ov_move rfl) ?_
 refine rd_nil ?_
 refine pn_seq ?_
 refine rc_seq ?_
 refine rc_seq ?_
 refine rc_region ?_
 refine rd_op (ov_load rfl (TR.cnt api_Program.t r0) (TR.agg api_Program.t r0)) ?_
 refine rd_op (ov_move rfl) ?_
 obtain ⟨y101, hw101, hres⟩ := let_ex hres
 have f101 := f52_ok (x1 := x1) r0 
 rw [hw101] at f101
 refine rd_call (cv_fn rfl rfl (clL_cons (TR.clo api_Program.t r0) (clL_cons rfl clL_nil)) f101) ?_
 refine rd_op (ov_not rfl) ?_
 refine rd_nil ?_
 refine pn_seq ?_
 refine rc_cond rfl (fun hc102 => ?_) (fun hc102 => ?_)
 ·replace hres := (ite_t hc102).symm.trans hres
  have hc102' := hc102
  try simp only [qa1, qa2, qa3, qa4, qa5, qa6, qa7, qa8, qa9, qaA, qaB, qaC, qaD] at hc102'
  refine rc_seq ?_
  refine rc_region ?_
  refine rd_op (v := nilS) (ov_move rfl) ?_
  refine rd_nil ?_
  refine pn_seq ?_
  subst hres
  exact rc_retV (.tmp rfl .nil) (deep_closed (TR.clo (tSl tI) sl_nil)) sl_nil
 ·replace hres := (ite_f hc102).symm.trans hres
  have hc102' := hc102
  try simp only [qa1, qa2, qa3, qa4, qa5, qa6, qa7, qa8, qa9, qaA, qaB, qaC, qaD] at hc102'
  refine rc_skip ?_
  refine pn_seq ?_
  refine rc_seq ?_
  refine rc_region ?_
  refine rd_op (v := nilS) (ov_move rfl) ?_
  refine rd_nil ?_
  refine pn_seq ?_
  refine rc_seq ?_
  refine rc_seq ?_
  refine rc_region ?_
  obtain ⟨v103, e103, r103⟩ := api_Program.g_Tables r0
  refine rd_op (ov_faddr rfl e103) ?_
  refine rd_op (ov_load rfl (TR.cnt (tSl api_Table.t) r103) (TR.agg (tSl api_Table.t) r103)) ?_
  refine rd_op (ov_move rfl) ?_
  obtain ⟨v104, e104, r104⟩ := sl_idx (i := x1) r103 (by first | omega | (have hk := tck (by assumption) (by assumption); omega) | (have hk := rtck (by assumption) (by assumption); omega) | (have hk := eck (by assumption) (by assumption) (by assumption); omega) | (have hk := tv (by assumption) (by assumption); omega) | (have hk := rtv (by assumption) (by assumption); omega)) (by first | omega | (have hk := tck (by assumption) (by assumption); omega) | (have hk := rtck (by assumption) (by assumption); omega) | (have hk := eck (by assumption) (by assumption) (by assumption); omega) | (have hk := tv (by assumption) (by assumption); omega) | (have hk := rtv (by assumption) (by assumption); omega))
  refine rd_op (ov_iaddr rfl rfl e104) ?_
  obtain ⟨v105, e105, r105⟩ := api_Table.g_Keys r104
  refine rd_op (ov_faddr rfl e105) ?_
  refine rd_op (ov_load rfl (TR.cnt (tSl api_TableKey.t) r105) (TR.agg (tSl api_TableKey.t) r105)) ?_
  refine rd_op (ov_bi rfl (sl_len r105 Try.underlying52 _)) ?_
  refine rd_op (v := vi 0) (ov_move rfl) ?_
  refine rd_nil ?_
  refine pn_seq ?_
  refine rc_block ?_
  have M106 := mem_acc (sz := 1) (es := []) (Mem.nil ⟨0, []⟩) 3 (.inl ⟨none, rfl, rfl⟩) (by simp)
  refine rc_weak ?_ (table_Widths_L1_ok (x0 := x0) (x1 := x1) (y101 := y101) (v0 := v0) (v105 := v105)  (r0 := r0) (hw101 := hw101) (hc102 := hc102) (r105 := r105) ?_ (Int.toNat ((((ix x0.Tables x1).Keys).length : Int) - 0)) 0 ([] : List Int) ([] : List PV) nilS (show All2 tI.R ([] : List Int) [] from trivial) rfl (.inl rfl) (by decide) rfl (by omega) (by first | omega | (simp; done) | (simp only [List.length_append, List.length_cons, List.length_nil, List.length_set]; omega)) _ (Mem.sub M106 (.cons_cons _ .slnil)) hres)
  ·exact ((sub_cons rfl (sub_cons rfl (sub_cons rfl (sub_cons rfl (sub_cons rfl (sub_nil _)))))))
  ·intro zE107_118 es118E107 a118E107 q118E107 n118E107 wr118E107 hl118E107 h118 M118 hres
   refine px_blk ?_
   refine pn_seq ?_
   refine rc_seq ?_
   refine rc_region ?_
   refine rd_op (ov_move rfl) ?_
   refine rd_op (ov_move rfl) ?_
   refine rd_nil ?_
   refine pn_seq ?_
   obtain ⟨v119, d119, r119⟩ := own_sl (P := Try.prog) (k := 0) (t := tI) M118 rfl n118E107 q118E107 (Nat.le_trans hl118E107 (by decide))
   subst hres
   exact rc_retV (.tmp rfl .nil) d119 r119

/-- patchbay/bitvec.PrefixMask -/
def RF93 (res : (BitVec 32)) (r : PV) : Prop := r = vu32 res
theorem f93_ok {x0 : Int} {x1 : Int} : FnR Try.prog 93 [vi x0, vi x1] (vu32 (bitvec_PrefixMask x0 x1)) := by
 obtain ⟨res, hres⟩ : ∃ res, bitvec_PrefixMask x0 x1 = res := ⟨_, rfl⟩
 suffices H : RC Try.prog ac93 [] (QR Try.prog [(4, none)] (RF93 res)) (argE 0 [vi x0, vi x1]) ⟨0, []⟩ by
  obtain ⟨r, h1, h2⟩ := fnE text93 (by simp) H
  rw [hres]
  have h2 : r = vu32 res := h2
  rw [← h2]; exact h1
 unfold bitvec_PrefixMask at hres
 unfold ac93
 refine rc_seq ?_
 refine rc_region ?_
 refine rd_op (v := vu32 0#32) (ov_move rfl) ?_
 refine rd_nil ?_
 refine pn_seq ?_
 refine rc_seq ?_
 refine rc_seq ?_
 refine rc_region ?_
 refine rd_op (ov_move rfl) ?_
 refine rd_op (v := .fs true [vi x1]) (ov_bslice rfl (all_cons rfl all_nil)) ?_
 have r101 : (tSl tI).R ([x1] : List Int) (.fs true [vi x1]) := sl_fs ⟨rfl, trivial⟩ (by simp)
 obtain ⟨y102, hw102, hres⟩ := let_ex hres
 have f102 := f80_ok  r101 
 rw [hw102] at f102
 refine rd_call (cv_fn rfl rfl (clL_cons (TR.clo (tSl tI) r101) clL_nil) f102) ?_
 refine rd_op (ov_not rfl) ?_
 refine rd_nil ?_
 refine pn_seq ?_
 refine rc_cond rfl (fun hc103 => ?_) (fun hc103 => ?_)
 ·replace hres := (ite_t hc103).symm.trans hres
  have hc103' := hc103
  try simp only [qa1, qa2, qa3, qa4, qa5, qa6, qa7, qa8, qa9, qaA, qaB, qaC, qaD] at hc103'
  refine rc_seq ?_
  refine rc_region ?_
  refine rd_op (v := vu32 0#32) (ov_move rfl) ?_
  refine rd_nil ?_
  refine pn_seq ?_
  subst hres
  exact rc_retV (.tmp rfl .nil) (deep_closed rfl) rfl
 ·replace hres := (ite_f hc103).symm.trans hres
  have hc103' := hc103
  try simp only [qa1, qa2, qa3, qa4, qa5, qa6, qa7, qa8, qa9, qaA, qaB, qaC, qaD] at hc103'
  refine rc_skip ?_
  refine pn_seq ?_
  refine rc_seq ?_
  refine rc_region ?_
  refine rd_op (ov_move rfl) ?_
  obtain ⟨y104, hw104, hres⟩ := let_ex hres
  have f104 := f58_ok (x0 := x1)  
  rw [hw104] at f104
  refine rd_call (cv_fn rfl rfl (clL_cons rfl clL_nil) f104) ?_
  refine rd_op (ov_move rfl) ?_
  obtain ⟨y105, hw105, hres⟩ := let_ex hres
  have f105 := f58_ok (x0 := x1)  
  rw [hw105] at f105
  refine rd_call (cv_fn rfl rfl (clL_cons rfl clL_nil) f105) ?_
  refine rd_op (ov_move rfl) ?_
  refine rd_op (ov_bi rfl (max_int _ _)) ?_
  refine rd_op (ov_move rfl) ?_
  refine rd_op (ov_bi rfl (min_int _ _)) ?_
  refine rd_op (ov_bin (a := vu32 y105) (b := vi (min (max x0 0) x1)) rfl rfl (w_shr (by have hk := mv (by assumption) (by assumption); omega))) ?_
  refine rd_op (ov_bin (a := vu32 y104) (b := vu32 (y105 >>> (min (max x0 0) x1).toNat)) rfl rfl w_andNot) ?_
  refine rd_op (ov_move rfl) ?_
  refine rd_nil ?_
  refine pn_seq ?_
  subst hres
  exact rc_retV (.tmp rfl .nil) (deep_closed rfl) rfl

/-- patchbay/bitvec.PrefixLen -/
def RF84 (res : Int × Bool) (r : PV) : Prop := r = .tup [vi res.1, vb res.2]
theorem bitvec_PrefixLen_L1_ok {S : List Fr} {res : Int × Bool} {x0 : BitVec 32} {x1 : Int} {y102 : Bool} (hw102 : bitvec_valid ([x1] : List Int) = y102) (hc103 : (!y102) = false) {K0 : Unit → (Int × Bool)}
  (hK0 : K0 () = res → PX Try.prog 0 S (QR Try.prog [(4, none), (5, none)] (RF84 res)) [] ⟨0, []⟩) :
  ∀ (m : Nat) (x13_ : Int) (hm1 : m = Int.toNat ((wr (x1 + 1)) - x13_)) (hlo1 : 0 ≤ x13_), bitvec_PrefixLen_L1 x0 x1 K0 m x13_ = res → RC Try.prog (.loop ac84_L1) S (QR Try.prog [(4, none), (5, none)] (RF84 res)) [(13, vi x13_), (12, vi (wr (x1 + 1))), (1, vi x1), (0, vu32 x0)] ⟨0, []⟩ := by
 have hc103' := hc103
 try simp only [qa1, qa2, qa3, qa4, qa5, qa6, qa7, qa8, qa9, qaA, qaB, qaC, qaD] at hc103'
 intro m
 induction m with
 | zero =>
  intro x13_ hm1 hlo1 hres
  rw [bitvec_PrefixLen_L1] at hres
  refine rc_loop ?_
  unfold ac84_L1
  refine rc_seq ?_
  refine rc_region ?_
  refine rd_op (ov_bin rfl rfl i_lss) ?_
  refine rd_nil ?_
  refine pn_seq ?_
  refine rc_seq ?_
  refine rc_cond rfl (fun hc104 => ?_) (fun hc104 => ?_)
  ·exfalso
   try simp only [qa1, qa2, qa3, qa4, qa5, qa6, qa7, qa8, qa9, qaA, qaB, qaC, qaD] at hc104
   omega
  ·have hend := hres
   have hc104' := hc104
   try simp only [qa1, qa2, qa3, qa4, qa5, qa6, qa7, qa8, qa9, qaA, qaB, qaC, qaD] at hc104'
   refine rc_exit ?_
   refine px_seq ?_
   refine px_again ?_
   exact px_weak ((sub_nil _)) (hK0  hres)
 | succ m ih =>
  intro x13_ hm1 hlo1 hres
  rw [bitvec_PrefixLen_L1] at hres
  refine rc_loop ?_
  unfold ac84_L1
  refine rc_seq ?_
  refine rc_region ?_
  refine rd_op (ov_bin rfl rfl i_lss) ?_
  refine rd_nil ?_
  refine pn_seq ?_
  refine rc_seq ?_
  refine rc_cond rfl (fun hc105 => ?_) (fun hc105 => ?_)
  ·have hgo := hres
   have hc105' := hc105
   try simp only [qa1, qa2, qa3, qa4, qa5, qa6, qa7, qa8, qa9, qaA, qaB, qaC, qaD] at hc105'
   refine rc_skip ?_
   refine pn_seq ?_
   refine rc_seq ?_
   refine rc_block ?_
   refine rc_seq ?_
   refine rc_region ?_
   refine rd_op (ov_move rfl) ?_
   refine rd_op (ov_move rfl) ?_
   refine rd_nil ?_
   refine pn_seq ?_
   refine rc_seq ?_
   refine rc_region ?_
   refine rd_op (ov_move rfl) ?_
   refine rd_op (ov_move rfl) ?_
   obtain ⟨y106, hw106, hres⟩ := let_ex hres
   have f106 := f93_ok (x0 := x13_) (x1 := x1)  
   rw [hw106] at f106
   refine rd_call (cv_fn rfl rfl (clL_cons rfl (clL_cons rfl clL_nil)) f106) ?_
   refine rd_op (ov_move rfl) ?_
   refine rd_op (ov_bin (a := vu32 y106) (b := vu32 x0) rfl rfl w_eql) ?_
   refine rd_nil ?_
   refine pn_seq ?_
   refine rc_cond rfl (fun hc107 => ?_) (fun hc107 => ?_)
   ·replace hres := (ite_t hc107).symm.trans hres
    have hc107' := hc107
    try simp only [qa1, qa2, qa3, qa4, qa5, qa6, qa7, qa8, qa9, qaA, qaB, qaC, qaD] at hc107'
    refine rc_seq ?_
    refine rc_region ?_
    refine rd_op (ov_move rfl) ?_
    refine rd_op (ov_move rfl) ?_
    refine rd_op (v := vb true) (ov_move rfl) ?_
    refine rd_nil ?_
    refine pn_seq ?_
    subst hres
    exact rc_retV (.tmp rfl (.tmp rfl .nil)) (deep_closed (show closed (.tup _) = true from (clL_cons rfl (clL_cons rfl clL_nil)))) rfl
   ·replace hres := (ite_f hc107).symm.trans hres
    have hc107' := hc107
    try simp only [qa1, qa2, qa3, qa4, qa5, qa6, qa7, qa8, qa9, qaA, qaB, qaC, qaD] at hc107'
    refine rc_skip ?_
    refine pn_blk ?_
    refine pn_seq ?_
    refine rc_region ?_
    refine rd_op (ov_bin rfl rfl i_add) ?_
    refine rd_op (ov_move rfl) ?_
    refine rd_nil ?_
    refine pn_again ?_
    have hinc : wr (x13_ + 1) = x13_ + 1 := wr_of (by omega) (by have hk := mv (by assumption) (by assumption); have e := wr_of (n := x1 + 1) (by omega) (by omega); omega)
    rw [hinc]
    refine rc_weak ?_ (ih (x13_ + 1)  (by omega) (by omega) hres)
    exact ((sub_cons rfl (sub_cons rfl (sub_cons rfl (sub_cons rfl (sub_nil _))))))
  ·exfalso
   try simp only [qa1, qa2, qa3, qa4, qa5, qa6, qa7, qa8, qa9, qaA, qaB, qaC, qaD] at hc105
   omega

theorem f84_ok {x0 : BitVec 32} {x1 : Int} : FnR Try.prog 84 [vu32 x0, vi x1] (.tup [vi ((bitvec_PrefixLen x0 x1).1), vb ((bitvec_PrefixLen x0 x1).2)]) := by
 obtain ⟨res, hres⟩ : ∃ res, bitvec_PrefixLen x0 x1 = res := ⟨_, rfl⟩
 suffices H : RC Try.prog ac84 [] (QR Try.prog [(4, none), (5, none)] (RF84 res)) (argE 0 [vu32 x0, vi x1]) ⟨0, []⟩ by
  obtain ⟨r, h1, h2⟩ := fnE text84 (by simp) H
  rw [hres]
  have h2 : r = .tup [vi res.1, vb res.2] := h2
  rw [← h2]; exact h1
 unfold bitvec_PrefixLen at hres
 unfold ac84
 refine rc_seq ?_
 refine rc_region ?_
 refine rd_op (v := vi 0) (ov_move rfl) ?_
 refine rd_op (v := vb false) (ov_move rfl) ?_
 refine rd_nil ?_
 refine pn_seq ?_
 refine rc_seq ?_
 refine rc_seq ?_
 refine rc_region ?_
 refine rd_op (ov_move rfl) ?_
 refine rd_op (v := .fs true [vi x1]) (ov_bslice rfl (all_cons rfl all_nil)) ?_
 have r101 : (tSl tI).R ([x1] : List Int) (.fs true [vi x1]) := sl_fs ⟨rfl, trivial⟩ (by simp)
 obtain ⟨y102, hw102, hres⟩ := let_ex hres
 have f102 := f80_ok  r101 
 rw [hw102] at f102
 refine rd_call (cv_fn rfl rfl (clL_cons (TR.clo (tSl tI) r101) clL_nil) f102) ?_
 refine rd_op (ov_not rfl) ?_
 refine rd_nil ?_
 refine pn_seq ?_
 refine rc_cond rfl (fun hc103 => ?_) (fun hc103 => ?_)
 ·replace hres := (ite_t hc103).symm.trans hres
  have hc103' := hc103
  try simp only [qa1, qa2, qa3, qa4, qa5, qa6, qa7, qa8, qa9, qaA, qaB, qaC, qaD] at hc103'
  refine rc_seq ?_
  refine rc_region ?_
  refine rd_op (v := vi 0) (ov_move rfl) ?_
  refine rd_op (v := vb false) (ov_move rfl) ?_
  refine rd_nil ?_
  refine pn_seq ?_
  subst hres
  exact rc_retV (.tmp rfl (.tmp rfl .nil)) (deep_closed (show closed (.tup _) = true from (clL_cons rfl (clL_cons rfl clL_nil)))) rfl
 ·replace hres := (ite_f hc103).symm.trans hres
  have hc103' := hc103
  try simp only [qa1, qa2, qa3, qa4, qa5, qa6, qa7, qa8, qa9, qaA, qaB, qaC, qaD] at hc103'
  refine rc_skip ?_
  refine pn_seq ?_
  refine rc_seq ?_
  refine rc_seq ?_
  refine rc_region ?_
  refine rd_op (ov_move rfl) ?_
  refine rd_op (ov_bin rfl rfl i_add) ?_
  refine rd_op (v := vi 0) (ov_move rfl) ?_
  refine rd_nil ?_
  refine pn_seq ?_
  refine rc_block ?_
  refine rc_weak ?_ (bitvec_PrefixLen_L1_ok (x0 := x0) (x1 := x1) (y102 := y102)   (hw102 := hw102) (hc103 := hc103) ?_ (Int.toNat ((wr (x1 + 1)) - 0)) 0 rfl (by omega) hres)
  ·exact ((sub_cons rfl (sub_cons rfl (sub_cons rfl (sub_cons rfl (sub_nil _))))))
  ·intro  hres
   refine px_blk ?_
   refine pn_seq ?_
   refine rc_seq ?_
   refine rc_region ?_
   refine rd_op (v := vi 0) (ov_move rfl) ?_
   refine rd_op (v := vb false) (ov_move rfl) ?_
   refine rd_nil ?_
   refine pn_seq ?_
   subst hres
   exact rc_retV (.tmp rfl (.tmp rfl .nil)) (deep_closed (show closed (.tup _) = true from (clL_cons rfl (clL_cons rfl clL_nil)))) rfl

/-- patchbay/entry.checkKey -/
def RF63 (res : Int) (r : PV) : Prop := r = vi res
theorem f63_ok {x0 : api_KeyMatch} {x1 : Int} {x2 : Int} {v0 : PV} (r0 : api_KeyMatch.t.R x0 v0) : FnR Try.prog 63 [v0, vi x1, vi x2] (vi (entry_checkKey x0 x1 x2)) := by
 obtain ⟨res, hres⟩ : ∃ res, entry_checkKey x0 x1 x2 = res := ⟨_, rfl⟩
 suffices H : RC Try.prog ac63 [] (QR Try.prog [(6, none)] (RF63 res)) (argE 0 [v0, vi x1, vi x2]) ⟨0, []⟩ by
  obtain ⟨r, h1, h2⟩ := fnE text63 (by simp) H
  rw [hres]
  have h2 : r = vi res := h2
  rw [← h2]; exact h1
 unfold entry_checkKey at hres
 unfold ac63
 refine rc_seq ?_
 refine rc_region ?_
 refine rd_op (ov_box rfl (TR.cnt api_KeyMatch.t r0)) ?_
 refine rd_op (v := vi 0) (ov_move rfl) ?_
 refine rd_nil ?_
 refine pn_seq ?_
 refine rc_seq ?_
 refine rc_block ?_
 refine rc_seq ?_
 refine rc_region ?_
 refine rd_op (ov_faddr rfl (api_KeyMatch.g_Value r0)) ?_
 refine rd_op (ov_load rfl rfl rfl) ?_
 refine rd_op (ov_move rfl) ?_
 obtain ⟨y101, hw101, hres⟩ := let_ex hres
 have f101 := f83_ok (x0 := x0.Value) (x1 := x2)  
 rw [hw101] at f101
 refine rd_call (cv_fn rfl rfl (clL_cons rfl (clL_cons rfl clL_nil)) f101) ?_
 refine rd_op (ov_not rfl) ?_
 refine rd_op (ov_move rfl) ?_
 refine rd_cut (d := 21) (v := vb ((!y101) || (!(bitvec_Fits x0.Mask x2)))) ?_ ?_
 ·intro S Q r
  simp only [ac63_G1, List.cons_append, List.nil_append, List.append_assoc]
  cases hb102 : (!y101)
  ·intro k
   have hb102' := hb102
   try simp only [qa1, qa2, qa3, qa4, qa5, qa6, qa7, qa8, qa9, qaA, qaB, qaC, qaD] at hb102'
   refine rd_yes rfl rfl (ov_faddr rfl (api_KeyMatch.g_Mask r0)) ?_
   refine rd_yes rfl rfl (ov_load rfl rfl rfl) ?_
   refine rd_yes rfl rfl (ov_move rfl) ?_
   have f103 := f83_ok (x0 := x0.Mask) (x1 := x2)  
   refine rd_ycall rfl rfl (cv_fn rfl rfl (clL_cons rfl (clL_cons rfl clL_nil)) f103) ?_
   refine rd_yes rfl rfl (ov_not rfl) ?_
   refine rd_op (v := vb (!(bitvec_Fits x0.Mask x2))) (ov_pick rfl rfl rfl rfl) ?_
   exact rd_weak (sub_cons rfl (sub_skip rfl (sub_skip rfl (sub_skip rfl (sub_skip rfl (sub_skip rfl (sub_skip rfl (sub_refl _)))))))) k
  ·intro k
   refine rd_skip rfl rfl ?_
   refine rd_skip rfl rfl ?_
   refine rd_skip rfl rfl ?_
   refine rd_skip rfl rfl ?_
   refine rd_skip rfl rfl ?_
   refine rd_op (v := vb true) (ov_pick rfl rfl rfl rfl) ?_
   exact rd_weak (sub_cons rfl (sub_skip rfl (sub_skip rfl (sub_skip rfl (sub_skip rfl (sub_skip rfl (sub_skip rfl (sub_refl _)))))))) k
 refine rd_op (ov_move rfl) ?_
 refine rd_nil ?_
 refine pn_seq ?_
 refine rc_cond rfl (fun hc104 => ?_) (fun hc104 => ?_)
 ·replace hres := (ite_t hc104).symm.trans hres
  have hc104' := hc104
  try simp only [qa1, qa2, qa3, qa4, qa5, qa6, qa7, qa8, qa9, qaA, qaB, qaC, qaD] at hc104'
  refine rc_seq ?_
  refine rc_region ?_
  refine rd_op (v := vi 9) (ov_move rfl) ?_
  refine rd_nil ?_
  refine pn_seq ?_
  subst hres
  exact rc_retV (.tmp rfl .nil) (deep_closed rfl) rfl
 ·replace hres := (ite_f hc104).symm.trans hres
  have hc104' := hc104
  try simp only [qa1, qa2, qa3, qa4, qa5, qa6, qa7, qa8, qa9, qaA, qaB, qaC, qaD] at hc104'
  refine rc_seq ?_
  refine rc_region ?_
  refine rd_op (ov_faddr rfl (api_KeyMatch.g_Value r0)) ?_
  refine rd_op (ov_load rfl rfl rfl) ?_
  refine rd_op (ov_faddr rfl (api_KeyMatch.g_Mask r0)) ?_
  refine rd_op (ov_load rfl rfl rfl) ?_
  refine rd_op (ov_bin (a := vu32 x0.Value) (b := vu32 x0.Mask) rfl rfl w_andNot) ?_
  refine rd_op (ov_bin (a := vu32 (x0.Value &&& ~~~x0.Mask)) (b := vu32 0#32) rfl rfl w_neq) ?_
  refine rd_op (ov_move rfl) ?_
  refine rd_nil ?_
  refine pn_seq ?_
  refine rc_cond rfl (fun hc105 => ?_) (fun hc105 => ?_)
  ·replace hres := (ite_t hc105).symm.trans hres
   have hc105' := hc105
   try simp only [qa1, qa2, qa3, qa4, qa5, qa6, qa7, qa8, qa9, qaA, qaB, qaC, qaD] at hc105'
   refine rc_seq ?_
   refine rc_region ?_
   refine rd_op (v := vi 5) (ov_move rfl) ?_
   refine rd_nil ?_
   refine pn_seq ?_
   subst hres
   exact rc_retV (.tmp rfl .nil) (deep_closed rfl) rfl
  ·replace hres := (ite_f hc105).symm.trans hres
   have hc105' := hc105
   try simp only [qa1, qa2, qa3, qa4, qa5, qa6, qa7, qa8, qa9, qaA, qaB, qaC, qaD] at hc105'
   refine rc_seq ?_
   refine rc_region ?_
   refine rd_op (ov_move rfl) ?_
   refine rd_op (ov_bin rfl rfl i_eql) ?_
   refine rd_op (ov_move rfl) ?_
   refine rd_cut (d := 38) (v := vb ((decide (x1 = 1)) && (!decide (x0.Mask = (bitvec_Mask x2))))) ?_ ?_
   ·intro S Q r
    simp only [ac63_G2, List.cons_append, List.nil_append, List.append_assoc]
    cases hb106 : (decide (x1 = 1))
    ·intro k
     refine rd_skip rfl rfl ?_
     refine rd_skip rfl rfl ?_
     refine rd_skip rfl rfl ?_
     refine rd_skip rfl rfl ?_
     refine rd_skip rfl rfl ?_
     refine rd_op (v := vb false) (ov_pick rfl rfl rfl rfl) ?_
     exact rd_weak (sub_cons rfl (sub_skip rfl (sub_skip rfl (sub_skip rfl (sub_skip rfl (sub_skip rfl (sub_skip rfl (sub_refl _)))))))) k
    ·intro k
     have hb106' := hb106
     try simp only [qa1, qa2, qa3, qa4, qa5, qa6, qa7, qa8, qa9, qaA, qaB, qaC, qaD] at hb106'
     refine rd_yes rfl rfl (ov_faddr rfl (api_KeyMatch.g_Mask r0)) ?_
     refine rd_yes rfl rfl (ov_load rfl rfl rfl) ?_
     refine rd_yes rfl rfl (ov_move rfl) ?_
     have f107 := f58_ok (x0 := x2)  
     refine rd_ycall rfl rfl (cv_fn rfl rfl (clL_cons rfl clL_nil) f107) ?_
     refine rd_yes rfl rfl (ov_bin (a := vu32 x0.Mask) (b := vu32 (bitvec_Mask x2)) rfl rfl w_neq) ?_
     refine rd_op (v := vb (!decide (x0.Mask = (bitvec_Mask x2)))) (ov_pick rfl rfl rfl rfl) ?_
     exact rd_weak (sub_cons rfl (sub_skip rfl (sub_skip rfl (sub_skip rfl (sub_skip rfl (sub_skip rfl (sub_skip rfl (sub_refl _)))))))) k
   refine rd_op (ov_move rfl) ?_
   refine rd_nil ?_
   refine pn_seq ?_
   refine rc_cond rfl (fun hc108 => ?_) (fun hc108 => ?_)
   ·replace hres := (ite_t hc108).symm.trans hres
    have hc108' := hc108
    try simp only [qa1, qa2, qa3, qa4, qa5, qa6, qa7, qa8, qa9, qaA, qaB, qaC, qaD] at hc108'
    refine rc_seq ?_
    refine rc_region ?_
    refine rd_op (v := vi 11) (ov_move rfl) ?_
    refine rd_nil ?_
    refine pn_seq ?_
    subst hres
    exact rc_retV (.tmp rfl .nil) (deep_closed rfl) rfl
   ·replace hres := (ite_f hc108).symm.trans hres
    have hc108' := hc108
    try simp only [qa1, qa2, qa3, qa4, qa5, qa6, qa7, qa8, qa9, qaA, qaB, qaC, qaD] at hc108'
    refine rc_skip ?_
    refine pn_blk ?_
    refine pn_seq ?_
    refine rc_seq ?_
    refine rc_seq ?_
    refine rc_region ?_
    refine rd_op (ov_move rfl) ?_
    refine rd_op (ov_bin rfl rfl i_eql) ?_
    refine rd_nil ?_
    refine pn_seq ?_
    obtain ⟨k112, hk112, hres⟩ := let_ex hres
    refine rc_join (F := fun b S Q => ∀ (hj112 : Heap) (Mj112 : Mem hj112 []), k112 () = res → RC Try.prog b S Q [] hj112) ?_ ?_
    ·intro  hj112 Mj112 hres
     rw [← hk112] at hres
     refine rc_seq ?_
     refine rc_region ?_
     refine rd_op (v := vi 0) (ov_move rfl) ?_
     refine rd_nil ?_
     refine pn_seq ?_
     subst hres
     exact rc_retV (.tmp rfl .nil) (deep_closed rfl) rfl
    ·intro J
     refine rc_cond rfl (fun hc113 => ?_) (fun hc113 => ?_)
     ·replace hres := (ite_t hc113).symm.trans hres
      have hc113' := hc113
      try simp only [qa1, qa2, qa3, qa4, qa5, qa6, qa7, qa8, qa9, qaA, qaB, qaC, qaD] at hc113'
      refine rc_seq ?_
      refine rc_region ?_
      refine rd_op (ov_faddr rfl (api_KeyMatch.g_Mask r0)) ?_
      refine rd_op (ov_load rfl rfl rfl) ?_
      refine rd_op (ov_move rfl) ?_
      obtain ⟨y114, hw114, hres⟩ := let_ex hres
      have f114 := f84_ok (x0 := x0.Mask) (x1 := x2)  
      rw [hw114] at f114
      refine rd_call (cv_fn rfl rfl (clL_cons rfl (clL_cons rfl clL_nil)) f114) ?_
      refine rd_op (ov_move rfl) ?_
      refine rd_op (ov_extract rfl rfl) ?_
      refine rd_op (ov_extract rfl rfl) ?_
      refine rd_op (ov_move rfl) ?_
      refine rd_op (ov_move rfl) ?_
      refine rd_nil ?_
      refine pn_seq ?_
      refine rc_seq ?_
      refine rc_region ?_
      refine rd_op (ov_move rfl) ?_
      refine rd_op (ov_not rfl) ?_
      refine rd_nil ?_
      refine pn_seq ?_
      refine rc_cond rfl (fun hc115 => ?_) (fun hc115 => ?_)
      ·replace hres := (ite_t hc115).symm.trans hres
       have hc115' := hc115
       try simp only [qa1, qa2, qa3, qa4, qa5, qa6, qa7, qa8, qa9, qaA, qaB, qaC, qaD] at hc115'
       refine rc_seq ?_
       refine rc_region ?_
       refine rd_op (v := vi 11) (ov_move rfl) ?_
       refine rd_nil ?_
       refine pn_seq ?_
       subst hres
       exact rc_retV (.tmp rfl .nil) (deep_closed rfl) rfl
      ·replace hres := (ite_f hc115).symm.trans hres
       have hc115' := hc115
       try simp only [qa1, qa2, qa3, qa4, qa5, qa6, qa7, qa8, qa9, qaA, qaB, qaC, qaD] at hc115'
       refine rc_skip ?_
       refine pn_seq (rc_weak ((sub_nil _)) (J  _ (Mem.sub (Mem.nil ⟨0, []⟩) .slnil) hres))
     ·replace hres := (ite_f hc113).symm.trans hres
      have hc113' := hc113
      try simp only [qa1, qa2, qa3, qa4, qa5, qa6, qa7, qa8, qa9, qaA, qaB, qaC, qaD] at hc113'
      refine rc_skip ?_
      refine pn_seq (rc_weak ((sub_nil _)) (J  _ (Mem.sub (Mem.nil ⟨0, []⟩) .slnil) hres))

/-- patchbay/table.Kind -/
def RF18 (res : Int) (r : PV) : Prop := r = vi res
theorem table_Kind_L1_ok {S : List Fr} {res : Int} {x0 : api_Program} {x1 : Int} {y101 : Bool} {v105 : PV} (hw101 : table_valid x0 x1 = y101) (hc102 : (!y101) = false) (r105 : (tSl api_TableKey.t).R ((ix x0.Tables x1).Keys) v105) {K0 : Int → Int}
  (hK0 : ∀ (x5_ : Int) (h : Heap) (M0 : Mem h []), K0 x5_ = res → PX Try.prog 0 S (QR Try.prog [(4, none)] (RF18 res)) [(5, vi x5_)] h) :
  ∀ (m : Nat) (x5_ : Int) (x19_ : Int) (hm1 : m = Int.toNat ((((ix x0.Tables x1).Keys).length : Int) - x19_)) (hlo1 : 0 ≤ x19_) (h : Heap) (M0 : Mem h []), table_Kind_L1 x0 x1 K0 m x5_ x19_ = res → RC Try.prog (.loop ac18_L1) S (QR Try.prog [(4, none)] (RF18 res)) [(19, vi x19_), (18, vi (((ix x0.Tables x1).Keys).length : Int)), (17, v105), (5, vi x5_)] h := by
 have hc102' := hc102
 try simp only [qa1, qa2, qa3, qa4, qa5, qa6, qa7, qa8, qa9, qaA, qaB, qaC, qaD] at hc102'
 intro m
 induction m with
 | zero =>
  intro x5_ x19_ hm1 hlo1 h M0 hres
  rw [table_Kind_L1] at hres
  refine rc_loop ?_
  unfold ac18_L1
  refine rc_seq ?_
  refine rc_region ?_
  refine rd_op (ov_bin rfl rfl i_lss) ?_
  refine rd_nil ?_
  refine pn_seq ?_
  refine rc_seq ?_
  refine rc_cond rfl (fun hc106 => ?_) (fun hc106 => ?_)
  ·exfalso
   try simp only [qa1, qa2, qa3, qa4, qa5, qa6, qa7, qa8, qa9, qaA, qaB, qaC, qaD] at hc106
   omega
  ·have hend := hres
   have hc106' := hc106
   try simp only [qa1, qa2, qa3, qa4, qa5, qa6, qa7, qa8, qa9, qaA, qaB, qaC, qaD] at hc106'
   refine rc_exit ?_
   refine px_seq ?_
   refine px_again ?_
   exact px_weak ((sub_cons rfl (sub_nil _))) (hK0 x5_ _ (Mem.sub M0 .slnil) hres)
 | succ m ih =>
  intro x5_ x19_ hm1 hlo1 h M0 hres
  rw [table_Kind_L1] at hres
  refine rc_loop ?_
  unfold ac18_L1
  refine rc_seq ?_
  refine rc_region ?_
  refine rd_op (ov_bin rfl rfl i_lss) ?_
  refine rd_nil ?_
  refine pn_seq ?_
  refine rc_seq ?_
  refine rc_cond rfl (fun hc107 => ?_) (fun hc107 => ?_)
  ·have hgo := hres
   have hc107' := hc107
   try simp only [qa1, qa2, qa3, qa4, qa5, qa6, qa7, qa8, qa9, qaA, qaB, qaC, qaD] at hc107'
   refine rc_skip ?_
   refine pn_seq ?_
   refine rc_seq ?_
   refine rc_block ?_
   refine rc_seq ?_
   refine rc_region ?_
   obtain ⟨v108, e108, r108⟩ := sl_idx (i := x19_) r105 (by first | omega | (have hk := tck (by assumption) (by assumption); omega) | (have hk := rtck (by assumption) (by assumption); omega) | (have hk := eck (by assumption) (by assumption) (by assumption); omega) | (have hk := tv (by assumption) (by assumption); omega) | (have hk := rtv (by assumption) (by assumption); omega)) (by first | omega | (have hk := tck (by assumption) (by assumption); omega) | (have hk := rtck (by assumption) (by assumption); omega) | (have hk := eck (by assumption) (by assumption) (by assumption); omega) | (have hk := tv (by assumption) (by assumption); omega) | (have hk := rtv (by assumption) (by assumption); omega))
   refine rd_op (ov_iaddr rfl rfl e108) ?_
   refine rd_op (ov_load rfl (TR.cnt api_TableKey.t r108) (TR.agg api_TableKey.t r108)) ?_
   refine rd_allocO (x := .agg [vi 0, vi 0, vi 0]) M0 rfl rfl (fun i109 w109 h109 M109 => ?_)
   refine rd_storeO (k := 0) (v := v108) M109 rfl rfl rfl (TR.cnt api_TableKey.t r108) (fun h111 M111 => ?_)
   replace M111 : Mem h111 [⟨.op i109 w109 0, 62, 3, [v108]⟩] := M111
   refine rd_nil ?_
   refine pn_seq ?_
   refine rc_block ?_
   refine rc_seq ?_
   refine rc_region ?_
   refine rd_op (ov_faddrO rfl) ?_
   refine rd_op (ov_loadf (k := 0) M111 rfl rfl (api_TableKey.g_Kind r108)) ?_
   refine rd_op (ov_bin rfl rfl i_eql) ?_
   refine rd_op (ov_move rfl) ?_
   refine rd_nil ?_
   refine pn_seq ?_
   refine rc_cond rfl (fun hc112 => ?_) (fun hc112 => ?_)
   ·replace hres := (ite_t hc112).symm.trans hres
    have hc112' := hc112
    try simp only [qa1, qa2, qa3, qa4, qa5, qa6, qa7, qa8, qa9, qaA, qaB, qaC, qaD] at hc112'
    refine rc_seq ?_
    refine rc_region ?_
    refine rd_op (v := vi 3) (ov_move rfl) ?_
    refine rd_nil ?_
    refine pn_seq ?_
    subst hres
    exact rc_retV (.tmp rfl .nil) (deep_closed rfl) rfl
   ·replace hres := (ite_f hc112).symm.trans hres
    have hc112' := hc112
    try simp only [qa1, qa2, qa3, qa4, qa5, qa6, qa7, qa8, qa9, qaA, qaB, qaC, qaD] at hc112'
    refine rc_seq ?_
    refine rc_region ?_
    refine rd_op (ov_faddrO rfl) ?_
    refine rd_op (ov_loadf (k := 0) M111 rfl rfl (api_TableKey.g_Kind r108)) ?_
    refine rd_op (ov_bin rfl rfl i_eql) ?_
    refine rd_op (ov_move rfl) ?_
    refine rd_nil ?_
    refine pn_seq ?_
    refine rc_cond rfl (fun hc113 => ?_) (fun hc113 => ?_)
    ·replace hres := (ite_t hc113).symm.trans hres
     have hc113' := hc113
     try simp only [qa1, qa2, qa3, qa4, qa5, qa6, qa7, qa8, qa9, qaA, qaB, qaC, qaD] at hc113'
     refine rc_region ?_
     refine rd_op (v := vi 2) (ov_move rfl) ?_
     refine rd_nil ?_
     refine pn_blk ?_
     refine pn_blk ?_
     refine pn_seq ?_
     refine rc_region ?_
     refine rd_op (ov_bin rfl rfl i_add) ?_
     refine rd_op (ov_move rfl) ?_
     refine rd_nil ?_
     refine pn_again ?_
     have hbd := sl_bound r105
     have hinc : wr (x19_ + 1) = x19_ + 1 := wr_of (by omega) (by omega)
     rw [hinc]
     refine rc_weak ?_ (ih 2 (x19_ + 1)  (by omega) (by omega) _ (Mem.sub M111 (.cons _ .slnil)) hres)
     exact ((sub_cons rfl (sub_cons rfl (sub_cons rfl (sub_cons rfl (sub_nil _))))))
    ·replace hres := (ite_f hc113).symm.trans hres
     have hc113' := hc113
     try simp only [qa1, qa2, qa3, qa4, qa5, qa6, qa7, qa8, qa9, qaA, qaB, qaC, qaD] at hc113'
     refine rc_skip ?_
     refine pn_blk ?_
     refine pn_blk ?_
     refine pn_seq ?_
     refine rc_region ?_
     refine rd_op (ov_bin rfl rfl i_add) ?_
     refine rd_op (ov_move rfl) ?_
     refine rd_nil ?_
     refine pn_again ?_
     have hbd := sl_bound r105
     have hinc : wr (x19_ + 1) = x19_ + 1 := wr_of (by omega) (by omega)
     rw [hinc]
     refine rc_weak ?_ (ih x5_ (x19_ + 1)  (by omega) (by omega) _ (Mem.sub M111 (.cons _ .slnil)) hres)
     exact ((sub_cons rfl (sub_cons rfl (sub_cons rfl (sub_cons rfl (sub_nil _))))))
  ·exfalso
   try simp only [qa1, qa2, qa3, qa4, qa5, qa6, qa7, qa8, qa9, qaA, qaB, qaC, qaD] at hc107
   omega

theorem f18_ok {x0 : api_Program} {x1 : Int} {v0 : PV} (r0 : api_Program.t.R x0 v0) : FnR Try.prog 18 [v0, vi x1] (vi (table_Kind x0 x1)) := by
 obtain ⟨res, hres⟩ : ∃ res, table_Kind x0 x1 = res := ⟨_, rfl⟩
 suffices H : RC Try.prog ac18 [] (QR Try.prog [(4, none)] (RF18 res)) (argE 0 [v0, vi x1]) ⟨0, []⟩ by
  obtain ⟨r, h1, h2⟩ := fnE text18 (by simp) H
  rw [hres]
  have h2 : r = vi res := h2
  rw [← h2]; exact h1
 unfold table_Kind at hres
 unfold ac18
 refine rc_seq ?_
 refine rc_region ?_
 refine rd_op (ov_box rfl (TR.cnt api_Program.t r0)) ?_
 refine rd_op (v := vi 0) (ov_move rfl) ?_
 refine rd_nil ?_
 refine pn_seq ?_
 refine rc_seq ?_
 refine rc_seq ?_
 refine rc_region ?_
 refine rd_op (ov_load rfl (TR.cnt api_Program.t r0) (TR.agg api_Program.t r0)) ?_
 refine rd_op (ov_move rfl) ?_
 obtain ⟨y101, hw101, hres⟩ := let_ex hres
 have f101 := f52_ok (x1 := x1) r0 
 rw [hw101] at f101
 refine rd_call (cv_fn rfl rfl (clL_cons (TR.clo api_Program.t r0) (clL_cons rfl clL_nil)) f101) ?_
 refine rd_op (ov_not rfl) ?_
 refine rd_nil ?_
 refine pn_seq ?_
 refine rc_cond rfl (fun hc102 => ?_) (fun hc102 => ?_)
 ·replace hres := (ite_t hc102).symm.trans hres
  have hc102' := hc102
  try simp only [qa1, qa2, qa3, qa4, qa5, qa6, qa7, qa8, qa9, qaA, qaB, qaC, qaD] at hc102'
  refine rc_seq ?_
  refine rc_region ?_
  refine rd_op (v := vi 0) (ov_move rfl) ?_
  refine rd_nil ?_
  refine pn_seq ?_
  subst hres
  exact rc_retV (.tmp rfl .nil) (deep_closed rfl) rfl
 ·replace hres := (ite_f hc102).symm.trans hres
  have hc102' := hc102
  try simp only [qa1, qa2, qa3, qa4, qa5, qa6, qa7, qa8, qa9, qaA, qaB, qaC, qaD] at hc102'
  refine rc_skip ?_
  refine pn_seq ?_
  refine rc_seq ?_
  refine rc_region ?_
  refine rd_op (v := vi 1) (ov_move rfl) ?_
  refine rd_nil ?_
  refine pn_seq ?_
  refine rc_seq ?_
  refine rc_seq ?_
  refine rc_region ?_
  obtain ⟨v103, e103, r103⟩ := api_Program.g_Tables r0
  refine rd_op (ov_faddr rfl e103) ?_
  refine rd_op (ov_load rfl (TR.cnt (tSl api_Table.t) r103) (TR.agg (tSl api_Table.t) r103)) ?_
  refine rd_op (ov_move rfl) ?_
  obtain ⟨v104, e104, r104⟩ := sl_idx (i := x1) r103 (by first | omega | (have hk := tck (by assumption) (by assumption); omega) | (have hk := rtck (by assumption) (by assumption); omega) | (have hk := eck (by assumption) (by assumption) (by assumption); omega) | (have hk := tv (by assumption) (by assumption); omega) | (have hk := rtv (by assumption) (by assumption); omega)) (by first | omega | (have hk := tck (by assumption) (by assumption); omega) | (have hk := rtck (by assumption) (by assumption); omega) | (have hk := eck (by assumption) (by assumption) (by assumption); omega) | (have hk := tv (by assumption) (by assumption); omega) | (have hk := rtv (by assumption) (by assumption); omega))
  refine rd_op (ov_iaddr rfl rfl e104) ?_
  obtain ⟨v105, e105, r105⟩ := api_Table.g_Keys r104
  refine rd_op (ov_faddr rfl e105) ?_
  refine rd_op (ov_load rfl (TR.cnt (tSl api_TableKey.t) r105) (TR.agg (tSl api_TableKey.t) r105)) ?_
  refine rd_op (ov_bi rfl (sl_len r105 Try.underlying52 _)) ?_
  refine rd_op (v := vi 0) (ov_move rfl) ?_
  refine rd_nil ?_
  refine pn_seq ?_
  refine rc_block ?_
  refine rc_weak ?_ (table_Kind_L1_ok (x0 := x0) (x1 := x1) (y101 := y101) (v105 := v105)  (hw101 := hw101) (hc102 := hc102) (r105 := r105) ?_ (Int.toNat ((((ix x0.Tables x1).Keys).length : Int) - 0)) 1 0 rfl (by omega) _ (Mem.sub (Mem.nil ⟨0, []⟩) .slnil) hres)
  ·exact ((sub_cons rfl (sub_cons rfl (sub_cons rfl (sub_cons rfl (sub_nil _))))))
  ·intro x5_114 h114 M114 hres
   refine px_blk ?_
   refine pn_seq ?_
   refine rc_seq ?_
   refine rc_region ?_
   refine rd_op (ov_move rfl) ?_
   refine rd_op (ov_move rfl) ?_
   refine rd_nil ?_
   refine pn_seq ?_
   subst hres
   exact rc_retV (.tmp rfl .nil) (deep_closed rfl) rfl

/-- patchbay/table.Allows -/
def RF25 (res : Bool) (r : PV) : Prop := r = vb res
theorem table_Allows_L1_ok {S : List Fr} {res : Bool} {x0 : api_Program} {x1 : Int} {x2 : Int} {y101 : Bool} {v105 : PV} (hw101 : table_valid x0 x1 = y101) (hc102 : (!y101) = false) (r105 : (tSl tI).R ((ix x0.Tables x1).Actions) v105) {K0 : Unit → Bool}
  (hK0 : K0 () = res → PX Try.prog 0 S (QR Try.prog [(6, none)] (RF25 res)) [] ⟨0, []⟩) :
  ∀ (m : Nat) (x20_ : Int) (hm1 : m = Int.toNat ((((ix x0.Tables x1).Actions).length : Int) - x20_)) (hlo1 : 0 ≤ x20_), table_Allows_L1 x0 x1 x2 K0 m x20_ = res → RC Try.prog (.loop ac25_L1) S (QR Try.prog [(6, none)] (RF25 res)) [(20, vi x20_), (19, vi (((ix x0.Tables x1).Actions).length : Int)), (18, v105), (2, vi x2)] ⟨0, []⟩ := by
 have hc102' := hc102
 try simp only [qa1, qa2, qa3, qa4, qa5, qa6, qa7, qa8, qa9, qaA, qaB, qaC, qaD] at hc102'
 intro m
 induction m with
 | zero =>
  intro x20_ hm1 hlo1 hres
  rw [table_Allows_L1] at hres
  refine rc_loop ?_
  unfold ac25_L1
  refine rc_seq ?_
  refine rc_region ?_
  refine rd_op (ov_bin rfl rfl i_lss) ?_
  refine rd_nil ?_
  refine pn_seq ?_
  refine rc_seq ?_
  refine rc_cond rfl (fun hc106 => ?_) (fun hc106 => ?_)
  ·exfalso
   try simp only [qa1, qa2, qa3, qa4, qa5, qa6, qa7, qa8, qa9, qaA, qaB, qaC, qaD] at hc106
   omega
  ·have hend := hres
   have hc106' := hc106
   try simp only [qa1, qa2, qa3, qa4, qa5, qa6, qa7, qa8, qa9, qaA, qaB, qaC, qaD] at hc106'
   refine rc_exit ?_
   refine px_seq ?_
   refine px_again ?_
   exact px_weak ((sub_nil _)) (hK0  hres)
 | succ m ih =>
  intro x20_ hm1 hlo1 hres
  rw [table_Allows_L1] at hres
  refine rc_loop ?_
  unfold ac25_L1
  refine rc_seq ?_
  refine rc_region ?_
  refine rd_op (ov_bin rfl rfl i_lss) ?_
  refine rd_nil ?_
  refine pn_seq ?_
  refine rc_seq ?_
  refine rc_cond rfl (fun hc107 => ?_) (fun hc107 => ?_)
  ·have hgo := hres
   have hc107' := hc107
   try simp only [qa1, qa2, qa3, qa4, qa5, qa6, qa7, qa8, qa9, qaA, qaB, qaC, qaD] at hc107'
   refine rc_skip ?_
   refine pn_seq ?_
   refine rc_seq ?_
   refine rc_block ?_
   refine rc_seq ?_
   refine rc_region ?_
   refine rd_op (ov_iaddr rfl rfl (slI r105 (by first | omega | (have hk := tck (by assumption) (by assumption); omega) | (have hk := rtck (by assumption) (by assumption); omega) | (have hk := eck (by assumption) (by assumption) (by assumption); omega) | (have hk := tv (by assumption) (by assumption); omega) | (have hk := rtv (by assumption) (by assumption); omega)) (by first | omega | (have hk := tck (by assumption) (by assumption); omega) | (have hk := rtck (by assumption) (by assumption); omega) | (have hk := eck (by assumption) (by assumption) (by assumption); omega) | (have hk := tv (by assumption) (by assumption); omega) | (have hk := rtv (by assumption) (by assumption); omega)))) ?_
   refine rd_op (ov_load rfl rfl rfl) ?_
   refine rd_op (ov_move rfl) ?_
   refine rd_nil ?_
   refine pn_seq ?_
   refine rc_seq ?_
   refine rc_region ?_
   refine rd_op (ov_move rfl) ?_
   refine rd_op (ov_move rfl) ?_
   refine rd_op (ov_bin rfl rfl i_eql) ?_
   refine rd_nil ?_
   refine pn_seq ?_
   refine rc_cond rfl (fun hc108 => ?_) (fun hc108 => ?_)
   ·replace hres := (ite_t hc108).symm.trans hres
    have hc108' := hc108
    try simp only [qa1, qa2, qa3, qa4, qa5, qa6, qa7, qa8, qa9, qaA, qaB, qaC, qaD] at hc108'
    refine rc_seq ?_
    refine rc_region ?_
    refine rd_op (v := vb true) (ov_move rfl) ?_
    refine rd_nil ?_
    refine pn_seq ?_
    subst hres
    exact rc_retV (.tmp rfl .nil) (deep_closed rfl) rfl
   ·replace hres := (ite_f hc108).symm.trans hres
    have hc108' := hc108
    try simp only [qa1, qa2, qa3, qa4, qa5, qa6, qa7, qa8, qa9, qaA, qaB, qaC, qaD] at hc108'
    refine rc_skip ?_
    refine pn_blk ?_
    refine pn_seq ?_
    refine rc_region ?_
    refine rd_op (ov_bin rfl rfl i_add) ?_
    refine rd_op (ov_move rfl) ?_
    refine rd_nil ?_
    refine pn_again ?_
    have hbd := sl_bound r105
    have hinc : wr (x20_ + 1) = x20_ + 1 := wr_of (by omega) (by omega)
    rw [hinc]
    refine rc_weak ?_ (ih (x20_ + 1)  (by omega) (by omega) hres)
    exact ((sub_cons rfl (sub_cons rfl (sub_cons rfl (sub_cons rfl (sub_nil _))))))
  ·exfalso
   try simp only [qa1, qa2, qa3, qa4, qa5, qa6, qa7, qa8, qa9, qaA, qaB, qaC, qaD] at hc107
   omega

theorem f25_ok {x0 : api_Program} {x1 : Int} {x2 : Int} {v0 : PV} (r0 : api_Program.t.R x0 v0) : FnR Try.prog 25 [v0, vi x1, vi x2] (vb (table_Allows x0 x1 x2)) := by
 obtain ⟨res, hres⟩ : ∃ res, table_Allows x0 x1 x2 = res := ⟨_, rfl⟩
 suffices H : RC Try.prog ac25 [] (QR Try.prog [(6, none)] (RF25 res)) (argE 0 [v0, vi x1, vi x2]) ⟨0, []⟩ by
  obtain ⟨r, h1, h2⟩ := fnE text25 (by simp) H
  rw [hres]
  have h2 : r = vb res := h2
  rw [← h2]; exact h1
 unfold table_Allows at hres
 unfold ac25
 refine rc_seq ?_
 refine rc_region ?_
 refine rd_op (ov_box rfl (TR.cnt api_Program.t r0)) ?_
 refine rd_op (v := vb false) (ov_move rfl) ?_
 refine rd_nil ?_
 refine pn_seq ?_
 refine rc_seq ?_
 refine rc_seq ?_
 refine rc_region ?_
 refine rd_op (ov_load rfl (TR.cnt api_Program.t r0) (TR.agg api_Program.t r0)) ?_
 refine rd_op (ov_move rfl) ?_
 obtain ⟨y101, hw101, hres⟩ := let_ex hres
 have f101 := f52_ok (x1 := x1) r0 
 rw [hw101] at f101
 refine rd_call (cv_fn rfl rfl (clL_cons (TR.clo api_Program.t r0) (clL_cons rfl clL_nil)) f101) ?_
 refine rd_op (ov_not rfl) ?_
 refine rd_nil ?_
 refine pn_seq ?_
 refine rc_cond rfl (fun hc102 => ?_) (fun hc102 => ?_)
 ·replace hres := (ite_t hc102).symm.trans hres
  have hc102' := hc102
  try simp only [qa1, qa2, qa3, qa4, qa5, qa6, qa7, qa8, qa9, qaA, qaB, qaC, qaD] at hc102'
  refine rc_seq ?_
  refine rc_region ?_
  refine rd_op (v := vb false) (ov_move rfl) ?_
  refine rd_nil ?_
  refine pn_seq ?_
  subst hres
  exact rc_retV (.tmp rfl .nil) (deep_closed rfl) rfl
 ·replace hres := (ite_f hc102).symm.trans hres
  have hc102' := hc102
  try simp only [qa1, qa2, qa3, qa4, qa5, qa6, qa7, qa8, qa9, qaA, qaB, qaC, qaD] at hc102'
  refine rc_skip ?_
  refine pn_seq ?_
  refine rc_seq ?_
  refine rc_seq ?_
  refine rc_region ?_
  obtain ⟨v103, e103, r103⟩ := api_Program.g_Tables r0
  refine rd_op (ov_faddr rfl e103) ?_
  refine rd_op (ov_load rfl (TR.cnt (tSl api_Table.t) r103) (TR.agg (tSl api_Table.t) r103)) ?_
  refine rd_op (ov_move rfl) ?_
  obtain ⟨v104, e104, r104⟩ := sl_idx (i := x1) r103 (by first | omega | (have hk := tck (by assumption) (by assumption); omega) | (have hk := rtck (by assumption) (by assumption); omega) | (have hk := eck (by assumption) (by assumption) (by assumption); omega) | (have hk := tv (by assumption) (by assumption); omega) | (have hk := rtv (by assumption) (by assumption); omega)) (by first | omega | (have hk := tck (by assumption) (by assumption); omega) | (have hk := rtck (by assumption) (by assumption); omega) | (have hk := eck (by assumption) (by assumption) (by assumption); omega) | (have hk := tv (by assumption) (by assumption); omega) | (have hk := rtv (by assumption) (by assumption); omega))
  refine rd_op (ov_iaddr rfl rfl e104) ?_
  obtain ⟨v105, e105, r105⟩ := api_Table.g_Actions r104
  refine rd_op (ov_faddr rfl e105) ?_
  refine rd_op (ov_load rfl (TR.cnt (tSl tI) r105) (TR.agg (tSl tI) r105)) ?_
  refine rd_op (ov_bi rfl (sl_len r105 Try.underlying29 _)) ?_
  refine rd_op (v := vi 0) (ov_move rfl) ?_
  refine rd_nil ?_
  refine pn_seq ?_
  refine rc_block ?_
  refine rc_weak ?_ (table_Allows_L1_ok (x0 := x0) (x1 := x1) (x2 := x2) (y101 := y101) (v105 := v105)  (hw101 := hw101) (hc102 := hc102) (r105 := r105) ?_ (Int.toNat ((((ix x0.Tables x1).Actions).length : Int) - 0)) 0 rfl (by omega) hres)
  ·exact ((sub_cons rfl (sub_cons rfl (sub_cons rfl (sub_cons rfl (sub_nil _))))))
  ·intro  hres
   refine px_blk ?_
   refine pn_seq ?_
   refine rc_seq ?_
   refine rc_region ?_
   refine rd_op (v := vb false) (ov_move rfl) ?_
   refine rd_nil ?_
   refine pn_seq ?_
   subst hres
   exact rc_retV (.tmp rfl .nil) (deep_closed rfl) rfl

end Go.Proofs.Ytklfdkbemkommaa
