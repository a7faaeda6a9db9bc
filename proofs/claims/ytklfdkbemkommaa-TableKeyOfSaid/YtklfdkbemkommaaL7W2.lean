/-
 The code of each function does what its plain program says.
-/
import Derived.Test.YtklfdkbemkommaaL7W1
set_option linter.unusedVariables false
set_option linter.unusedSimpArgs false
set_option maxRecDepth 100000
namespace Go.Proofs.Ytklfdkbemkommaa
open Go Go.Pb Go.RowKit
/-- patchbay/table.Widths -/
def RF21 (res : (List Int)) (r : PV) : Prop := (tSl tI).R res r
theorem table_Widths_L1_ok {S : List Fr} {res : (List Int)} {x0 : api_Program} {x1 : Int} {y101 : Bool} {v0 : PV} {v105 : PV} (r0 : api_Program.t.R x0 v0) (hw101 : table_valid x0 x1 = y101) (hc102 : (!y101) = false) (r105 : (tSl api_TableKey.t).R ((ix x0.Tables x1).Keys) v105) {K0 : (List Int) → (List Int)}
  (hK0 : ∀ (zE107 : List Int) (esE107 : List PV) (aE107 : PV) (qE107 : All2 tI.R zE107 esE107) (nE107 : isL aE107 = true) (wrE107 : Wri aE107 esE107) (hlE107 : zE107.length ≤ 4611686018427387904) (h : Heap) (M0 : Mem h [⟨aE107, 3, 1, esE107⟩]), K0 zE107 = res → PX Try.prog 0 S (QR Try.prog [(4, none)] (RF21 res)) [(5, aE107)] h) :
  ∀ (m : Nat) (x19_ : Int) (zE107 : List Int) (esE107 : List PV) (aE107 : PV) (qE107 : All2 tI.R zE107 esE107) (nE107 : isL aE107 = true) (wrE107 : Wri aE107 esE107) (hlE107 : zE107.length ≤ 4611686018427387904) (hm1 : m = Int.toNat ((((ix x0.Tables x1).Keys).length : Int) - x19_)) (hlo1 : 0 ≤ x19_) (iv1_0 : (zE107.length : Int) ≤ x19_) (h : Heap) (M0 : Mem h [⟨aE107, 3, 1, esE107⟩]), table_Widths_L1 x0 x1 K0 m x19_ zE107 = res → RC Try.prog (.loop ac21_L1) S (QR Try.prog [(4, none)] (RF21 res)) [(19, vi x19_), (18, vi (((ix x0.Tables x1).Keys).length : Int)), (17, v105), (5, aE107), (2, .fp v0)] h := by
 have hc102' := hc102
 try simp only [qa1, qa2, qa3, qa4, qa5, qa6, qa7, qa8, qa9, qaA, qaB, qaC, qaD] at hc102'
 intro m
 induction m with
 | zero =>
  intro x19_ zE107 esE107 aE107 qE107 nE107 wrE107 hlE107 hm1 hlo1 iv1_0 h M0 hres
  rw [table_Widths_L1] at hres
  refine rc_loop ?_
  unfold ac21_L1
  refine rc_seq ?_
  refine rc_region ?_
  refine rd_op (ov_bin rfl rfl i_lss) ?_
  refine rd_nil ?_
  refine pn_seq ?_
  refine rc_seq ?_
  refine rc_cond rfl (fun hc108 => ?_) (fun hc108 => ?_)
  ·exfalso
   try simp only [qa1, qa2, qa3, qa4, qa5, qa6, qa7, qa8, qa9, qaA, qaB, qaC, qaD] at hc108
   omega
  ·have hend := hres
   have hc108' := hc108
   try simp only [qa1, qa2, qa3, qa4, qa5, qa6, qa7, qa8, qa9, qaA, qaB, qaC, qaD] at hc108'
   refine rc_exit ?_
   refine px_seq ?_
   refine px_again ?_
   exact px_weak ((sub_cons rfl (sub_nil _))) (hK0 zE107 esE107 aE107 qE107 nE107 wrE107 hlE107 _ (Mem.sub M0 (.cons_cons _ .slnil)) hres)
 | succ m ih =>
  intro x19_ zE107 esE107 aE107 qE107 nE107 wrE107 hlE107 hm1 hlo1 iv1_0 h M0 hres
  rw [table_Widths_L1] at hres
  refine rc_loop ?_
  unfold ac21_L1
  refine rc_seq ?_
  refine rc_region ?_
  refine rd_op (ov_bin rfl rfl i_lss) ?_
  refine rd_nil ?_
  refine pn_seq ?_
  refine rc_seq ?_
  refine rc_cond rfl (fun hc109 => ?_) (fun hc109 => ?_)
  ·have hgo := hres
   have hc109' := hc109
   try simp only [qa1, qa2, qa3, qa4, qa5, qa6, qa7, qa8, qa9, qaA, qaB, qaC, qaD] at hc109'
   refine rc_skip ?_
   refine pn_seq ?_
   refine rc_seq ?_
   refine rc_block ?_
   refine rc_seq ?_
   refine rc_region ?_
   obtain ⟨v110, e110, r110⟩ := sl_idx (i := x19_) r105 (by first | omega | (have hk := tck (by assumption) (by assumption); omega) | (have hk := rtck (by assumption) (by assumption); omega) | (have hk := eck (by assumption) (by assumption) (by assumption); omega) | (have hk := tv (by assumption) (by assumption); omega) | (have hk := rtv (by assumption) (by assumption); omega)) (by first | omega | (have hk := tck (by assumption) (by assumption); omega) | (have hk := rtck (by assumption) (by assumption); omega) | (have hk := eck (by assumption) (by assumption) (by assumption); omega) | (have hk := tv (by assumption) (by assumption); omega) | (have hk := rtv (by assumption) (by assumption); omega))
   refine rd_op (ov_iaddr rfl rfl e110) ?_
   refine rd_op (ov_load rfl (TR.cnt api_TableKey.t r110) (TR.agg api_TableKey.t r110)) ?_
   refine rd_allocO (x := .agg [vi 0, vi 0, vi 0]) M0 rfl rfl (fun i111 w111 h111 M111 => ?_)
   refine rd_storeO (k := 0) (v := v110) M111 rfl rfl rfl (TR.cnt api_TableKey.t r110) (fun h113 M113 => ?_)
   replace M113 : Mem h113 [⟨.op i111 w111 0, 62, 3, [v110]⟩, ⟨aE107, 3, 1, esE107⟩] := M113
   refine rd_nil ?_
   refine pn_seq ?_
   refine rc_region ?_
   refine rd_op (ov_move rfl) ?_
   refine rd_op (ov_load rfl (TR.cnt api_Program.t r0) (TR.agg api_Program.t r0)) ?_
   refine rd_op (ov_faddrO rfl) ?_
   obtain ⟨v114, e114, r114⟩ := api_TableKey.g_Field r110
   refine rd_op (ov_loadf (k := 0) M113 rfl rfl e114) ?_
   obtain ⟨y115, hw115, hres⟩ := let_ex hres
   have f115 := f54_ok  r0 r114 
   rw [hw115] at f115
   refine rd_call (cv_fn rfl rfl (clL_cons (TR.clo api_Program.t r0) (clL_cons (TR.clo api_FieldRef.t r114) clL_nil)) f115) ?_
   refine rd_op (v := .fs true [vi y115]) (ov_bslice rfl (all_cons rfl all_nil)) ?_
   have r116 : (tSl tI).R ([y115] : List Int) (.fs true [vi y115]) := sl_fs ⟨rfl, trivial⟩ (by simp)
   obtain ⟨nw117, sr117, ar117⟩ := src_of (t := tI) (h := h113) r116
   have f117 : fits (esE107.length + nw117.length) 8 = true := by rw [All2.length_eq qE107, All2.length_eq ar117]; (try simp only [List.length_cons, List.length_nil]); exact fits_of (by have hk := tv (by assumption) (by assumption); omega) (by have hk := tv (by assumption) (by assumption); omega)
   refine rd_appW (k := 1) (es := esE107) (news := nw117) M113 rfl rfl rfl nE107 wrE107 sr117 f117 (fun a117 h117 n117 wr117 M117 => ?_)
   have q117 : All2 tI.R (zE107 ++ ([y115] : List Int)) (esE107 ++ nw117) := All2.app qE107 ar117
   have hl117 : (zE107 ++ ([y115] : List Int)).length ≤ 4611686018427387904 := by rw [← All2.length_eq q117, List.length_append]; exact fits_len f117
   refine rd_op (ov_move rfl) ?_
   refine rd_nil ?_
   refine pn_blk ?_
   refine pn_seq ?_
   refine rc_region ?_
   refine rd_op (ov_bin rfl rfl i_add) ?_
   refine rd_op (ov_move rfl) ?_
   refine rd_nil ?_
   refine pn_again ?_
   have hbd := sl_bound r105
   have hinc : wr (x19_ + 1) = x19_ + 1 := wr_of (by omega) (by omega)
   rw [hinc]
   refine rc_weak ?_ (ih (x19_ + 1) (zE107 ++ ([y115] : List Int)) (esE107 ++ nw117) a117 q117 n117 wr117 hl117 (by omega) (by omega) (by first | omega | (simp; done) | (simp only [List.length_append, List.length_cons, List.length_nil, List.length_set]; omega)) _ (Mem.sub M117 (.cons _ (.cons_cons _ .slnil))) hres)
   exact ((sub_cons rfl (sub_cons rfl (sub_cons rfl (sub_cons rfl (sub_cons rfl (sub_nil _)))))))
  ·exfalso
   try simp only [qa1, qa2, qa3, qa4, qa5, qa6, qa7, qa8, qa9, qaA, qaB, qaC, qaD] at hc109
   omega

theorem f21_ok {x0 : api_Program} {x1 : Int} {v0 : PV} (r0 : api_Program.t.R x0 v0) : ∃ r, FnR Try.prog 21 [v0, vi x1] r ∧ (tSl tI).R (table_Widths x0 x1) r := by
 obtain ⟨res, hres⟩ : ∃ res, table_Widths x0 x1 = res := ⟨_, rfl⟩
 suffices H : RC Try.prog ac21 [] (QR Try.prog [(4, none)] (RF21 res)) (argE 0 [v0, vi x1]) ⟨0, []⟩ by
  rw [hres]
  exact fnE text21 (by simp) H
 unfold table_Widths at hres
 unfold ac21
 refine rc_seq ?_
 refine rc_region ?_
 refine rd_op (ov_box rfl (TR.cnt api_Program.t r0)) ?_
 refine rd_op (v := nilS) (ov_move rfl) ?_
 refine rd_nil ?_
 refine pn_seq ?_
 refine rc_seq ?_
 refine rc_seq ?_
 refine rc_region ?_
 refine rd_op (ov_load rfl (TR.cnt api_Program.t r0) (TR.agg api_Program.t r0)) ?_
 refine rd_op (ov_move rfl) ?_
 obtain ⟨y101, hw101, hres⟩ := let_ex hres
 have f101 := f52_ok (x1 := x1) r0 
 rw [hw101] at f101
 refine rd_call (cv_fn rfl rfl (clL_cons (TR.clo api_Program.t r0) (clL_cons rfl clL_nil)) f101) ?_
 refine rd_op (ov_not rfl) ?_
 refine rd_nil ?_
 refine pn_seq ?_
 refine rc_cond rfl (fun hc102 => ?_) (fun hc102 => ?_)
 ·replace hres := (ite_t hc102).symm.trans hres
  have hc102' := hc102
  try simp only [qa1, qa2, qa3, qa4, qa5, qa6, qa7, qa8, qa9, qaA, qaB, qaC, qaD] at hc102'
  refine rc_seq ?_
  refine rc_region ?_
  refine rd_op (v := nilS) (ov_move rfl) ?_
  refine rd_nil ?_
  refine pn_seq ?_
  subst hres
  exact rc_retV (.tmp rfl .nil) (deep_closed (TR.clo (tSl tI) sl_nil)) sl_nil
 ·replace hres := (ite_f hc102).symm.trans hres
  have hc102' := hc102
  try simp only [qa1, qa2, qa3, qa4, qa5, qa6, qa7, qa8, qa9, qaA, qaB, qaC, qaD] at hc102'
  refine rc_skip ?_
  refine pn_seq ?_
  refine rc_seq ?_
  refine rc_region ?_
  refine rd_op (v := nilS) (ov_move rfl) ?_
  refine rd_nil ?_
  refine pn_seq ?_
  refine rc_seq ?_
  refine rc_seq ?_
  refine rc_region ?_
  obtain ⟨v103, e103, r103⟩ := api_Program.g_Tables r0
  refine rd_op (ov_faddr rfl e103) ?_
  refine rd_op (ov_load rfl (TR.cnt (tSl api_Table.t) r103) (TR.agg (tSl api_Table.t) r103)) ?_
  refine rd_op (ov_move rfl) ?_
  obtain ⟨v104, e104, r104⟩ := sl_idx (i := x1) r103 (by first | omega | (have hk := tck (by assumption) (by assumption); omega) | (have hk := rtck (by assumption) (by assumption); omega) | (have hk := eck (by assumption) (by assumption) (by assumption); omega) | (have hk := tv (by assumption) (by assumption); omega) | (have hk := rtv (by assumption) (by assumption); omega)) (by first | omega | (have hk := tck (by assumption) (by assumption); omega) | (have hk := rtck (by assumption) (by assumption); omega) | (have hk := eck (by assumption) (by assumption) (by assumption); omega) | (have hk := tv (by assumption) (by assumption); omega) | (have hk := rtv (by assumption) (by assumption); omega))
  refine rd_op (ov_iaddr rfl rfl e104) ?_
  obtain ⟨v105, e105, r105⟩ := api_Table.g_Keys r104
  refine rd_op (ov_faddr rfl e105) ?_
  refine rd_op (ov_load rfl (TR.cnt (tSl api_TableKey.t) r105) (TR.agg (tSl api_TableKey.t) r105)) ?_
  refine rd_op (ov_bi rfl (sl_len r105 Try.underlying52 _)) ?_
  refine rd_op (v := vi 0) (ov_move rfl) ?_
  refine rd_nil ?_
  refine pn_seq ?_
  refine rc_block ?_
  have M106 := mem_acc (sz := 1) (es := []) (Mem.nil ⟨0, []⟩) 3 (.inl ⟨none, rfl, rfl⟩) (by simp)
  refine rc_weak ?_ (table_Widths_L1_ok (x0 := x0) (x1 := x1) (y101 := y101) (v0 := v0) (v105 := v105)  (r0 := r0) (hw101 := hw101) (hc102 := hc102) (r105 := r105) ?_ (Int.toNat ((((ix x0.Tables x1).Keys).length : Int) - 0)) 0 ([] : List Int) ([] : List PV) nilS (show All2 tI.R ([] : List Int) [] from trivial) rfl (.inl rfl) (by decide) rfl (by omega) (by first | omega | (simp; done) | (simp only [List.length_append, List.length_cons, List.length_nil, List.length_set]; omega)) _ (Mem.sub M106 (.cons_cons _ .slnil)) hres)
  ·exact ((sub_cons rfl (sub_cons rfl (sub_cons rfl (sub_cons rfl (sub_cons rfl (sub_nil _)))))))
  ·intro zE107_118 es118E107 a118E107 q118E107 n118E107 wr118E107 hl118E107 h118 M118 hres
   refine px_blk ?_
   refine pn_seq ?_
   refine rc_seq ?_
   refine rc_region ?_
   refine rd_op (ov_move rfl) ?_
   refine rd_op (ov_move rfl) ?_
   refine rd_nil ?_
   refine pn_seq ?_
   obtain ⟨v119, d119, r119⟩ := own_sl (P := Try.prog) (k := 0) (t := tI) M118 rfl n118E107 q118E107 (Nat.le_trans hl118E107 (by decide))
   subst hres
   exact rc_retV (.tmp rfl .nil) d119 r119

/-- patchbay/table.Bits -/
def RF23 (res : Int) (r : PV) : Prop := r = vi res
theorem table_Bits_L1_ok {S : List Fr} {res : Int} {x0 : api_Program} {x1 : Int} {y101 : (List Int)} {v102 : PV} (hw101 : table_Widths x0 x1 = y101) (r102 : (tSl tI).R y101 v102) {K0 : Int → Int}
  (hK0 : ∀ (x5_ : Int), K0 x5_ = res → PX Try.prog 0 S (QR Try.prog [(4, none)] (RF23 res)) [(5, vi x5_)] ⟨0, []⟩) :
  ∀ (m : Nat) (x5_ : Int) (x12_ : Int) (hm1 : m = Int.toNat ((y101.length : Int) - x12_)) (hlo1 : 0 ≤ x12_), table_Bits_L1 y101 K0 m x5_ x12_ = res → RC Try.prog (.loop ac23_L1) S (QR Try.prog [(4, none)] (RF23 res)) [(12, vi x12_), (11, vi (y101.length : Int)), (10, v102), (5, vi x5_)] ⟨0, []⟩ := by
 intro m
 induction m with
 | zero =>
  intro x5_ x12_ hm1 hlo1 hres
  rw [table_Bits_L1] at hres
  refine rc_loop ?_
  unfold ac23_L1
  refine rc_seq ?_
  refine rc_region ?_
  refine rd_op (ov_bin rfl rfl i_lss) ?_
  refine rd_nil ?_
  refine pn_seq ?_
  refine rc_seq ?_
  refine rc_cond rfl (fun hc103 => ?_) (fun hc103 => ?_)
  ·exfalso
   try simp only [qa1, qa2, qa3, qa4, qa5, qa6, qa7, qa8, qa9, qaA, qaB, qaC, qaD] at hc103
   omega
  ·have hend := hres
   have hc103' := hc103
   try simp only [qa1, qa2, qa3, qa4, qa5, qa6, qa7, qa8, qa9, qaA, qaB, qaC, qaD] at hc103'
   refine rc_exit ?_
   refine px_seq ?_
   refine px_again ?_
   exact px_weak ((sub_cons rfl (sub_nil _))) (hK0 x5_ hres)
 | succ m ih =>
  intro x5_ x12_ hm1 hlo1 hres
  rw [table_Bits_L1] at hres
  refine rc_loop ?_
  unfold ac23_L1
  refine rc_seq ?_
  refine rc_region ?_
  refine rd_op (ov_bin rfl rfl i_lss) ?_
  refine rd_nil ?_
  refine pn_seq ?_
  refine rc_seq ?_
  refine rc_cond rfl (fun hc104 => ?_) (fun hc104 => ?_)
  ·have hgo := hres
   have hc104' := hc104
   try simp only [qa1, qa2, qa3, qa4, qa5, qa6, qa7, qa8, qa9, qaA, qaB, qaC, qaD] at hc104'
   refine rc_skip ?_
   refine pn_seq ?_
   refine rc_seq ?_
   refine rc_block ?_
   refine rc_seq ?_
   refine rc_region ?_
   refine rd_op (ov_iaddr rfl rfl (slI r102 (by first | omega | (have hk := tck (by assumption) (by assumption); omega) | (have hk := rtck (by assumption) (by assumption); omega) | (have hk := eck (by assumption) (by assumption) (by assumption); omega) | (have hk := tv (by assumption) (by assumption); omega) | (have hk := rtv (by assumption) (by assumption); omega)) (by first | omega | (have hk := tck (by assumption) (by assumption); omega) | (have hk := rtck (by assumption) (by assumption); omega) | (have hk := eck (by assumption) (by assumption) (by assumption); omega) | (have hk := tv (by assumption) (by assumption); omega) | (have hk := rtv (by assumption) (by assumption); omega)))) ?_
   refine rd_op (ov_load rfl rfl rfl) ?_
   refine rd_op (ov_move rfl) ?_
   refine rd_nil ?_
   refine pn_seq ?_
   refine rc_region ?_
   refine rd_op (ov_move rfl) ?_
   refine rd_op (ov_move rfl) ?_
   refine rd_op (ov_bin rfl rfl i_add) ?_
   refine rd_op (ov_move rfl) ?_
   refine rd_nil ?_
   refine pn_blk ?_
   refine pn_seq ?_
   refine rc_region ?_
   refine rd_op (ov_bin rfl rfl i_add) ?_
   refine rd_op (ov_move rfl) ?_
   refine rd_nil ?_
   refine pn_again ?_
   have hbd := sl_bound r102
   have hinc : wr (x12_ + 1) = x12_ + 1 := wr_of (by omega) (by omega)
   rw [hinc]
   refine rc_weak ?_ (ih (wr (x5_ + (ix y101 x12_))) (x12_ + 1)  (by omega) (by omega) hres)
   exact ((sub_cons rfl (sub_cons rfl (sub_cons rfl (sub_cons rfl (sub_nil _))))))
  ·exfalso
   try simp only [qa1, qa2, qa3, qa4, qa5, qa6, qa7, qa8, qa9, qaA, qaB, qaC, qaD] at hc104
   omega

theorem f23_ok {x0 : api_Program} {x1 : Int} {v0 : PV} (r0 : api_Program.t.R x0 v0) : FnR Try.prog 23 [v0, vi x1] (vi (table_Bits x0 x1)) := by
 obtain ⟨res, hres⟩ : ∃ res, table_Bits x0 x1 = res := ⟨_, rfl⟩
 suffices H : RC Try.prog ac23 [] (QR Try.prog [(4, none)] (RF23 res)) (argE 0 [v0, vi x1]) ⟨0, []⟩ by
  obtain ⟨r, h1, h2⟩ := fnE text23 (by simp) H
  rw [hres]
  have h2 : r = vi res := h2
  rw [← h2]; exact h1
 unfold table_Bits at hres
 unfold ac23
 refine rc_seq ?_
 refine rc_region ?_
 refine rd_op (ov_box rfl (TR.cnt api_Program.t r0)) ?_
 refine rd_op (v := vi 0) (ov_move rfl) ?_
 refine rd_nil ?_
 refine pn_seq ?_
 refine rc_seq ?_
 refine rc_region ?_
 refine rd_op (v := vi 0) (ov_move rfl) ?_
 refine rd_nil ?_
 refine pn_seq ?_
 refine rc_seq ?_
 refine rc_seq ?_
 refine rc_region ?_
 refine rd_op (ov_load rfl (TR.cnt api_Program.t r0) (TR.agg api_Program.t r0)) ?_
 refine rd_op (ov_move rfl) ?_
 obtain ⟨y101, hw101, hres⟩ := let_ex hres
 obtain ⟨v102, f101, r102⟩ := f21_ok (x1 := x1) r0 
 rw [hw101] at r102
 refine rd_call (cv_fn rfl rfl (clL_cons (TR.clo api_Program.t r0) (clL_cons rfl clL_nil)) f101) ?_
 refine rd_op (ov_bi rfl (sl_len r102 Try.underlying29 _)) ?_
 refine rd_op (v := vi 0) (ov_move rfl) ?_
 refine rd_nil ?_
 refine pn_seq ?_
 refine rc_block ?_
 refine rc_weak ?_ (table_Bits_L1_ok (x0 := x0) (x1 := x1) (y101 := y101) (v102 := v102)  (hw101 := hw101) (r102 := r102) ?_ (Int.toNat ((y101.length : Int) - 0)) 0 0 rfl (by omega) hres)
 ·exact ((sub_cons rfl (sub_cons rfl (sub_cons rfl (sub_cons rfl (sub_nil _))))))
 ·intro x5_105 hres
  refine px_blk ?_
  refine pn_seq ?_
  refine rc_seq ?_
  refine rc_region ?_
  refine rd_op (ov_move rfl) ?_
  refine rd_op (ov_move rfl) ?_
  refine rd_nil ?_
  refine pn_seq ?_
  subst hres
  exact rc_retV (.tmp rfl .nil) (deep_closed rfl) rfl

/-- patchbay/env.in[uint32] -/
def RF90 (res : Bool) (r : PV) : Prop := r = vb res
theorem f90_ok {x0 : List (BitVec 32)} {x1 : Int} {v0 : PV} (r0 : (tSl tU32).R x0 v0) : FnR Try.prog 90 [v0, vi x1] (vb (env_in_uint32 x0 x1)) := by
 obtain ⟨res, hres⟩ : ∃ res, env_in_uint32 x0 x1 = res := ⟨_, rfl⟩
 suffices H : RC Try.prog ac90 [] (QR Try.prog [(4, none)] (RF90 res)) (argE 0 [v0, vi x1]) ⟨0, []⟩ by
  obtain ⟨r, h1, h2⟩ := fnE text90 (by simp) H
  rw [hres]
  have h2 : r = vb res := h2
  rw [← h2]; exact h1
 unfold env_in_uint32 at hres
 unfold ac90
 refine rc_seq ?_
 refine rc_region ?_
 refine rd_op (v := vb false) (ov_move rfl) ?_
 refine rd_nil ?_
 refine pn_seq ?_
 refine rc_seq ?_
 refine rc_region ?_
 refine rd_op (ov_move rfl) ?_
 refine rd_op (ov_bin rfl rfl i_geq) ?_
 refine rd_op (ov_move rfl) ?_
 refine rd_cut (d := 12) (v := vb ((decide (0 ≤ x1)) && (decide (x1 < (x0.length : Int))))) ?_ ?_
 ·intro S Q r
  simp only [ac90_G1, List.cons_append, List.nil_append, List.append_assoc]
  cases hb101 : (decide (0 ≤ x1))
  ·intro k
   refine rd_skip rfl rfl ?_
   refine rd_skip rfl rfl ?_
   refine rd_skip rfl rfl ?_
   refine rd_skip rfl rfl ?_
   refine rd_op (v := vb false) (ov_pick rfl rfl rfl rfl) ?_
   exact rd_weak (sub_cons rfl (sub_skip rfl (sub_skip rfl (sub_skip rfl (sub_skip rfl (sub_skip rfl (sub_refl _))))))) k
  ·intro k
   have hb101' := hb101
   try simp only [qa1, qa2, qa3, qa4, qa5, qa6, qa7, qa8, qa9, qaA, qaB, qaC, qaD] at hb101'
   refine rd_yes rfl rfl (ov_move rfl) ?_
   refine rd_yes rfl rfl (ov_move rfl) ?_
   refine rd_yes rfl rfl (ov_bi rfl (sl_len r0 Try.underlying44 _)) ?_
   refine rd_yes rfl rfl (ov_bin rfl rfl i_lss) ?_
   refine rd_op (v := vb (decide (x1 < (x0.length : Int)))) (ov_pick rfl rfl rfl rfl) ?_
   exact rd_weak (sub_cons rfl (sub_skip rfl (sub_skip rfl (sub_skip rfl (sub_skip rfl (sub_skip rfl (sub_refl _))))))) k
 refine rd_op (ov_move rfl) ?_
 refine rd_nil ?_
 refine pn_seq ?_
 subst hres
 exact rc_retV (.tmp rfl .nil) (deep_closed rfl) rfl

/-- patchbay/env.at[[]uint32] -/
def RF91 (res : (List (BitVec 32))) (r : PV) : Prop := (tSl tU32).R res r
theorem f91_ok {x0 : List (List (BitVec 32))} {x1 : Int} {v0 : PV} (r0 : (tSl (tSl tU32)).R x0 v0) : ∃ r, FnR Try.prog 91 [v0, vi x1] r ∧ (tSl tU32).R (env_at__uint32_ x0 x1) r := by
 obtain ⟨res, hres⟩ : ∃ res, env_at__uint32_ x0 x1 = res := ⟨_, rfl⟩
 suffices H : RC Try.prog ac91 [] (QR Try.prog [(4, none)] (RF91 res)) (argE 0 [v0, vi x1]) ⟨0, []⟩ by
  rw [hres]
  exact fnE text91 (by simp) H
 unfold env_at__uint32_ at hres
 unfold ac91
 refine rc_seq ?_
 refine rc_region ?_
 refine rd_op (v := nilS) (ov_move rfl) ?_
 refine rd_nil ?_
 refine pn_seq ?_
 refine rc_seq ?_
 refine rc_region ?_
 refine rd_op (v := nilS) (ov_move rfl) ?_
 refine rd_nil ?_
 refine pn_seq ?_
 refine rc_seq ?_
 refine rc_seq ?_
 refine rc_region ?_
 refine rd_op (ov_move rfl) ?_
 refine rd_op (ov_bin rfl rfl i_lss) ?_
 refine rd_op (ov_move rfl) ?_
 refine rd_cut (d := 13) (v := vb ((decide (x1 < 0)) || (decide ((x0.length : Int) ≤ x1)))) ?_ ?_
 ·intro S Q r
  simp only [ac91_G1, List.cons_append, List.nil_append, List.append_assoc]
  cases hb101 : (decide (x1 < 0))
  ·intro k
   have hb101' := hb101
   try simp only [qa1, qa2, qa3, qa4, qa5, qa6, qa7, qa8, qa9, qaA, qaB, qaC, qaD] at hb101'
   refine rd_yes rfl rfl (ov_move rfl) ?_
   refine rd_yes rfl rfl (ov_move rfl) ?_
   refine rd_yes rfl rfl (ov_bi rfl (sl_len r0 Try.underlying43 _)) ?_
   refine rd_yes rfl rfl (ov_bin rfl rfl i_geq) ?_
   refine rd_op (v := vb (decide ((x0.length : Int) ≤ x1))) (ov_pick rfl rfl rfl rfl) ?_
   exact rd_weak (sub_cons rfl (sub_skip rfl (sub_skip rfl (sub_skip rfl (sub_skip rfl (sub_skip rfl (sub_refl _))))))) k
  ·intro k
   refine rd_skip rfl rfl ?_
   refine rd_skip rfl rfl ?_
   refine rd_skip rfl rfl ?_
   refine rd_skip rfl rfl ?_
   refine rd_op (v := vb true) (ov_pick rfl rfl rfl rfl) ?_
   exact rd_weak (sub_cons rfl (sub_skip rfl (sub_skip rfl (sub_skip rfl (sub_skip rfl (sub_skip rfl (sub_refl _))))))) k
 refine rd_nil ?_
 refine pn_seq ?_
 refine rc_cond rfl (fun hc102 => ?_) (fun hc102 => ?_)
 ·replace hres := (ite_t hc102).symm.trans hres
  have hc102' := hc102
  try simp only [qa1, qa2, qa3, qa4, qa5, qa6, qa7, qa8, qa9, qaA, qaB, qaC, qaD] at hc102'
  refine rc_seq ?_
  refine rc_region ?_
  refine rd_op (ov_move rfl) ?_
  refine rd_op (ov_move rfl) ?_
  refine rd_nil ?_
  refine pn_seq ?_
  subst hres
  exact rc_retV (.tmp rfl .nil) (deep_closed (TR.clo (tSl tU32) sl_nil)) sl_nil
 ·replace hres := (ite_f hc102).symm.trans hres
  have hc102' := hc102
  try simp only [qa1, qa2, qa3, qa4, qa5, qa6, qa7, qa8, qa9, qaA, qaB, qaC, qaD] at hc102'
  refine rc_skip ?_
  refine pn_seq ?_
  refine rc_seq ?_
  refine rc_region ?_
  refine rd_op (ov_move rfl) ?_
  refine rd_op (ov_move rfl) ?_
  obtain ⟨v103, e103, r103⟩ := sl_idx (i := x1) r0 (by first | omega | (have hk := tck (by assumption) (by assumption); omega) | (have hk := rtck (by assumption) (by assumption); omega) | (have hk := eck (by assumption) (by assumption) (by assumption); omega) | (have hk := tv (by assumption) (by assumption); omega) | (have hk := rtv (by assumption) (by assumption); omega)) (by first | omega | (have hk := tck (by assumption) (by assumption); omega) | (have hk := rtck (by assumption) (by assumption); omega) | (have hk := eck (by assumption) (by assumption) (by assumption); omega) | (have hk := tv (by assumption) (by assumption); omega) | (have hk := rtv (by assumption) (by assumption); omega))
  refine rd_op (ov_iaddr rfl rfl e103) ?_
  refine rd_op (ov_load rfl (TR.cnt (tSl tU32) r103) (TR.agg (tSl tU32) r103)) ?_
  refine rd_op (ov_move rfl) ?_
  refine rd_nil ?_
  refine pn_seq ?_
  subst hres
  exact rc_retV (.tmp rfl .nil) (deep_closed (TR.clo (tSl tU32) r103)) r103

/-- patchbay/env.at[bool] -/
def RF92 (res : Bool) (r : PV) : Prop := r = vb res
theorem f92_ok {x0 : List Bool} {x1 : Int} {v0 : PV} (r0 : (tSl tB).R x0 v0) : FnR Try.prog 92 [v0, vi x1] (vb (env_at_bool x0 x1)) := by
 obtain ⟨res, hres⟩ : ∃ res, env_at_bool x0 x1 = res := ⟨_, rfl⟩
 suffices H : RC Try.prog ac92 [] (QR Try.prog [(4, none)] (RF92 res)) (argE 0 [v0, vi x1]) ⟨0, []⟩ by
  obtain ⟨r, h1, h2⟩ := fnE text92 (by simp) H
  rw [hres]
  have h2 : r = vb res := h2
  rw [← h2]; exact h1
 unfold env_at_bool at hres
 unfold ac92
 refine rc_seq ?_
 refine rc_region ?_
 refine rd_op (v := vb false) (ov_move rfl) ?_
 refine rd_nil ?_
 refine pn_seq ?_
 refine rc_seq ?_
 refine rc_region ?_
 refine rd_op (v := vb false) (ov_move rfl) ?_
 refine rd_nil ?_
 refine pn_seq ?_
 refine rc_seq ?_
 refine rc_seq ?_
 refine rc_region ?_
 refine rd_op (ov_move rfl) ?_
 refine rd_op (ov_bin rfl rfl i_lss) ?_
 refine rd_op (ov_move rfl) ?_
 refine rd_cut (d := 13) (v := vb ((decide (x1 < 0)) || (decide ((x0.length : Int) ≤ x1)))) ?_ ?_
 ·intro S Q r
  simp only [ac92_G1, List.cons_append, List.nil_append, List.append_assoc]
  cases hb101 : (decide (x1 < 0))
  ·intro k
   have hb101' := hb101
   try simp only [qa1, qa2, qa3, qa4, qa5, qa6, qa7, qa8, qa9, qaA, qaB, qaC, qaD] at hb101'
   refine rd_yes rfl rfl (ov_move rfl) ?_
   refine rd_yes rfl rfl (ov_move rfl) ?_
   refine rd_yes rfl rfl (ov_bi rfl (sl_len r0 Try.underlying42 _)) ?_
   refine rd_yes rfl rfl (ov_bin rfl rfl i_geq) ?_
   refine rd_op (v := vb (decide ((x0.length : Int) ≤ x1))) (ov_pick rfl rfl rfl rfl) ?_
   exact rd_weak (sub_cons rfl (sub_skip rfl (sub_skip rfl (sub_skip rfl (sub_skip rfl (sub_skip rfl (sub_refl _))))))) k
  ·intro k
   refine rd_skip rfl rfl ?_
   refine rd_skip rfl rfl ?_
   refine rd_skip rfl rfl ?_
   refine rd_skip rfl rfl ?_
   refine rd_op (v := vb true) (ov_pick rfl rfl rfl rfl) ?_
   exact rd_weak (sub_cons rfl (sub_skip rfl (sub_skip rfl (sub_skip rfl (sub_skip rfl (sub_skip rfl (sub_refl _))))))) k
 refine rd_nil ?_
 refine pn_seq ?_
 refine rc_cond rfl (fun hc102 => ?_) (fun hc102 => ?_)
 ·replace hres := (ite_t hc102).symm.trans hres
  have hc102' := hc102
  try simp only [qa1, qa2, qa3, qa4, qa5, qa6, qa7, qa8, qa9, qaA, qaB, qaC, qaD] at hc102'
  refine rc_seq ?_
  refine rc_region ?_
  refine rd_op (ov_move rfl) ?_
  refine rd_op (ov_move rfl) ?_
  refine rd_nil ?_
  refine pn_seq ?_
  subst hres
  exact rc_retV (.tmp rfl .nil) (deep_closed rfl) rfl
 ·replace hres := (ite_f hc102).symm.trans hres
  have hc102' := hc102
  try simp only [qa1, qa2, qa3, qa4, qa5, qa6, qa7, qa8, qa9, qaA, qaB, qaC, qaD] at hc102'
  refine rc_skip ?_
  refine pn_seq ?_
  refine rc_seq ?_
  refine rc_region ?_
  refine rd_op (ov_move rfl) ?_
  refine rd_op (ov_move rfl) ?_
  refine rd_op (ov_iaddr rfl rfl (slB r0 (by first | omega | (have hk := tck (by assumption) (by assumption); omega) | (have hk := rtck (by assumption) (by assumption); omega) | (have hk := eck (by assumption) (by assumption) (by assumption); omega) | (have hk := tv (by assumption) (by assumption); omega) | (have hk := rtv (by assumption) (by assumption); omega)) (by first | omega | (have hk := tck (by assumption) (by assumption); omega) | (have hk := rtck (by assumption) (by assumption); omega) | (have hk := eck (by assumption) (by assumption) (by assumption); omega) | (have hk := tv (by assumption) (by assumption); omega) | (have hk := rtv (by assumption) (by assumption); omega)))) ?_
  refine rd_op (ov_load rfl rfl rfl) ?_
  refine rd_op (ov_move rfl) ?_
  refine rd_nil ?_
  refine pn_seq ?_
  subst hres
  exact rc_retV (.tmp rfl .nil) (deep_closed rfl) rfl

/-- patchbay/env.element -/
def RF79 (res : (List (BitVec 32)) × Bool) (r : PV) : Prop := ∃ c0, r = .tup [c0, vb res.2] ∧ (tSl tU32).R res.1 c0
theorem f79_ok {x0 : api_Env} {x1 : api_FieldRef} {v0 : PV} {v1 : PV} (r0 : api_Env.t.R x0 v0) (r1 : api_FieldRef.t.R x1 v1) : ∃ c0, FnR Try.prog 79 [v0, v1] (.tup [c0, vb ((env_element x0 x1).2)]) ∧ (tSl tU32).R (env_element x0 x1).1 c0 := by
 obtain ⟨res, hres⟩ : ∃ res, env_element x0 x1 = res := ⟨_, rfl⟩
 suffices H : RC Try.prog ac79 [] (QR Try.prog [(4, none), (5, none)] (RF79 res)) (argE 0 [v0, v1]) ⟨0, []⟩ by
  rw [hres]
  obtain ⟨r, h1, c0, rfl, qc0⟩ := fnE text79 (by simp) H
  exact ⟨c0, h1, qc0⟩
 unfold env_element at hres
 unfold ac79
 refine rc_seq ?_
 refine rc_region ?_
 refine rd_op (ov_box rfl (TR.cnt api_Env.t r0)) ?_
 refine rd_op (ov_box rfl (TR.cnt api_FieldRef.t r1)) ?_
 refine rd_op (v := nilS) (ov_move rfl) ?_
 refine rd_op (v := vb false) (ov_move rfl) ?_
 refine rd_nil ?_
 refine pn_seq ?_
 refine rc_seq ?_
 refine rc_seq ?_
 refine rc_region ?_
 refine rd_op (ov_load rfl (TR.cnt api_FieldRef.t r1) (TR.agg api_FieldRef.t r1)) ?_
 refine rd_op (ov_faddr rfl (api_FieldRef.g_Field r1)) ?_
 refine rd_op (ov_load rfl rfl rfl) ?_
 refine rd_op (v := .agg [vi (-1), vi x1.Field]) (ov_build (cs := [vi (-1), vi x1.Field]) rfl rfl) ?_
 refine rd_op (ov_bin rfl rfl (api_FieldRef.eql_60 r1 (show api_FieldRef.t.R ({ Header := (-1), Field := x1.Field } : api_FieldRef) (.agg [vi (-1), vi x1.Field]) from rfl))) ?_
 refine rd_nil ?_
 refine pn_seq ?_
 refine rc_cond rfl (fun hc101 => ?_) (fun hc101 => ?_)
 ·replace hres := (ite_t hc101).symm.trans hres
  have hc101' := hc101
  try simp only [qa1, qa2, qa3, qa4, qa5, qa6, qa7, qa8, qa9, qaA, qaB, qaC, qaD] at hc101'
  refine rc_seq ?_
  refine rc_region ?_
  obtain ⟨v102, e102, r102⟩ := api_Env.g_Meta r0
  refine rd_op (ov_faddr rfl e102) ?_
  refine rd_op (ov_load rfl (TR.cnt (tSl tU32) r102) (TR.agg (tSl tU32) r102)) ?_
  obtain ⟨v103, e103, r103⟩ := api_Env.g_Meta r0
  refine rd_op (ov_faddr rfl e103) ?_
  refine rd_op (ov_load rfl (TR.cnt (tSl tU32) r103) (TR.agg (tSl tU32) r103)) ?_
  refine rd_op (ov_faddr rfl (api_FieldRef.g_Field r1)) ?_
  refine rd_op (ov_load rfl rfl rfl) ?_
  obtain ⟨y104, hw104, hres⟩ := let_ex hres
  have f104 := f90_ok (x1 := x1.Field) r103 
  rw [hw104] at f104
  refine rd_call (cv_fn rfl rfl (clL_cons (TR.clo (tSl tU32) r103) (clL_cons rfl clL_nil)) f104) ?_
  refine rd_op (ov_move rfl) ?_
  refine rd_op (ov_move rfl) ?_
  refine rd_nil ?_
  refine pn_seq ?_
  subst hres
  exact rc_retV (.tmp rfl (.tmp rfl .nil)) (deep_closed (show closed (.tup _) = true from (clL_cons (TR.clo (tSl tU32) r102) (clL_cons rfl clL_nil)))) ⟨v102, rfl, r102⟩
 ·replace hres := (ite_f hc101).symm.trans hres
  have hc101' := hc101
  try simp only [qa1, qa2, qa3, qa4, qa5, qa6, qa7, qa8, qa9, qaA, qaB, qaC, qaD] at hc101'
  refine rc_skip ?_
  refine pn_seq ?_
  refine rc_seq ?_
  refine rc_region ?_
  obtain ⟨v105, e105, r105⟩ := api_Env.g_Fields r0
  refine rd_op (ov_faddr rfl e105) ?_
  refine rd_op (ov_load rfl (TR.cnt (tSl (tSl tU32)) r105) (TR.agg (tSl (tSl tU32)) r105)) ?_
  refine rd_op (ov_faddr rfl (api_FieldRef.g_Header r1)) ?_
  refine rd_op (ov_load rfl rfl rfl) ?_
  obtain ⟨y106, hw106, hres⟩ := let_ex hres
  obtain ⟨v107, f106, r107⟩ := f91_ok (x1 := x1.Header) r105 
  rw [hw106] at r107
  refine rd_call (cv_fn rfl rfl (clL_cons (TR.clo (tSl (tSl tU32)) r105) (clL_cons rfl clL_nil)) f106) ?_
  refine rd_op (ov_move rfl) ?_
  refine rd_nil ?_
  refine pn_seq ?_
  refine rc_seq ?_
  refine rc_region ?_
  refine rd_op (ov_move rfl) ?_
  obtain ⟨v108, e108, r108⟩ := api_Env.g_Valid r0
  refine rd_op (ov_faddr rfl e108) ?_
  refine rd_op (ov_load rfl (TR.cnt (tSl tB) r108) (TR.agg (tSl tB) r108)) ?_
  refine rd_op (ov_faddr rfl (api_FieldRef.g_Header r1)) ?_
  refine rd_op (ov_load rfl rfl rfl) ?_
  obtain ⟨y109, hw109, hres⟩ := let_ex hres
  have f109 := f92_ok (x1 := x1.Header) r108 
  rw [hw109] at f109
  refine rd_call (cv_fn rfl rfl (clL_cons (TR.clo (tSl tB) r108) (clL_cons rfl clL_nil)) f109) ?_
  refine rd_op (ov_move rfl) ?_
  refine rd_cut (d := 35) (v := vb (y109 && (env_in_uint32 y106 x1.Field))) ?_ ?_
  ·intro S Q r
   simp only [ac79_G1, List.cons_append, List.nil_append, List.append_assoc]
   cases hb110 : y109
   ·intro k
    refine rd_skip rfl rfl ?_
    refine rd_skip rfl rfl ?_
    refine rd_skip rfl rfl ?_
    refine rd_skip rfl rfl ?_
    refine rd_op (v := vb false) (ov_pick rfl rfl rfl rfl) ?_
    exact rd_weak (sub_cons rfl (sub_skip rfl (sub_skip rfl (sub_skip rfl (sub_skip rfl (sub_skip rfl (sub_refl _))))))) k
   ·intro k
    have hb110' := hb110
    try simp only [qa1, qa2, qa3, qa4, qa5, qa6, qa7, qa8, qa9, qaA, qaB, qaC, qaD] at hb110'
    refine rd_yes rfl rfl (ov_move rfl) ?_
    refine rd_yes rfl rfl (ov_faddr rfl (api_FieldRef.g_Field r1)) ?_
    refine rd_yes rfl rfl (ov_load rfl rfl rfl) ?_
    have f111 := f90_ok (x1 := x1.Field) r107 
    refine rd_ycall rfl rfl (cv_fn rfl rfl (clL_cons (TR.clo (tSl tU32) r107) (clL_cons rfl clL_nil)) f111) ?_
    refine rd_op (v := vb (env_in_uint32 y106 x1.Field)) (ov_pick rfl rfl rfl rfl) ?_
    exact rd_weak (sub_cons rfl (sub_skip rfl (sub_skip rfl (sub_skip rfl (sub_skip rfl (sub_skip rfl (sub_refl _))))))) k
  refine rd_op (ov_move rfl) ?_
  refine rd_op (ov_move rfl) ?_
  refine rd_nil ?_
  refine pn_seq ?_
  subst hres
  exact rc_retV (.tmp rfl (.tmp rfl .nil)) (deep_closed (show closed (.tup _) = true from (clL_cons (TR.clo (tSl tU32) r107) (clL_cons rfl clL_nil)))) ⟨v107, rfl, r107⟩

/-- patchbay/env.Get -/
def RF57 (res : (BitVec 32)) (r : PV) : Prop := r = vu32 res
theorem f57_ok {x0 : api_Env} {x1 : api_FieldRef} {v0 : PV} {v1 : PV} (r0 : api_Env.t.R x0 v0) (r1 : api_FieldRef.t.R x1 v1) : FnR Try.prog 57 [v0, v1] (vu32 (env_Get x0 x1)) := by
 obtain ⟨res, hres⟩ : ∃ res, env_Get x0 x1 = res := ⟨_, rfl⟩
 suffices H : RC Try.prog ac57 [] (QR Try.prog [(4, none)] (RF57 res)) (argE 0 [v0, v1]) ⟨0, []⟩ by
  obtain ⟨r, h1, h2⟩ := fnE text57 (by simp) H
  rw [hres]
  have h2 : r = vu32 res := h2
  rw [← h2]; exact h1
 unfold env_Get at hres
 unfold ac57
 refine rc_seq ?_
 refine rc_region ?_
 refine rd_op (ov_box rfl (TR.cnt api_Env.t r0)) ?_
 refine rd_op (ov_box rfl (TR.cnt api_FieldRef.t r1)) ?_
 refine rd_op (v := vu32 0#32) (ov_move rfl) ?_
 refine rd_nil ?_
 refine pn_seq ?_
 refine rc_seq ?_
 refine rc_region ?_
 refine rd_op (ov_load rfl (TR.cnt api_Env.t r0) (TR.agg api_Env.t r0)) ?_
 refine rd_op (ov_load rfl (TR.cnt api_FieldRef.t r1) (TR.agg api_FieldRef.t r1)) ?_
 obtain ⟨y101, hw101, hres⟩ := let_ex hres
 obtain ⟨v102, f101, r102⟩ := f79_ok  r0 r1 
 rw [hw101] at f101 r102
 refine rd_call (cv_fn rfl rfl (clL_cons (TR.clo api_Env.t r0) (clL_cons (TR.clo api_FieldRef.t r1) clL_nil)) f101) ?_
 refine rd_op (ov_move rfl) ?_
 refine rd_op (ov_extract rfl rfl) ?_
 refine rd_op (ov_extract rfl rfl) ?_
 refine rd_op (ov_move rfl) ?_
 refine rd_op (ov_move rfl) ?_
 refine rd_nil ?_
 refine pn_seq ?_
 refine rc_seq ?_
 refine rc_seq ?_
 refine rc_region ?_
 refine rd_op (ov_move rfl) ?_
 refine rd_op (ov_not rfl) ?_
 refine rd_nil ?_
 refine pn_seq ?_
 refine rc_cond rfl (fun hc103 => ?_) (fun hc103 => ?_)
 ·replace hres := (ite_t hc103).symm.trans hres
  have hc103' := hc103
  try simp only [qa1, qa2, qa3, qa4, qa5, qa6, qa7, qa8, qa9, qaA, qaB, qaC, qaD] at hc103'
  refine rc_seq ?_
  refine rc_region ?_
  refine rd_op (v := vu32 0#32) (ov_move rfl) ?_
  refine rd_nil ?_
  refine pn_seq ?_
  subst hres
  exact rc_retV (.tmp rfl .nil) (deep_closed rfl) rfl
 ·replace hres := (ite_f hc103).symm.trans hres
  have hc103' := hc103
  try simp only [qa1, qa2, qa3, qa4, qa5, qa6, qa7, qa8, qa9, qaA, qaB, qaC, qaD] at hc103'
  refine rc_skip ?_
  refine pn_seq ?_
  refine rc_seq ?_
  refine rc_region ?_
  refine rd_op (ov_move rfl) ?_
  refine rd_op (ov_faddr rfl (api_FieldRef.g_Field r1)) ?_
  refine rd_op (ov_load rfl rfl rfl) ?_
  refine rd_op (ov_iaddr rfl rfl (slU32 r102 (by first | omega | exact (el_ok (by assumption) (by assumption)).1 | exact (el_ok (by assumption) (by assumption)).2) (by first | omega | exact (el_ok (by assumption) (by assumption)).1 | exact (el_ok (by assumption) (by assumption)).2))) ?_
  refine rd_op (ov_load rfl rfl rfl) ?_
  refine rd_op (ov_move rfl) ?_
  refine rd_nil ?_
  refine pn_seq ?_
  subst hres
  exact rc_retV (.tmp rfl .nil) (deep_closed rfl) rfl

/-- patchbay/table.Key -/
def RF29 (res : (List (BitVec 32))) (r : PV) : Prop := (tSl tU32).R res r
theorem table_Key_L1_ok {S : List Fr} {res : (List (BitVec 32))} {x0 : api_Program} {x1 : Int} {x2 : api_Env} {y101 : (List Int)} {v0 : PV} {v2 : PV} {v102 : PV} (r0 : api_Program.t.R x0 v0) (r2 : api_Env.t.R x2 v2) (hw101 : table_Widths x0 x1 = y101) (r102 : (tSl tI).R y101 v102) {K0 : (List (BitVec 32)) → (List (BitVec 32))}
  (hK0 : ∀ (zE104 : List (BitVec 32)) (esE104 : List PV) (aE104 : PV) (qE104 : All2 tU32.R zE104 esE104) (nE104 : isL aE104 = true) (wrE104 : Wri aE104 esE104) (hlE104 : zE104.length ≤ 4611686018427387904) (h : Heap) (M0 : Mem h [⟨aE104, 57, 1, esE104⟩]), K0 zE104 = res → PX Try.prog 0 S (QR Try.prog [(6, none)] (RF29 res)) [(7, aE104)] h) :
  ∀ (m : Nat) (x14_ : Int) (zE104 : List (BitVec 32)) (esE104 : List PV) (aE104 : PV) (qE104 : All2 tU32.R zE104 esE104) (nE104 : isL aE104 = true) (wrE104 : Wri aE104 esE104) (hlE104 : zE104.length ≤ 4611686018427387904) (hm1 : m = Int.toNat ((y101.length : Int) - x14_)) (hlo1 : 0 ≤ x14_) (iv1_0 : (zE104.length : Int) ≤ x14_) (h : Heap) (M0 : Mem h [⟨aE104, 57, 1, esE104⟩]), table_Key_L1 x0 x1 x2 y101 K0 m x14_ zE104 = res → RC Try.prog (.loop ac29_L1) S (QR Try.prog [(6, none)] (RF29 res)) [(14, vi x14_), (13, vi (y101.length : Int)), (12, v102), (7, aE104), (5, .fp v2), (3, .fp v0), (1, vi x1)] h := by
 intro m
 induction m with
 | zero =>
  intro x14_ zE104 esE104 aE104 qE104 nE104 wrE104 hlE104 hm1 hlo1 iv1_0 h M0 hres
  rw [table_Key_L1] at hres
  refine rc_loop ?_
  unfold ac29_L1
  refine rc_seq ?_
  refine rc_region ?_
  refine rd_op (ov_bin rfl rfl i_lss) ?_
  refine rd_nil ?_
  refine pn_seq ?_
  refine rc_seq ?_
  refine rc_cond rfl (fun hc105 => ?_) (fun hc105 => ?_)
  ·exfalso
   try simp only [qa1, qa2, qa3, qa4, qa5, qa6, qa7, qa8, qa9, qaA, qaB, qaC, qaD] at hc105
   omega
  ·have hend := hres
   have hc105' := hc105
   try simp only [qa1, qa2, qa3, qa4, qa5, qa6, qa7, qa8, qa9, qaA, qaB, qaC, qaD] at hc105'
   refine rc_exit ?_
   refine px_seq ?_
   refine px_again ?_
   exact px_weak ((sub_cons rfl (sub_nil _))) (hK0 zE104 esE104 aE104 qE104 nE104 wrE104 hlE104 _ (Mem.sub M0 (.cons_cons _ .slnil)) hres)
 | succ m ih =>
  intro x14_ zE104 esE104 aE104 qE104 nE104 wrE104 hlE104 hm1 hlo1 iv1_0 h M0 hres
  rw [table_Key_L1] at hres
  refine rc_loop ?_
  unfold ac29_L1
  refine rc_seq ?_
  refine rc_region ?_
  refine rd_op (ov_bin rfl rfl i_lss) ?_
  refine rd_nil ?_
  refine pn_seq ?_
  refine rc_seq ?_
  refine rc_cond rfl (fun hc106 => ?_) (fun hc106 => ?_)
  ·have hgo := hres
   have hc106' := hc106
   try simp only [qa1, qa2, qa3, qa4, qa5, qa6, qa7, qa8, qa9, qaA, qaB, qaC, qaD] at hc106'
   refine rc_skip ?_
   refine pn_seq ?_
   refine rc_seq ?_
   refine rc_block ?_
   refine rc_seq ?_
   refine rc_region ?_
   refine rd_op (ov_move rfl) ?_
   refine rd_op (ov_iaddr rfl rfl (slI r102 (by first | omega | (have hk := wd (by assumption) hlo1 (by omega); omega)) (by first | omega | (have hk := wd (by assumption) hlo1 (by omega); omega)))) ?_
   refine rd_op (ov_load rfl rfl rfl) ?_
   refine rd_op (ov_move rfl) ?_
   refine rd_op (ov_move rfl) ?_
   refine rd_nil ?_
   refine pn_seq ?_
   refine rc_region ?_
   refine rd_op (ov_move rfl) ?_
   refine rd_op (ov_load rfl (TR.cnt api_Env.t r2) (TR.agg api_Env.t r2)) ?_
   obtain ⟨v107, e107, r107⟩ := api_Program.g_Tables r0
   refine rd_op (ov_faddr rfl e107) ?_
   refine rd_op (ov_load rfl (TR.cnt (tSl api_Table.t) r107) (TR.agg (tSl api_Table.t) r107)) ?_
   refine rd_op (ov_move rfl) ?_
   obtain ⟨v108, e108, r108⟩ := sl_idx (i := x1) r107 (by first | omega | (have hk := wd (by assumption) hlo1 (by omega); omega)) (by first | omega | (have hk := wd (by assumption) hlo1 (by omega); omega))
   refine rd_op (ov_iaddr rfl rfl e108) ?_
   obtain ⟨v109, e109, r109⟩ := api_Table.g_Keys r108
   refine rd_op (ov_faddr rfl e109) ?_
   refine rd_op (ov_load rfl (TR.cnt (tSl api_TableKey.t) r109) (TR.agg (tSl api_TableKey.t) r109)) ?_
   refine rd_op (ov_move rfl) ?_
   obtain ⟨v110, e110, r110⟩ := sl_idx (i := x14_) r109 (by first | omega | (have hk := wd (by assumption) hlo1 (by omega); omega)) (by first | omega | (have hk := wd (by assumption) hlo1 (by omega); omega))
   refine rd_op (ov_iaddr rfl rfl e110) ?_
   obtain ⟨v111, e111, r111⟩ := api_TableKey.g_Field r110
   refine rd_op (ov_faddr rfl e111) ?_
   refine rd_op (ov_load rfl (TR.cnt api_FieldRef.t r111) (TR.agg api_FieldRef.t r111)) ?_
   obtain ⟨y112, hw112, hres⟩ := let_ex hres
   have f112 := f57_ok  r2 r111 
   rw [hw112] at f112
   refine rd_call (cv_fn rfl rfl (clL_cons (TR.clo api_Env.t r2) (clL_cons (TR.clo api_FieldRef.t r111) clL_nil)) f112) ?_
   refine rd_op (ov_move rfl) ?_
   obtain ⟨y113, hw113, hres⟩ := let_ex hres
   have f113 := f58_ok (x0 := (ix y101 x14_))  
   rw [hw113] at f113
   refine rd_call (cv_fn rfl rfl (clL_cons rfl clL_nil) f113) ?_
   refine rd_op (ov_bin (a := vu32 y112) (b := vu32 y113) rfl rfl w_and) ?_
   refine rd_op (v := .fs true [vu32 (y112 &&& y113)]) (ov_bslice rfl (all_cons rfl all_nil)) ?_
   have r114 : (tSl tU32).R ([(y112 &&& y113)] : List (BitVec 32)) (.fs true [vu32 (y112 &&& y113)]) := sl_fs ⟨rfl, trivial⟩ (by simp)
   obtain ⟨nw115, sr115, ar115⟩ := src_of (t := tU32) (h := h) r114
   have f115 : fits (esE104.length + nw115.length) 4 = true := by rw [All2.length_eq qE104, All2.length_eq ar115]; (try simp only [List.length_cons, List.length_nil]); exact fits_of (by have hk := wd (by assumption) hlo1 (by omega); omega) (by have hk := wd (by assumption) hlo1 (by omega); omega)
   refine rd_appW (k := 0) (es := esE104) (news := nw115) M0 rfl rfl rfl nE104 wrE104 sr115 f115 (fun a115 h115 n115 wr115 M115 => ?_)
   have q115 : All2 tU32.R (zE104 ++ ([(y112 &&& y113)] : List (BitVec 32))) (esE104 ++ nw115) := All2.app qE104 ar115
   have hl115 : (zE104 ++ ([(y112 &&& y113)] : List (BitVec 32))).length ≤ 4611686018427387904 := by rw [← All2.length_eq q115, List.length_append]; exact fits_len f115
   refine rd_op (ov_move rfl) ?_
   refine rd_nil ?_
   refine pn_blk ?_
   refine pn_seq ?_
   refine rc_region ?_
   refine rd_op (ov_bin rfl rfl i_add) ?_
   refine rd_op (ov_move rfl) ?_
   refine rd_nil ?_
   refine pn_again ?_
   have hbd := sl_bound r102
   have hinc : wr (x14_ + 1) = x14_ + 1 := wr_of (by omega) (by omega)
   rw [hinc]
   refine rc_weak ?_ (ih (x14_ + 1) (zE104 ++ ([(y112 &&& y113)] : List (BitVec 32))) (esE104 ++ nw115) a115 q115 n115 wr115 hl115 (by omega) (by omega) (by first | omega | (simp; done) | (simp only [List.length_append, List.length_cons, List.length_nil, List.length_set]; omega)) _ (Mem.sub M115 (.cons_cons _ .slnil)) hres)
   exact ((sub_cons rfl (sub_cons rfl (sub_cons rfl (sub_cons rfl (sub_cons rfl (sub_cons rfl (sub_cons rfl (sub_nil _)))))))))
  ·exfalso
   try simp only [qa1, qa2, qa3, qa4, qa5, qa6, qa7, qa8, qa9, qaA, qaB, qaC, qaD] at hc106
   omega

theorem f29_ok {x0 : api_Program} {x1 : Int} {x2 : api_Env} {v0 : PV} {v2 : PV} (r0 : api_Program.t.R x0 v0) (r2 : api_Env.t.R x2 v2) : ∃ r, FnR Try.prog 29 [v0, vi x1, v2] r ∧ (tSl tU32).R (table_Key x0 x1 x2) r := by
 obtain ⟨res, hres⟩ : ∃ res, table_Key x0 x1 x2 = res := ⟨_, rfl⟩
 suffices H : RC Try.prog ac29 [] (QR Try.prog [(6, none)] (RF29 res)) (argE 0 [v0, vi x1, v2]) ⟨0, []⟩ by
  rw [hres]
  exact fnE text29 (by simp) H
 unfold table_Key at hres
 unfold ac29
 refine rc_seq ?_
 refine rc_region ?_
 refine rd_op (ov_box rfl (TR.cnt api_Program.t r0)) ?_
 refine rd_op (ov_box rfl (TR.cnt api_Env.t r2)) ?_
 refine rd_op (v := nilS) (ov_move rfl) ?_
 refine rd_nil ?_
 refine pn_seq ?_
 refine rc_seq ?_
 refine rc_region ?_
 refine rd_op (v := nilS) (ov_move rfl) ?_
 refine rd_nil ?_
 refine pn_seq ?_
 refine rc_seq ?_
 refine rc_seq ?_
 refine rc_region ?_
 refine rd_op (ov_load rfl (TR.cnt api_Program.t r0) (TR.agg api_Program.t r0)) ?_
 refine rd_op (ov_move rfl) ?_
 obtain ⟨y101, hw101, hres⟩ := let_ex hres
 obtain ⟨v102, f101, r102⟩ := f21_ok (x1 := x1) r0 
 rw [hw101] at r102
 refine rd_call (cv_fn rfl rfl (clL_cons (TR.clo api_Program.t r0) (clL_cons rfl clL_nil)) f101) ?_
 refine rd_op (ov_bi rfl (sl_len r102 Try.underlying29 _)) ?_
 refine rd_op (v := vi 0) (ov_move rfl) ?_
 refine rd_nil ?_
 refine pn_seq ?_
 refine rc_block ?_
 have M103 := mem_acc (sz := 1) (es := []) (Mem.nil ⟨0, []⟩) 57 (.inl ⟨none, rfl, rfl⟩) (by simp)
 refine rc_weak ?_ (table_Key_L1_ok (x0 := x0) (x1 := x1) (x2 := x2) (y101 := y101) (v0 := v0) (v2 := v2) (v102 := v102)  (r0 := r0) (r2 := r2) (hw101 := hw101) (r102 := r102) ?_ (Int.toNat ((y101.length : Int) - 0)) 0 ([] : List (BitVec 32)) ([] : List PV) nilS (show All2 tU32.R ([] : List (BitVec 32)) [] from trivial) rfl (.inl rfl) (by decide) rfl (by omega) (by first | omega | (simp; done) | (simp only [List.length_append, List.length_cons, List.length_nil, List.length_set]; omega)) _ (Mem.sub M103 (.cons_cons _ .slnil)) hres)
 ·exact ((sub_cons rfl (sub_cons rfl (sub_cons rfl (sub_cons rfl (sub_cons rfl (sub_cons rfl (sub_cons rfl (sub_nil _)))))))))
 ·intro zE104_116 es116E104 a116E104 q116E104 n116E104 wr116E104 hl116E104 h116 M116 hres
  refine px_blk ?_
  refine pn_seq ?_
  refine rc_seq ?_
  refine rc_region ?_
  refine rd_op (ov_move rfl) ?_
  refine rd_op (ov_move rfl) ?_
  refine rd_nil ?_
  refine pn_seq ?_
  obtain ⟨v117, d117, r117⟩ := own_sl (P := Try.prog) (k := 0) (t := tU32) M116 rfl n116E104 q116E104 (Nat.le_trans hl116E104 (by decide))
  subst hres
  exact rc_retV (.tmp rfl .nil) d117 r117

/-- patchbay/patchbayref02.EqualUint32s -/
def RF28 (res : Bool) (r : PV) : Prop := r = vb res
theorem ref02_EqualUint32s_L1_ok {S : List Fr} {res : Bool} {x0 : List (BitVec 32)} {x1 : List (BitVec 32)} {v0 : PV} {v1 : PV} (r0 : (tSl tU32).R x0 v0) (r1 : (tSl tU32).R x1 v1) (hc101 : (!decide ((x0.length : Int) = (x1.length : Int))) = false) {K0 : Unit → Bool}
  (hK0 : K0 () = res → PX Try.prog 0 S (QR Try.prog [(4, none)] (RF28 res)) [] ⟨0, []⟩) :
  ∀ (m : Nat) (x5_ : Int) (hm1 : m = Int.toNat ((x0.length : Int) - x5_)) (hlo1 : 0 ≤ x5_), ref02_EqualUint32s_L1 x0 x1 K0 m x5_ = res → RC Try.prog (.loop ac28_L1) S (QR Try.prog [(4, none)] (RF28 res)) [(5, vi x5_), (1, v1), (0, v0)] ⟨0, []⟩ := by
 have hc101' := hc101
 try simp only [qa1, qa2, qa3, qa4, qa5, qa6, qa7, qa8, qa9, qaA, qaB, qaC, qaD] at hc101'
 intro m
 induction m with
 | zero =>
  intro x5_ hm1 hlo1 hres
  rw [ref02_EqualUint32s_L1] at hres
  refine rc_loop ?_
  unfold ac28_L1
  refine rc_seq ?_
  refine rc_seq ?_
  refine rc_region ?_
  refine rd_op (ov_move rfl) ?_
  refine rd_op (ov_move rfl) ?_
  refine rd_op (ov_bi rfl (sl_len r0 Try.underlying44 _)) ?_
  refine rd_op (ov_bin rfl rfl i_lss) ?_
  refine rd_nil ?_
  refine pn_seq ?_
  refine rc_cond rfl (fun hc102 => ?_) (fun hc102 => ?_)
  ·exfalso
   try simp only [qa1, qa2, qa3, qa4, qa5, qa6, qa7, qa8, qa9, qaA, qaB, qaC, qaD] at hc102
   omega
  ·have hend := hres
   have hc102' := hc102
   try simp only [qa1, qa2, qa3, qa4, qa5, qa6, qa7, qa8, qa9, qaA, qaB, qaC, qaD] at hc102'
   refine rc_exit ?_
   refine px_seq ?_
   refine px_again ?_
   exact px_weak ((sub_nil _)) (hK0  hres)
 | succ m ih =>
  intro x5_ hm1 hlo1 hres
  rw [ref02_EqualUint32s_L1] at hres
  refine rc_loop ?_
  unfold ac28_L1
  refine rc_seq ?_
  refine rc_seq ?_
  refine rc_region ?_
  refine rd_op (ov_move rfl) ?_
  refine rd_op (ov_move rfl) ?_
  refine rd_op (ov_bi rfl (sl_len r0 Try.underlying44 _)) ?_
  refine rd_op (ov_bin rfl rfl i_lss) ?_
  refine rd_nil ?_
  refine pn_seq ?_
  refine rc_cond rfl (fun hc103 => ?_) (fun hc103 => ?_)
  ·have hgo := hres
   have hc103' := hc103
   try simp only [qa1, qa2, qa3, qa4, qa5, qa6, qa7, qa8, qa9, qaA, qaB, qaC, qaD] at hc103'
   refine rc_skip ?_
   refine pn_seq ?_
   refine rc_seq ?_
   refine rc_block ?_
   refine rc_seq ?_
   refine rc_region ?_
   refine rd_op (ov_move rfl) ?_
   refine rd_op (ov_move rfl) ?_
   refine rd_op (ov_iaddr rfl rfl (slU32 r0 (by first | omega | (have hk := tck (by assumption) (by assumption); omega) | (have hk := rtck (by assumption) (by assumption); omega) | (have hk := eck (by assumption) (by assumption) (by assumption); omega) | (have hk := tv (by assumption) (by assumption); omega) | (have hk := rtv (by assumption) (by assumption); omega)) (by first | omega | (have hk := tck (by assumption) (by assumption); omega) | (have hk := rtck (by assumption) (by assumption); omega) | (have hk := eck (by assumption) (by assumption) (by assumption); omega) | (have hk := tv (by assumption) (by assumption); omega) | (have hk := rtv (by assumption) (by assumption); omega)))) ?_
   refine rd_op (ov_load rfl rfl rfl) ?_
   refine rd_op (ov_move rfl) ?_
   refine rd_op (ov_move rfl) ?_
   refine rd_op (ov_iaddr rfl rfl (slU32 r1 (by first | omega | (have hk := tck (by assumption) (by assumption); omega) | (have hk := rtck (by assumption) (by assumption); omega) | (have hk := eck (by assumption) (by assumption) (by assumption); omega) | (have hk := tv (by assumption) (by assumption); omega) | (have hk := rtv (by assumption) (by assumption); omega)) (by first | omega | (have hk := tck (by assumption) (by assumption); omega) | (have hk := rtck (by assumption) (by assumption); omega) | (have hk := eck (by assumption) (by assumption) (by assumption); omega) | (have hk := tv (by assumption) (by assumption); omega) | (have hk := rtv (by assumption) (by assumption); omega)))) ?_
   refine rd_op (ov_load rfl rfl rfl) ?_
   refine rd_op (ov_bin (a := vu32 (ix x0 x5_)) (b := vu32 (ix x1 x5_)) rfl rfl w_neq) ?_
   refine rd_nil ?_
   refine pn_seq ?_
   refine rc_cond rfl (fun hc104 => ?_) (fun hc104 => ?_)
   ·replace hres := (ite_t hc104).symm.trans hres
    have hc104' := hc104
    try simp only [qa1, qa2, qa3, qa4, qa5, qa6, qa7, qa8, qa9, qaA, qaB, qaC, qaD] at hc104'
    refine rc_seq ?_
    refine rc_region ?_
    refine rd_op (v := vb false) (ov_move rfl) ?_
    refine rd_nil ?_
    refine pn_seq ?_
    subst hres
    exact rc_retV (.tmp rfl .nil) (deep_closed rfl) rfl
   ·replace hres := (ite_f hc104).symm.trans hres
    have hc104' := hc104
    try simp only [qa1, qa2, qa3, qa4, qa5, qa6, qa7, qa8, qa9, qaA, qaB, qaC, qaD] at hc104'
    refine rc_skip ?_
    refine pn_blk ?_
    refine pn_seq ?_
    refine rc_region ?_
    refine rd_op (ov_move rfl) ?_
    refine rd_op (ov_bin rfl rfl i_add) ?_
    refine rd_op (ov_move rfl) ?_
    refine rd_nil ?_
    refine pn_again ?_
    have hbd := sl_bound r0
    have hinc : wr (x5_ + 1) = x5_ + 1 := wr_of (by omega) (by omega)
    rw [hinc]
    refine rc_weak ?_ (ih (x5_ + 1)  (by omega) (by omega) hres)
    exact ((sub_cons rfl (sub_cons rfl (sub_cons rfl (sub_nil _)))))
  ·exfalso
   try simp only [qa1, qa2, qa3, qa4, qa5, qa6, qa7, qa8, qa9, qaA, qaB, qaC, qaD] at hc103
   omega

theorem f28_ok {x0 : List (BitVec 32)} {x1 : List (BitVec 32)} {v0 : PV} {v1 : PV} (r0 : (tSl tU32).R x0 v0) (r1 : (tSl tU32).R x1 v1) : FnR Try.prog 28 [v0, v1] (vb (ref02_EqualUint32s x0 x1)) := by
 obtain ⟨res, hres⟩ : ∃ res, ref02_EqualUint32s x0 x1 = res := ⟨_, rfl⟩
 suffices H : RC Try.prog ac28 [] (QR Try.prog [(4, none)] (RF28 res)) (argE 0 [v0, v1]) ⟨0, []⟩ by
  obtain ⟨r, h1, h2⟩ := fnE text28 (by simp) H
  rw [hres]
  have h2 : r = vb res := h2
  rw [← h2]; exact h1
 unfold ref02_EqualUint32s at hres
 unfold ac28
 refine rc_seq ?_
 refine rc_region ?_
 refine rd_op (v := vb false) (ov_move rfl) ?_
 refine rd_nil ?_
 refine pn_seq ?_
 refine rc_seq ?_
 refine rc_seq ?_
 refine rc_region ?_
 refine rd_op (ov_move rfl) ?_
 refine rd_op (ov_bi rfl (sl_len r0 Try.underlying44 _)) ?_
 refine rd_op (ov_move rfl) ?_
 refine rd_op (ov_bi rfl (sl_len r1 Try.underlying44 _)) ?_
 refine rd_op (ov_bin rfl rfl i_neq) ?_
 refine rd_nil ?_
 refine pn_seq ?_
 refine rc_cond rfl (fun hc101 => ?_) (fun hc101 => ?_)
 ·replace hres := (ite_t hc101).symm.trans hres
  have hc101' := hc101
  try simp only [qa1, qa2, qa3, qa4, qa5, qa6, qa7, qa8, qa9, qaA, qaB, qaC, qaD] at hc101'
  refine rc_seq ?_
  refine rc_region ?_
  refine rd_op (v := vb false) (ov_move rfl) ?_
  refine rd_nil ?_
  refine pn_seq ?_
  subst hres
  exact rc_retV (.tmp rfl .nil) (deep_closed rfl) rfl
 ·replace hres := (ite_f hc101).symm.trans hres
  have hc101' := hc101
  try simp only [qa1, qa2, qa3, qa4, qa5, qa6, qa7, qa8, qa9, qaA, qaB, qaC, qaD] at hc101'
  refine rc_skip ?_
  refine pn_seq ?_
  refine rc_seq ?_
  refine rc_seq ?_
  refine rc_region ?_
  refine rd_op (v := vi 0) (ov_move rfl) ?_
  refine rd_nil ?_
  refine pn_seq ?_
  refine rc_block ?_
  refine rc_weak ?_ (ref02_EqualUint32s_L1_ok (x0 := x0) (x1 := x1) (v0 := v0) (v1 := v1)  (r0 := r0) (r1 := r1) (hc101 := hc101) ?_ (Int.toNat ((x0.length : Int) - 0)) 0 rfl (by omega) hres)
  ·exact ((sub_cons rfl (sub_cons rfl (sub_cons rfl (sub_nil _)))))
  ·intro  hres
   refine px_blk ?_
   refine pn_seq ?_
   refine rc_seq ?_
   refine rc_region ?_
   refine rd_op (v := vb true) (ov_move rfl) ?_
   refine rd_nil ?_
   refine pn_seq ?_
   subst hres
   exact rc_retV (.tmp rfl .nil) (deep_closed rfl) rfl

/-- patchbay/table.Allows -/
def RF25 (res : Bool) (r : PV) : Prop := r = vb res
theorem table_Allows_L1_ok {S : List Fr} {res : Bool} {x0 : api_Program} {x1 : Int} {x2 : Int} {y101 : Bool} {v105 : PV} (hw101 : table_valid x0 x1 = y101) (hc102 : (!y101) = false) (r105 : (tSl tI).R ((ix x0.Tables x1).Actions) v105) {K0 : Unit → Bool}
  (hK0 : K0 () = res → PX Try.prog 0 S (QR Try.prog [(6, none)] (RF25 res)) [] ⟨0, []⟩) :
  ∀ (m : Nat) (x20_ : Int) (hm1 : m = Int.toNat ((((ix x0.Tables x1).Actions).length : Int) - x20_)) (hlo1 : 0 ≤ x20_), table_Allows_L1 x0 x1 x2 K0 m x20_ = res → RC Try.prog (.loop ac25_L1) S (QR Try.prog [(6, none)] (RF25 res)) [(20, vi x20_), (19, vi (((ix x0.Tables x1).Actions).length : Int)), (18, v105), (2, vi x2)] ⟨0, []⟩ := by
 have hc102' := hc102
 try simp only [qa1, qa2, qa3, qa4, qa5, qa6, qa7, qa8, qa9, qaA, qaB, qaC, qaD] at hc102'
 intro m
 induction m with
 | zero =>
  intro x20_ hm1 hlo1 hres
  rw [table_Allows_L1] at hres
  refine rc_loop ?_
  unfold ac25_L1
  refine rc_seq ?_
  refine rc_region ?_
  refine rd_op (ov_bin rfl rfl i_lss) ?_
  refine rd_nil ?_
  refine pn_seq ?_
  refine rc_seq ?_
  refine rc_cond rfl (fun hc106 => ?_) (fun hc106 => ?_)
  ·exfalso
   try simp only [qa1, qa2, qa3, qa4, qa5, qa6, qa7, qa8, qa9, qaA, qaB, qaC, qaD] at hc106
   omega
  ·have hend := hres
   have hc106' := hc106
   try simp only [qa1, qa2, qa3, qa4, qa5, qa6, qa7, qa8, qa9, qaA, qaB, qaC, qaD] at hc106'
   refine rc_exit ?_
   refine px_seq ?_
   refine px_again ?_
   exact px_weak ((sub_nil _)) (hK0  hres)
 | succ m ih =>
  intro x20_ hm1 hlo1 hres
  rw [table_Allows_L1] at hres
  refine rc_loop ?_
  unfold ac25_L1
  refine rc_seq ?_
  refine rc_region ?_
  refine rd_op (ov_bin rfl rfl i_lss) ?_
  refine rd_nil ?_
  refine pn_seq ?_
  refine rc_seq ?_
  refine rc_cond rfl (fun hc107 => ?_) (fun hc107 => ?_)
  ·have hgo := hres
   have hc107' := hc107
   try simp only [qa1, qa2, qa3, qa4, qa5, qa6, qa7, qa8, qa9, qaA, qaB, qaC, qaD] at hc107'
   refine rc_skip ?_
   refine pn_seq ?_
   refine rc_seq ?_
   refine rc_block ?_
   refine rc_seq ?_
   refine rc_region ?_
   refine rd_op (ov_iaddr rfl rfl (slI r105 (by first | omega | (have hk := tck (by assumption) (by assumption); omega) | (have hk := rtck (by assumption) (by assumption); omega) | (have hk := eck (by assumption) (by assumption) (by assumption); omega) | (have hk := tv (by assumption) (by assumption); omega) | (have hk := rtv (by assumption) (by assumption); omega)) (by first | omega | (have hk := tck (by assumption) (by assumption); omega) | (have hk := rtck (by assumption) (by assumption); omega) | (have hk := eck (by assumption) (by assumption) (by assumption); omega) | (have hk := tv (by assumption) (by assumption); omega) | (have hk := rtv (by assumption) (by assumption); omega)))) ?_
   refine rd_op (ov_load rfl rfl rfl) ?_
   refine rd_op (ov_move rfl) ?_
   refine rd_nil ?_
   refine pn_seq ?_
   refine rc_seq ?_
   refine rc_region ?_
   refine rd_op (ov_move rfl) ?_
   refine rd_op (ov_move rfl) ?_
   refine rd_op (ov_bin rfl rfl i_eql) ?_
   refine rd_nil ?_
   refine pn_seq ?_
   refine rc_cond rfl (fun hc108 => ?_) (fun hc108 => ?_)
   ·replace hres := (ite_t hc108).symm.trans hres
    have hc108' := hc108
    try simp only [qa1, qa2, qa3, qa4, qa5, qa6, qa7, qa8, qa9, qaA, qaB, qaC, qaD] at hc108'
    refine rc_seq ?_
    refine rc_region ?_
    refine rd_op (v := vb true) (ov_move rfl) ?_
    refine rd_nil ?_
    refine pn_seq ?_
    subst hres
    exact rc_retV (.tmp rfl .nil) (deep_closed rfl) rfl
   ·replace hres := (ite_f hc108).symm.trans hres
    have hc108' := hc108
    try simp only [qa1, qa2, qa3, qa4, qa5, qa6, qa7, qa8, qa9, qaA, qaB, qaC, qaD] at hc108'
    refine rc_skip ?_
    refine pn_blk ?_
    refine pn_seq ?_
    refine rc_region ?_
    refine rd_op (ov_bin rfl rfl i_add) ?_
    refine rd_op (ov_move rfl) ?_
    refine rd_nil ?_
    refine pn_again ?_
    have hbd := sl_bound r105
    have hinc : wr (x20_ + 1) = x20_ + 1 := wr_of (by omega) (by omega)
    rw [hinc]
    refine rc_weak ?_ (ih (x20_ + 1)  (by omega) (by omega) hres)
    exact ((sub_cons rfl (sub_cons rfl (sub_cons rfl (sub_cons rfl (sub_nil _))))))
  ·exfalso
   try simp only [qa1, qa2, qa3, qa4, qa5, qa6, qa7, qa8, qa9, qaA, qaB, qaC, qaD] at hc107
   omega

theorem f25_ok {x0 : api_Program} {x1 : Int} {x2 : Int} {v0 : PV} (r0 : api_Program.t.R x0 v0) : FnR Try.prog 25 [v0, vi x1, vi x2] (vb (table_Allows x0 x1 x2)) := by
 obtain ⟨res, hres⟩ : ∃ res, table_Allows x0 x1 x2 = res := ⟨_, rfl⟩
 suffices H : RC Try.prog ac25 [] (QR Try.prog [(6, none)] (RF25 res)) (argE 0 [v0, vi x1, vi x2]) ⟨0, []⟩ by
  obtain ⟨r, h1, h2⟩ := fnE text25 (by simp) H
  rw [hres]
  have h2 : r = vb res := h2
  rw [← h2]; exact h1
 unfold table_Allows at hres
 unfold ac25
 refine rc_seq ?_
 refine rc_region ?_
 refine rd_op (ov_box rfl (TR.cnt api_Program.t r0)) ?_
 refine rd_op (v := vb false) (ov_move rfl) ?_
 refine rd_nil ?_
 refine pn_seq ?_
 refine rc_seq ?_
 refine rc_seq ?_
 refine rc_region ?_
 refine rd_op (ov_load rfl (TR.cnt api_Program.t r0) (TR.agg api_Program.t r0)) ?_
 refine rd_op (ov_move rfl) ?_
 obtain ⟨y101, hw101, hres⟩ := let_ex hres
 have f101 := f52_ok (x1 := x1) r0 
 rw [hw101] at f101
 refine rd_call (cv_fn rfl rfl (clL_cons (TR.clo api_Program.t r0) (clL_cons rfl clL_nil)) f101) ?_
 refine rd_op (ov_not rfl) ?_
 refine rd_nil ?_
 refine pn_seq ?_
 refine rc_cond rfl (fun hc102 => ?_) (fun hc102 => ?_)
 ·replace hres := (ite_t hc102).symm.trans hres
  have hc102' := hc102
  try simp only [qa1, qa2, qa3, qa4, qa5, qa6, qa7, qa8, qa9, qaA, qaB, qaC, qaD] at hc102'
  refine rc_seq ?_
  refine rc_region ?_
  refine rd_op (v := vb false) (ov_move rfl) ?_
  refine rd_nil ?_
  refine pn_seq ?_
  subst hres
  exact rc_retV (.tmp rfl .nil) (deep_closed rfl) rfl
 ·replace hres := (ite_f hc102).symm.trans hres
  have hc102' := hc102
  try simp only [qa1, qa2, qa3, qa4, qa5, qa6, qa7, qa8, qa9, qaA, qaB, qaC, qaD] at hc102'
  refine rc_skip ?_
  refine pn_seq ?_
  refine rc_seq ?_
  refine rc_seq ?_
  refine rc_region ?_
  obtain ⟨v103, e103, r103⟩ := api_Program.g_Tables r0
  refine rd_op (ov_faddr rfl e103) ?_
  refine rd_op (ov_load rfl (TR.cnt (tSl api_Table.t) r103) (TR.agg (tSl api_Table.t) r103)) ?_
  refine rd_op (ov_move rfl) ?_
  obtain ⟨v104, e104, r104⟩ := sl_idx (i := x1) r103 (by first | omega | (have hk := tck (by assumption) (by assumption); omega) | (have hk := rtck (by assumption) (by assumption); omega) | (have hk := eck (by assumption) (by assumption) (by assumption); omega) | (have hk := tv (by assumption) (by assumption); omega) | (have hk := rtv (by assumption) (by assumption); omega)) (by first | omega | (have hk := tck (by assumption) (by assumption); omega) | (have hk := rtck (by assumption) (by assumption); omega) | (have hk := eck (by assumption) (by assumption) (by assumption); omega) | (have hk := tv (by assumption) (by assumption); omega) | (have hk := rtv (by assumption) (by assumption); omega))
  refine rd_op (ov_iaddr rfl rfl e104) ?_
  obtain ⟨v105, e105, r105⟩ := api_Table.g_Actions r104
  refine rd_op (ov_faddr rfl e105) ?_
  refine rd_op (ov_load rfl (TR.cnt (tSl tI) r105) (TR.agg (tSl tI) r105)) ?_
  refine rd_op (ov_bi rfl (sl_len r105 Try.underlying29 _)) ?_
  refine rd_op (v := vi 0) (ov_move rfl) ?_
  refine rd_nil ?_
  refine pn_seq ?_
  refine rc_block ?_
  refine rc_weak ?_ (table_Allows_L1_ok (x0 := x0) (x1 := x1) (x2 := x2) (y101 := y101) (v105 := v105)  (hw101 := hw101) (hc102 := hc102) (r105 := r105) ?_ (Int.toNat ((((ix x0.Tables x1).Actions).length : Int) - 0)) 0 rfl (by omega) hres)
  ·exact ((sub_cons rfl (sub_cons rfl (sub_cons rfl (sub_cons rfl (sub_nil _))))))
  ·intro  hres
   refine px_blk ?_
   refine pn_seq ?_
   refine rc_seq ?_
   refine rc_region ?_
   refine rd_op (v := vb false) (ov_move rfl) ?_
   refine rd_nil ?_
   refine pn_seq ?_
   subst hres
   exact rc_retV (.tmp rfl .nil) (deep_closed rfl) rfl

/-- patchbay/patchbaylaw17.works -/
def RF15 (res : Bool) (r : PV) : Prop := r = vb res
theorem f15_ok : FnR Try.prog 15 [] (vb law17_works) := by
 obtain ⟨res, hres⟩ : ∃ res, law17_works  = res := ⟨_, rfl⟩
 suffices H : RC Try.prog ac15 [] (QR Try.prog [(0, none)] (RF15 res)) (argE 0 []) ⟨0, []⟩ by
  obtain ⟨r, h1, h2⟩ := fnE text15 (by simp) H
  rw [hres]
  have h2 : r = vb res := h2
  rw [← h2]; exact h1
 unfold law17_works at hres
 unfold ac15
 refine rc_seq ?_
 refine rc_region ?_
 refine rd_op (v := vb false) (ov_move rfl) ?_
 refine rd_nil ?_
 refine pn_seq ?_
 refine rc_seq ?_
 refine rc_region ?_
 refine rd_op (v := .agg [vs ([105, 110] : List UInt8), vi 8]) (ov_build (cs := [vs ([105, 110] : List UInt8), vi 8]) rfl rfl) ?_
 refine rd_op (v := .agg [vs ([109] : List UInt8), vi 4]) (ov_build (cs := [vs ([109] : List UInt8), vi 4]) rfl rfl) ?_
 refine rd_op (v := .fs true [.agg [vs ([105, 110] : List UInt8), vi 8], .agg [vs ([109] : List UInt8), vi 4]]) (ov_bslice rfl (all_cons rfl (all_cons rfl all_nil))) ?_
 have r101 : (tSl api_Field.t).R ([({ Name := ([105, 110] : List UInt8), Width := 8 } : api_Field), ({ Name := ([109] : List UInt8), Width := 4 } : api_Field)] : List api_Field) (.fs true [.agg [vs ([105, 110] : List UInt8), vi 8], .agg [vs ([109] : List UInt8), vi 4]]) := sl_fs ⟨rfl, ⟨rfl, trivial⟩⟩ (by simp)
 refine rd_op (v := .agg [vs ([110, 111, 112] : List UInt8), nilS, nilS]) (ov_build (cs := [vs ([110, 111, 112] : List UInt8), nilS, nilS]) rfl rfl) ?_
 refine rd_op (v := .fs true [.agg [vs ([110, 111, 112] : List UInt8), nilS, nilS]]) (ov_bslice rfl (all_cons rfl all_nil)) ?_
 have r102 : (tSl api_Action.t).R ([({ Name := ([110, 111, 112] : List UInt8), Params := ([] : List api_Field), Body := ([] : List api_Statement) } : api_Action)] : List api_Action) (.fs true [.agg [vs ([110, 111, 112] : List UInt8), nilS, nilS]]) := sl_fs ⟨⟨nilS, nilS, rfl, sl_nil, sl_nil⟩, trivial⟩ (by simp)
 refine rd_op (v := .agg [vi (-1), vi 0]) (ov_build (cs := [vi (-1), vi 0]) rfl rfl) ?_
 refine rd_op (v := .agg [vi (-1), vi 0, vi 1]) (ov_build (cs := [vi (-1), vi 0, vi 1]) rfl rfl) ?_
 refine rd_op (v := .agg [vi (-1), vi 1]) (ov_build (cs := [vi (-1), vi 1]) rfl rfl) ?_
 refine rd_op (v := .agg [vi (-1), vi 1, vi 3]) (ov_build (cs := [vi (-1), vi 1, vi 3]) rfl rfl) ?_
 refine rd_op (v := .fs true [.agg [vi (-1), vi 0, vi 1], .agg [vi (-1), vi 1, vi 3]]) (ov_bslice rfl (all_cons rfl (all_cons rfl all_nil))) ?_
 have r103 : (tSl api_TableKey.t).R ([({ Field := ({ Header := (-1), Field := 0 } : api_FieldRef), Kind := 1 } : api_TableKey), ({ Field := ({ Header := (-1), Field := 1 } : api_FieldRef), Kind := 3 } : api_TableKey)] : List api_TableKey) (.fs true [.agg [vi (-1), vi 0, vi 1], .agg [vi (-1), vi 1, vi 3]]) := sl_fs ⟨rfl, ⟨rfl, trivial⟩⟩ (by simp)
 refine rd_op (v := .fs true [vi 0]) (ov_bslice rfl (all_cons rfl all_nil)) ?_
 have r104 : (tSl tI).R ([0] : List Int) (.fs true [vi 0]) := sl_fs ⟨rfl, trivial⟩ (by simp)
 refine rd_op (v := .agg [vs ([116] : List UInt8), .fs true [.agg [vi (-1), vi 0, vi 1], .agg [vi (-1), vi 1, vi 3]], .fs true [vi 0], vi 0, nilS, vi 4]) (ov_build (cs := [vs ([116] : List UInt8), .fs true [.agg [vi (-1), vi 0, vi 1], .agg [vi (-1), vi 1, vi 3]], .fs true [vi 0], vi 0, nilS, vi 4]) rfl (by simp only [buildV, cells_one (TR.cnt (tSl api_TableKey.t) r103) (TR.agg (tSl api_TableKey.t) r103), cells_one (TR.cnt (tSl tI) r104) (TR.agg (tSl tI) r104)]; rfl)) ?_
 refine rd_op (v := .fs true [vi 0]) (ov_bslice rfl (all_cons rfl all_nil)) ?_
 have r105 : (tSl tI).R ([0] : List Int) (.fs true [vi 0]) := sl_fs ⟨rfl, trivial⟩ (by simp)
 refine rd_op (v := .agg [vs ([117] : List UInt8), nilS, .fs true [vi 0], vi 0, nilS, vi 1]) (ov_build (cs := [vs ([117] : List UInt8), nilS, .fs true [vi 0], vi 0, nilS, vi 1]) rfl (by simp only [buildV, cells_one (TR.cnt (tSl tI) r105) (TR.agg (tSl tI) r105)]; rfl)) ?_
 refine rd_op (v := .fs true [.agg [vs ([116] : List UInt8), .fs true [.agg [vi (-1), vi 0, vi 1], .agg [vi (-1), vi 1, vi 3]], .fs true [vi 0], vi 0, nilS, vi 4], .agg [vs ([117] : List UInt8), nilS, .fs true [vi 0], vi 0, nilS, vi 1]]) (ov_bslice rfl (all_cons rfl (all_cons rfl all_nil))) ?_
 have r106 : (tSl api_Table.t).R ([({ Name := ([116] : List UInt8), Keys := ([({ Field := ({ Header := (-1), Field := 0 } : api_FieldRef), Kind := 1 } : api_TableKey), ({ Field := ({ Header := (-1), Field := 1 } : api_FieldRef), Kind := 3 } : api_TableKey)] : List api_TableKey), Actions := ([0] : List Int), Default := ({ Action := 0, Args := ([] : List (BitVec 32)) } : api_ActionCall), Size := 4 } : api_Table), ({ Name := ([117] : List UInt8), Keys := ([] : List api_TableKey), Actions := ([0] : List Int), Default := ({ Action := 0, Args := ([] : List (BitVec 32)) } : api_ActionCall), Size := 1 } : api_Table)] : List api_Table) (.fs true [.agg [vs ([116] : List UInt8), .fs true [.agg [vi (-1), vi 0, vi 1], .agg [vi (-1), vi 1, vi 3]], .fs true [vi 0], vi 0, nilS, vi 4], .agg [vs ([117] : List UInt8), nilS, .fs true [vi 0], vi 0, nilS, vi 1]]) := sl_fs ⟨⟨(.fs true [.agg [vi (-1), vi 0, vi 1], .agg [vi (-1), vi 1, vi 3]]), (.fs true [vi 0]), nilS, rfl, r103, r104, sl_nil⟩, ⟨⟨nilS, (.fs true [vi 0]), nilS, rfl, sl_nil, r105, sl_nil⟩, trivial⟩⟩ (by simp)
 refine rd_op (v := .agg [vs [], nilS, .fs true [.agg [vs ([105, 110] : List UInt8), vi 8], .agg [vs ([109] : List UInt8), vi 4]], nilS, .fs true [.agg [vs ([110, 111, 112] : List UInt8), nilS, nilS]], .fs true [.agg [vs ([116] : List UInt8), .fs true [.agg [vi (-1), vi 0, vi 1], .agg [vi (-1), vi 1, vi 3]], .fs true [vi 0], vi 0, nilS, vi 4], .agg [vs ([117] : List UInt8), nilS, .fs true [vi 0], vi 0, nilS, vi 1]], nilS, nilS, nilS]) (ov_build (cs := [vs [], nilS, .fs true [.agg [vs ([105, 110] : List UInt8), vi 8], .agg [vs ([109] : List UInt8), vi 4]], nilS, .fs true [.agg [vs ([110, 111, 112] : List UInt8), nilS, nilS]], .fs true [.agg [vs ([116] : List UInt8), .fs true [.agg [vi (-1), vi 0, vi 1], .agg [vi (-1), vi 1, vi 3]], .fs true [vi 0], vi 0, nilS, vi 4], .agg [vs ([117] : List UInt8), nilS, .fs true [vi 0], vi 0, nilS, vi 1]], nilS, nilS, nilS]) rfl (by simp only [buildV, cells_one (TR.cnt (tSl api_Field.t) r101) (TR.agg (tSl api_Field.t) r101), cells_one (TR.cnt (tSl api_Action.t) r102) (TR.agg (tSl api_Action.t) r102), cells_one (TR.cnt (tSl api_Table.t) r106) (TR.agg (tSl api_Table.t) r106)]; rfl)) ?_
 refine rd_allocO (x := .agg [vs [], nilS, nilS, nilS, nilS, nilS, nilS, nilS, nilS]) (Mem.nil ⟨0, []⟩) rfl rfl (fun i107 w107 h107 M107 => ?_)
 refine rd_storeO (k := 0) (v := .agg [vs [], nilS, .fs true [.agg [vs ([105, 110] : List UInt8), vi 8], .agg [vs ([109] : List UInt8), vi 4]], nilS, .fs true [.agg [vs ([110, 111, 112] : List UInt8), nilS, nilS]], .fs true [.agg [vs ([116] : List UInt8), .fs true [.agg [vi (-1), vi 0, vi 1], .agg [vi (-1), vi 1, vi 3]], .fs true [vi 0], vi 0, nilS, vi 4], .agg [vs ([117] : List UInt8), nilS, .fs true [vi 0], vi 0, nilS, vi 1]], nilS, nilS, nilS]) M107 rfl rfl rfl rfl (fun h109 M109 => ?_)
 replace M109 : Mem h109 [⟨.op i107 w107 0, 31, 9, [.agg [vs [], nilS, .fs true [.agg [vs ([105, 110] : List UInt8), vi 8], .agg [vs ([109] : List UInt8), vi 4]], nilS, .fs true [.agg [vs ([110, 111, 112] : List UInt8), nilS, nilS]], .fs true [.agg [vs ([116] : List UInt8), .fs true [.agg [vi (-1), vi 0, vi 1], .agg [vi (-1), vi 1, vi 3]], .fs true [vi 0], vi 0, nilS, vi 4], .agg [vs ([117] : List UInt8), nilS, .fs true [vi 0], vi 0, nilS, vi 1]], nilS, nilS, nilS]]⟩] := M109
 refine rd_nil ?_
 refine pn_seq ?_
 refine rc_seq ?_
 refine rc_region ?_
 refine rd_op (ov_load0 (k := 0) M109 rfl rfl rfl) ?_
 obtain ⟨y110, hw110, hres⟩ := let_ex hres
 have f110 := f16_ok (x1 := 0) (show api_Program.t.R ({ Name := ([] : List UInt8), Headers := ([] : List api_Header), Metadata := ([({ Name := ([105, 110] : List UInt8), Width := 8 } : api_Field), ({ Name := ([109] : List UInt8), Width := 4 } : api_Field)] : List api_Field), Registers := ([] : List api_Register), Actions := ([({ Name := ([110, 111, 112] : List UInt8), Params := ([] : List api_Field), Body := ([] : List api_Statement) } : api_Action)] : List api_Action), Tables := ([({ Name := ([116] : List UInt8), Keys := ([({ Field := ({ Header := (-1), Field := 0 } : api_FieldRef), Kind := 1 } : api_TableKey), ({ Field := ({ Header := (-1), Field := 1 } : api_FieldRef), Kind := 3 } : api_TableKey)] : List api_TableKey), Actions := ([0] : List Int), Default := ({ Action := 0, Args := ([] : List (BitVec 32)) } : api_ActionCall), Size := 4 } : api_Table), ({ Name := ([117] : List UInt8), Keys := ([] : List api_TableKey), Actions := ([0] : List Int), Default := ({ Action := 0, Args := ([] : List (BitVec 32)) } : api_ActionCall), Size := 1 } : api_Table)] : List api_Table), States := ([] : List api_ParserState), Control := ([] : List api_ControlNode), Deparser := ([] : List Int) } : api_Program) (.agg [vs [], nilS, .fs true [.agg [vs ([105, 110] : List UInt8), vi 8], .agg [vs ([109] : List UInt8), vi 4]], nilS, .fs true [.agg [vs ([110, 111, 112] : List UInt8), nilS, nilS]], .fs true [.agg [vs ([116] : List UInt8), .fs true [.agg [vi (-1), vi 0, vi 1], .agg [vi (-1), vi 1, vi 3]], .fs true [vi 0], vi 0, nilS, vi 4], .agg [vs ([117] : List UInt8), nilS, .fs true [vi 0], vi 0, nilS, vi 1]], nilS, nilS, nilS]) from ⟨nilS, (.fs true [.agg [vs ([105, 110] : List UInt8), vi 8], .agg [vs ([109] : List UInt8), vi 4]]), nilS, (.fs true [.agg [vs ([110, 111, 112] : List UInt8), nilS, nilS]]), (.fs true [.agg [vs ([116] : List UInt8), .fs true [.agg [vi (-1), vi 0, vi 1], .agg [vi (-1), vi 1, vi 3]], .fs true [vi 0], vi 0, nilS, vi 4], .agg [vs ([117] : List UInt8), nilS, .fs true [vi 0], vi 0, nilS, vi 1]]), nilS, nilS, nilS, rfl, sl_nil, r101, sl_nil, r102, r106, sl_nil, sl_nil, sl_nil⟩) 
 rw [hw110] at f110
 refine rd_call (cv_fn rfl rfl (clL_cons (TR.clo api_Program.t (show api_Program.t.R ({ Name := ([] : List UInt8), Headers := ([] : List api_Header), Metadata := ([({ Name := ([105, 110] : List UInt8), Width := 8 } : api_Field), ({ Name := ([109] : List UInt8), Width := 4 } : api_Field)] : List api_Field), Registers := ([] : List api_Register), Actions := ([({ Name := ([110, 111, 112] : List UInt8), Params := ([] : List api_Field), Body := ([] : List api_Statement) } : api_Action)] : List api_Action), Tables := ([({ Name := ([116] : List UInt8), Keys := ([({ Field := ({ Header := (-1), Field := 0 } : api_FieldRef), Kind := 1 } : api_TableKey), ({ Field := ({ Header := (-1), Field := 1 } : api_FieldRef), Kind := 3 } : api_TableKey)] : List api_TableKey), Actions := ([0] : List Int), Default := ({ Action := 0, Args := ([] : List (BitVec 32)) } : api_ActionCall), Size := 4 } : api_Table), ({ Name := ([117] : List UInt8), Keys := ([] : List api_TableKey), Actions := ([0] : List Int), Default := ({ Action := 0, Args := ([] : List (BitVec 32)) } : api_ActionCall), Size := 1 } : api_Table)] : List api_Table), States := ([] : List api_ParserState), Control := ([] : List api_ControlNode), Deparser := ([] : List Int) } : api_Program) (.agg [vs [], nilS, .fs true [.agg [vs ([105, 110] : List UInt8), vi 8], .agg [vs ([109] : List UInt8), vi 4]], nilS, .fs true [.agg [vs ([110, 111, 112] : List UInt8), nilS, nilS]], .fs true [.agg [vs ([116] : List UInt8), .fs true [.agg [vi (-1), vi 0, vi 1], .agg [vi (-1), vi 1, vi 3]], .fs true [vi 0], vi 0, nilS, vi 4], .agg [vs ([117] : List UInt8), nilS, .fs true [vi 0], vi 0, nilS, vi 1]], nilS, nilS, nilS]) from ⟨nilS, (.fs true [.agg [vs ([105, 110] : List UInt8), vi 8], .agg [vs ([109] : List UInt8), vi 4]]), nilS, (.fs true [.agg [vs ([110, 111, 112] : List UInt8), nilS, nilS]]), (.fs true [.agg [vs ([116] : List UInt8), .fs true [.agg [vi (-1), vi 0, vi 1], .agg [vi (-1), vi 1, vi 3]], .fs true [vi 0], vi 0, nilS, vi 4], .agg [vs ([117] : List UInt8), nilS, .fs true [vi 0], vi 0, nilS, vi 1]]), nilS, nilS, nilS, rfl, sl_nil, r101, sl_nil, r102, r106, sl_nil, sl_nil, sl_nil⟩)) (clL_cons rfl clL_nil)) f110) ?_
 refine rd_op (ov_move rfl) ?_
 refine rd_op (ov_extract rfl rfl) ?_
 refine rd_op (ov_extract rfl rfl) ?_
 refine rd_op (ov_move rfl) ?_
 refine rd_op (ov_move rfl) ?_
 refine rd_nil ?_
 refine pn_seq ?_
 refine rc_seq ?_
 refine rc_region ?_
 refine rd_op (ov_load0 (k := 0) M109 rfl rfl rfl) ?_
 obtain ⟨y111, hw111, hres⟩ := let_ex hres
 have f111 := f16_ok (x1 := 2) (show api_Program.t.R ({ Name := ([] : List UInt8), Headers := ([] : List api_Header), Metadata := ([({ Name := ([105, 110] : List UInt8), Width := 8 } : api_Field), ({ Name := ([109] : List UInt8), Width := 4 } : api_Field)] : List api_Field), Registers := ([] : List api_Register), Actions := ([({ Name := ([110, 111, 112] : List UInt8), Params := ([] : List api_Field), Body := ([] : List api_Statement) } : api_Action)] : List api_Action), Tables := ([({ Name := ([116] : List UInt8), Keys := ([({ Field := ({ Header := (-1), Field := 0 } : api_FieldRef), Kind := 1 } : api_TableKey), ({ Field := ({ Header := (-1), Field := 1 } : api_FieldRef), Kind := 3 } : api_TableKey)] : List api_TableKey), Actions := ([0] : List Int), Default := ({ Action := 0, Args := ([] : List (BitVec 32)) } : api_ActionCall), Size := 4 } : api_Table), ({ Name := ([117] : List UInt8), Keys := ([] : List api_TableKey), Actions := ([0] : List Int), Default := ({ Action := 0, Args := ([] : List (BitVec 32)) } : api_ActionCall), Size := 1 } : api_Table)] : List api_Table), States := ([] : List api_ParserState), Control := ([] : List api_ControlNode), Deparser := ([] : List Int) } : api_Program) (.agg [vs [], nilS, .fs true [.agg [vs ([105, 110] : List UInt8), vi 8], .agg [vs ([109] : List UInt8), vi 4]], nilS, .fs true [.agg [vs ([110, 111, 112] : List UInt8), nilS, nilS]], .fs true [.agg [vs ([116] : List UInt8), .fs true [.agg [vi (-1), vi 0, vi 1], .agg [vi (-1), vi 1, vi 3]], .fs true [vi 0], vi 0, nilS, vi 4], .agg [vs ([117] : List UInt8), nilS, .fs true [vi 0], vi 0, nilS, vi 1]], nilS, nilS, nilS]) from ⟨nilS, (.fs true [.agg [vs ([105, 110] : List UInt8), vi 8], .agg [vs ([109] : List UInt8), vi 4]]), nilS, (.fs true [.agg [vs ([110, 111, 112] : List UInt8), nilS, nilS]]), (.fs true [.agg [vs ([116] : List UInt8), .fs true [.agg [vi (-1), vi 0, vi 1], .agg [vi (-1), vi 1, vi 3]], .fs true [vi 0], vi 0, nilS, vi 4], .agg [vs ([117] : List UInt8), nilS, .fs true [vi 0], vi 0, nilS, vi 1]]), nilS, nilS, nilS, rfl, sl_nil, r101, sl_nil, r102, r106, sl_nil, sl_nil, sl_nil⟩) 
 rw [hw111] at f111
 refine rd_call (cv_fn rfl rfl (clL_cons (TR.clo api_Program.t (show api_Program.t.R ({ Name := ([] : List UInt8), Headers := ([] : List api_Header), Metadata := ([({ Name := ([105, 110] : List UInt8), Width := 8 } : api_Field), ({ Name := ([109] : List UInt8), Width := 4 } : api_Field)] : List api_Field), Registers := ([] : List api_Register), Actions := ([({ Name := ([110, 111, 112] : List UInt8), Params := ([] : List api_Field), Body := ([] : List api_Statement) } : api_Action)] : List api_Action), Tables := ([({ Name := ([116] : List UInt8), Keys := ([({ Field := ({ Header := (-1), Field := 0 } : api_FieldRef), Kind := 1 } : api_TableKey), ({ Field := ({ Header := (-1), Field := 1 } : api_FieldRef), Kind := 3 } : api_TableKey)] : List api_TableKey), Actions := ([0] : List Int), Default := ({ Action := 0, Args := ([] : List (BitVec 32)) } : api_ActionCall), Size := 4 } : api_Table), ({ Name := ([117] : List UInt8), Keys := ([] : List api_TableKey), Actions := ([0] : List Int), Default := ({ Action := 0, Args := ([] : List (BitVec 32)) } : api_ActionCall), Size := 1 } : api_Table)] : List api_Table), States := ([] : List api_ParserState), Control := ([] : List api_ControlNode), Deparser := ([] : List Int) } : api_Program) (.agg [vs [], nilS, .fs true [.agg [vs ([105, 110] : List UInt8), vi 8], .agg [vs ([109] : List UInt8), vi 4]], nilS, .fs true [.agg [vs ([110, 111, 112] : List UInt8), nilS, nilS]], .fs true [.agg [vs ([116] : List UInt8), .fs true [.agg [vi (-1), vi 0, vi 1], .agg [vi (-1), vi 1, vi 3]], .fs true [vi 0], vi 0, nilS, vi 4], .agg [vs ([117] : List UInt8), nilS, .fs true [vi 0], vi 0, nilS, vi 1]], nilS, nilS, nilS]) from ⟨nilS, (.fs true [.agg [vs ([105, 110] : List UInt8), vi 8], .agg [vs ([109] : List UInt8), vi 4]]), nilS, (.fs true [.agg [vs ([110, 111, 112] : List UInt8), nilS, nilS]]), (.fs true [.agg [vs ([116] : List UInt8), .fs true [.agg [vi (-1), vi 0, vi 1], .agg [vi (-1), vi 1, vi 3]], .fs true [vi 0], vi 0, nilS, vi 4], .agg [vs ([117] : List UInt8), nilS, .fs true [vi 0], vi 0, nilS, vi 1]]), nilS, nilS, nilS, rfl, sl_nil, r101, sl_nil, r102, r106, sl_nil, sl_nil, sl_nil⟩)) (clL_cons rfl clL_nil)) f111) ?_
 refine rd_op (ov_move rfl) ?_
 refine rd_op (ov_extract rfl rfl) ?_
 refine rd_op (ov_extract rfl rfl) ?_
 refine rd_op (ov_move rfl) ?_
 refine rd_op (ov_move rfl) ?_
 refine rd_nil ?_
 refine pn_seq ?_
 refine rc_seq ?_
 refine rc_region ?_
 refine rd_op (ov_move rfl) ?_
 refine rd_op (ov_bin rfl rfl i_eql) ?_
 refine rd_op (ov_move rfl) ?_
 refine rd_cut (d := 37) (v := vb ((decide (y110.1 = 0)) && (decide (y110.2 = 0)))) ?_ ?_
 ·intro S Q r
  simp only [ac15_G1, List.cons_append, List.nil_append, List.append_assoc]
  cases hb112 : (decide (y110.1 = 0))
  ·intro k
   refine rd_skip rfl rfl ?_
   refine rd_skip rfl rfl ?_
   refine rd_op (v := vb false) (ov_pick rfl rfl rfl rfl) ?_
   exact rd_weak (sub_cons rfl (sub_skip rfl (sub_skip rfl (sub_skip rfl (sub_refl _))))) k
  ·intro k
   have hb112' := hb112
   try simp only [qa1, qa2, qa3, qa4, qa5, qa6, qa7, qa8, qa9, qaA, qaB, qaC, qaD] at hb112'
   refine rd_yes rfl rfl (ov_move rfl) ?_
   refine rd_yes rfl rfl (ov_bin rfl rfl i_eql) ?_
   refine rd_op (v := vb (decide (y110.2 = 0))) (ov_pick rfl rfl rfl rfl) ?_
   exact rd_weak (sub_cons rfl (sub_skip rfl (sub_skip rfl (sub_skip rfl (sub_refl _))))) k
 refine rd_op (ov_move rfl) ?_
 refine rd_cut (d := 41) (v := vb (((decide (y110.1 = 0)) && (decide (y110.2 = 0))) && (decide (y111.2 = 8)))) ?_ ?_
 ·intro S Q r
  simp only [ac15_G2, List.cons_append, List.nil_append, List.append_assoc]
  cases hb113 : ((decide (y110.1 = 0)) && (decide (y110.2 = 0)))
  ·intro k
   refine rd_skip rfl rfl ?_
   refine rd_skip rfl rfl ?_
   refine rd_op (v := vb false) (ov_pick rfl rfl rfl rfl) ?_
   exact rd_weak (sub_cons rfl (sub_skip rfl (sub_skip rfl (sub_skip rfl (sub_refl _))))) k
  ·intro k
   have hb113' := hb113
   try simp only [qa1, qa2, qa3, qa4, qa5, qa6, qa7, qa8, qa9, qaA, qaB, qaC, qaD] at hb113'
   refine rd_yes rfl rfl (ov_move rfl) ?_
   refine rd_yes rfl rfl (ov_bin rfl rfl i_eql) ?_
   refine rd_op (v := vb (decide (y111.2 = 8))) (ov_pick rfl rfl rfl rfl) ?_
   exact rd_weak (sub_cons rfl (sub_skip rfl (sub_skip rfl (sub_skip rfl (sub_refl _))))) k
 refine rd_op (ov_move rfl) ?_
 refine rd_cut (d := 46) (v := vb ((((decide (y110.1 = 0)) && (decide (y110.2 = 0))) && (decide (y111.2 = 8))) && (decide ((table_Kind ({ Name := ([] : List UInt8), Headers := ([] : List api_Header), Metadata := ([({ Name := ([105, 110] : List UInt8), Width := 8 } : api_Field), ({ Name := ([109] : List UInt8), Width := 4 } : api_Field)] : List api_Field), Registers := ([] : List api_Register), Actions := ([({ Name := ([110, 111, 112] : List UInt8), Params := ([] : List api_Field), Body := ([] : List api_Statement) } : api_Action)] : List api_Action), Tables := ([({ Name := ([116] : List UInt8), Keys := ([({ Field := ({ Header := (-1), Field := 0 } : api_FieldRef), Kind := 1 } : api_TableKey), ({ Field := ({ Header := (-1), Field := 1 } : api_FieldRef), Kind := 3 } : api_TableKey)] : List api_TableKey), Actions := ([0] : List Int), Default := ({ Action := 0, Args := ([] : List (BitVec 32)) } : api_ActionCall), Size := 4 } : api_Table), ({ Name := ([117] : List UInt8), Keys := ([] : List api_TableKey), Actions := ([0] : List Int), Default := ({ Action := 0, Args := ([] : List (BitVec 32)) } : api_ActionCall), Size := 1 } : api_Table)] : List api_Table), States := ([] : List api_ParserState), Control := ([] : List api_ControlNode), Deparser := ([] : List Int) } : api_Program) 0) = 3)))) ?_ ?_
 ·intro S Q r
  simp only [ac15_G3, List.cons_append, List.nil_append, List.append_assoc]
  cases hb114 : (((decide (y110.1 = 0)) && (decide (y110.2 = 0))) && (decide (y111.2 = 8)))
  ·intro k
   refine rd_skip rfl rfl ?_
   refine rd_skip rfl rfl ?_
   refine rd_skip rfl rfl ?_
   refine rd_op (v := vb false) (ov_pick rfl rfl rfl rfl) ?_
   exact rd_weak (sub_cons rfl (sub_skip rfl (sub_skip rfl (sub_skip rfl (sub_skip rfl (sub_refl _)))))) k
  ·intro k
   have hb114' := hb114
   try simp only [qa1, qa2, qa3, qa4, qa5, qa6, qa7, qa8, qa9, qaA, qaB, qaC, qaD] at hb114'
   refine rd_yes rfl rfl (ov_load0 (k := 0) M109 rfl rfl rfl) ?_
   have f115 := f18_ok (x1 := 0) (show api_Program.t.R ({ Name := ([] : List UInt8), Headers := ([] : List api_Header), Metadata := ([({ Name := ([105, 110] : List UInt8), Width := 8 } : api_Field), ({ Name := ([109] : List UInt8), Width := 4 } : api_Field)] : List api_Field), Registers := ([] : List api_Register), Actions := ([({ Name := ([110, 111, 112] : List UInt8), Params := ([] : List api_Field), Body := ([] : List api_Statement) } : api_Action)] : List api_Action), Tables := ([({ Name := ([116] : List UInt8), Keys := ([({ Field := ({ Header := (-1), Field := 0 } : api_FieldRef), Kind := 1 } : api_TableKey), ({ Field := ({ Header := (-1), Field := 1 } : api_FieldRef), Kind := 3 } : api_TableKey)] : List api_TableKey), Actions := ([0] : List Int), Default := ({ Action := 0, Args := ([] : List (BitVec 32)) } : api_ActionCall), Size := 4 } : api_Table), ({ Name := ([117] : List UInt8), Keys := ([] : List api_TableKey), Actions := ([0] : List Int), Default := ({ Action := 0, Args := ([] : List (BitVec 32)) } : api_ActionCall), Size := 1 } : api_Table)] : List api_Table), States := ([] : List api_ParserState), Control := ([] : List api_ControlNode), Deparser := ([] : List Int) } : api_Program) (.agg [vs [], nilS, .fs true [.agg [vs ([105, 110] : List UInt8), vi 8], .agg [vs ([109] : List UInt8), vi 4]], nilS, .fs true [.agg [vs ([110, 111, 112] : List UInt8), nilS, nilS]], .fs true [.agg [vs ([116] : List UInt8), .fs true [.agg [vi (-1), vi 0, vi 1], .agg [vi (-1), vi 1, vi 3]], .fs true [vi 0], vi 0, nilS, vi 4], .agg [vs ([117] : List UInt8), nilS, .fs true [vi 0], vi 0, nilS, vi 1]], nilS, nilS, nilS]) from ⟨nilS, (.fs true [.agg [vs ([105, 110] : List UInt8), vi 8], .agg [vs ([109] : List UInt8), vi 4]]), nilS, (.fs true [.agg [vs ([110, 111, 112] : List UInt8), nilS, nilS]]), (.fs true [.agg [vs ([116] : List UInt8), .fs true [.agg [vi (-1), vi 0, vi 1], .agg [vi (-1), vi 1, vi 3]], .fs true [vi 0], vi 0, nilS, vi 4], .agg [vs ([117] : List UInt8), nilS, .fs true [vi 0], vi 0, nilS, vi 1]]), nilS, nilS, nilS, rfl, sl_nil, r101, sl_nil, r102, r106, sl_nil, sl_nil, sl_nil⟩) 
   refine rd_ycall rfl rfl (cv_fn rfl rfl (clL_cons (TR.clo api_Program.t (show api_Program.t.R ({ Name := ([] : List UInt8), Headers := ([] : List api_Header), Metadata := ([({ Name := ([105, 110] : List UInt8), Width := 8 } : api_Field), ({ Name := ([109] : List UInt8), Width := 4 } : api_Field)] : List api_Field), Registers := ([] : List api_Register), Actions := ([({ Name := ([110, 111, 112] : List UInt8), Params := ([] : List api_Field), Body := ([] : List api_Statement) } : api_Action)] : List api_Action), Tables := ([({ Name := ([116] : List UInt8), Keys := ([({ Field := ({ Header := (-1), Field := 0 } : api_FieldRef), Kind := 1 } : api_TableKey), ({ Field := ({ Header := (-1), Field := 1 } : api_FieldRef), Kind := 3 } : api_TableKey)] : List api_TableKey), Actions := ([0] : List Int), Default := ({ Action := 0, Args := ([] : List (BitVec 32)) } : api_ActionCall), Size := 4 } : api_Table), ({ Name := ([117] : List UInt8), Keys := ([] : List api_TableKey), Actions := ([0] : List Int), Default := ({ Action := 0, Args := ([] : List (BitVec 32)) } : api_ActionCall), Size := 1 } : api_Table)] : List api_Table), States := ([] : List api_ParserState), Control := ([] : List api_ControlNode), Deparser := ([] : List Int) } : api_Program) (.agg [vs [], nilS, .fs true [.agg [vs ([105, 110] : List UInt8), vi 8], .agg [vs ([109] : List UInt8), vi 4]], nilS, .fs true [.agg [vs ([110, 111, 112] : List UInt8), nilS, nilS]], .fs true [.agg [vs ([116] : List UInt8), .fs true [.agg [vi (-1), vi 0, vi 1], .agg [vi (-1), vi 1, vi 3]], .fs true [vi 0], vi 0, nilS, vi 4], .agg [vs ([117] : List UInt8), nilS, .fs true [vi 0], vi 0, nilS, vi 1]], nilS, nilS, nilS]) from ⟨nilS, (.fs true [.agg [vs ([105, 110] : List UInt8), vi 8], .agg [vs ([109] : List UInt8), vi 4]]), nilS, (.fs true [.agg [vs ([110, 111, 112] : List UInt8), nilS, nilS]]), (.fs true [.agg [vs ([116] : List UInt8), .fs true [.agg [vi (-1), vi 0, vi 1], .agg [vi (-1), vi 1, vi 3]], .fs true [vi 0], vi 0, nilS, vi 4], .agg [vs ([117] : List UInt8), nilS, .fs true [vi 0], vi 0, nilS, vi 1]]), nilS, nilS, nilS, rfl, sl_nil, r101, sl_nil, r102, r106, sl_nil, sl_nil, sl_nil⟩)) (clL_cons rfl clL_nil)) f115) ?_
   refine rd_yes rfl rfl (ov_bin rfl rfl i_eql) ?_
   refine rd_op (v := vb (decide ((table_Kind ({ Name := ([] : List UInt8), Headers := ([] : List api_Header), Metadata := ([({ Name := ([105, 110] : List UInt8), Width := 8 } : api_Field), ({ Name := ([109] : List UInt8), Width := 4 } : api_Field)] : List api_Field), Registers := ([] : List api_Register), Actions := ([({ Name := ([110, 111, 112] : List UInt8), Params := ([] : List api_Field), Body := ([] : List api_Statement) } : api_Action)] : List api_Action), Tables := ([({ Name := ([116] : List UInt8), Keys := ([({ Field := ({ Header := (-1), Field := 0 } : api_FieldRef), Kind := 1 } : api_TableKey), ({ Field := ({ Header := (-1), Field := 1 } : api_FieldRef), Kind := 3 } : api_TableKey)] : List api_TableKey), Actions := ([0] : List Int), Default := ({ Action := 0, Args := ([] : List (BitVec 32)) } : api_ActionCall), Size := 4 } : api_Table), ({ Name := ([117] : List UInt8), Keys := ([] : List api_TableKey), Actions := ([0] : List Int), Default := ({ Action := 0, Args := ([] : List (BitVec 32)) } : api_ActionCall), Size := 1 } : api_Table)] : List api_Table), States := ([] : List api_ParserState), Control := ([] : List api_ControlNode), Deparser := ([] : List Int) } : api_Program) 0) = 3))) (ov_pick rfl rfl rfl rfl) ?_
   exact rd_weak (sub_cons rfl (sub_skip rfl (sub_skip rfl (sub_skip rfl (sub_skip rfl (sub_refl _)))))) k
 refine rd_op (ov_move rfl) ?_
 refine rd_cut (d := 51) (v := vb (((((decide (y110.1 = 0)) && (decide (y110.2 = 0))) && (decide (y111.2 = 8))) && (decide ((table_Kind ({ Name := ([] : List UInt8), Headers := ([] : List api_Header), Metadata := ([({ Name := ([105, 110] : List UInt8), Width := 8 } : api_Field), ({ Name := ([109] : List UInt8), Width := 4 } : api_Field)] : List api_Field), Registers := ([] : List api_Register), Actions := ([({ Name := ([110, 111, 112] : List UInt8), Params := ([] : List api_Field), Body := ([] : List api_Statement) } : api_Action)] : List api_Action), Tables := ([({ Name := ([116] : List UInt8), Keys := ([({ Field := ({ Header := (-1), Field := 0 } : api_FieldRef), Kind := 1 } : api_TableKey), ({ Field := ({ Header := (-1), Field := 1 } : api_FieldRef), Kind := 3 } : api_TableKey)] : List api_TableKey), Actions := ([0] : List Int), Default := ({ Action := 0, Args := ([] : List (BitVec 32)) } : api_ActionCall), Size := 4 } : api_Table), ({ Name := ([117] : List UInt8), Keys := ([] : List api_TableKey), Actions := ([0] : List Int), Default := ({ Action := 0, Args := ([] : List (BitVec 32)) } : api_ActionCall), Size := 1 } : api_Table)] : List api_Table), States := ([] : List api_ParserState), Control := ([] : List api_ControlNode), Deparser := ([] : List Int) } : api_Program) 0) = 3))) && (decide ((table_Bits ({ Name := ([] : List UInt8), Headers := ([] : List api_Header), Metadata := ([({ Name := ([105, 110] : List UInt8), Width := 8 } : api_Field), ({ Name := ([109] : List UInt8), Width := 4 } : api_Field)] : List api_Field), Registers := ([] : List api_Register), Actions := ([({ Name := ([110, 111, 112] : List UInt8), Params := ([] : List api_Field), Body := ([] : List api_Statement) } : api_Action)] : List api_Action), Tables := ([({ Name := ([116] : List UInt8), Keys := ([({ Field := ({ Header := (-1), Field := 0 } : api_FieldRef), Kind := 1 } : api_TableKey), ({ Field := ({ Header := (-1), Field := 1 } : api_FieldRef), Kind := 3 } : api_TableKey)] : List api_TableKey), Actions := ([0] : List Int), Default := ({ Action := 0, Args := ([] : List (BitVec 32)) } : api_ActionCall), Size := 4 } : api_Table), ({ Name := ([117] : List UInt8), Keys := ([] : List api_TableKey), Actions := ([0] : List Int), Default := ({ Action := 0, Args := ([] : List (BitVec 32)) } : api_ActionCall), Size := 1 } : api_Table)] : List api_Table), States := ([] : List api_ParserState), Control := ([] : List api_ControlNode), Deparser := ([] : List Int) } : api_Program) 0) = 12)))) ?_ ?_
 ·intro S Q r
  simp only [ac15_G4, List.cons_append, List.nil_append, List.append_assoc]
  cases hb116 : ((((decide (y110.1 = 0)) && (decide (y110.2 = 0))) && (decide (y111.2 = 8))) && (decide ((table_Kind ({ Name := ([] : List UInt8), Headers := ([] : List api_Header), Metadata := ([({ Name := ([105, 110] : List UInt8), Width := 8 } : api_Field), ({ Name := ([109] : List UInt8), Width := 4 } : api_Field)] : List api_Field), Registers := ([] : List api_Register), Actions := ([({ Name := ([110, 111, 112] : List UInt8), Params := ([] : List api_Field), Body := ([] : List api_Statement) } : api_Action)] : List api_Action), Tables := ([({ Name := ([116] : List UInt8), Keys := ([({ Field := ({ Header := (-1), Field := 0 } : api_FieldRef), Kind := 1 } : api_TableKey), ({ Field := ({ Header := (-1), Field := 1 } : api_FieldRef), Kind := 3 } : api_TableKey)] : List api_TableKey), Actions := ([0] : List Int), Default := ({ Action := 0, Args := ([] : List (BitVec 32)) } : api_ActionCall), Size := 4 } : api_Table), ({ Name := ([117] : List UInt8), Keys := ([] : List api_TableKey), Actions := ([0] : List Int), Default := ({ Action := 0, Args := ([] : List (BitVec 32)) } : api_ActionCall), Size := 1 } : api_Table)] : List api_Table), States := ([] : List api_ParserState), Control := ([] : List api_ControlNode), Deparser := ([] : List Int) } : api_Program) 0) = 3)))
  ·intro k
   refine rd_skip rfl rfl ?_
   refine rd_skip rfl rfl ?_
   refine rd_skip rfl rfl ?_
   refine rd_op (v := vb false) (ov_pick rfl rfl rfl rfl) ?_
   exact rd_weak (sub_cons rfl (sub_skip rfl (sub_skip rfl (sub_skip rfl (sub_skip rfl (sub_refl _)))))) k
  ·intro k
   have hb116' := hb116
   try simp only [qa1, qa2, qa3, qa4, qa5, qa6, qa7, qa8, qa9, qaA, qaB, qaC, qaD] at hb116'
   refine rd_yes rfl rfl (ov_load0 (k := 0) M109 rfl rfl rfl) ?_
   have f117 := f23_ok (x1 := 0) (show api_Program.t.R ({ Name := ([] : List UInt8), Headers := ([] : List api_Header), Metadata := ([({ Name := ([105, 110] : List UInt8), Width := 8 } : api_Field), ({ Name := ([109] : List UInt8), Width := 4 } : api_Field)] : List api_Field), Registers := ([] : List api_Register), Actions := ([({ Name := ([110, 111, 112] : List UInt8), Params := ([] : List api_Field), Body := ([] : List api_Statement) } : api_Action)] : List api_Action), Tables := ([({ Name := ([116] : List UInt8), Keys := ([({ Field := ({ Header := (-1), Field := 0 } : api_FieldRef), Kind := 1 } : api_TableKey), ({ Field := ({ Header := (-1), Field := 1 } : api_FieldRef), Kind := 3 } : api_TableKey)] : List api_TableKey), Actions := ([0] : List Int), Default := ({ Action := 0, Args := ([] : List (BitVec 32)) } : api_ActionCall), Size := 4 } : api_Table), ({ Name := ([117] : List UInt8), Keys := ([] : List api_TableKey), Actions := ([0] : List Int), Default := ({ Action := 0, Args := ([] : List (BitVec 32)) } : api_ActionCall), Size := 1 } : api_Table)] : List api_Table), States := ([] : List api_ParserState), Control := ([] : List api_ControlNode), Deparser := ([] : List Int) } : api_Program) (.agg [vs [], nilS, .fs true [.agg [vs ([105, 110] : List UInt8), vi 8], .agg [vs ([109] : List UInt8), vi 4]], nilS, .fs true [.agg [vs ([110, 111, 112] : List UInt8), nilS, nilS]], .fs true [.agg [vs ([116] : List UInt8), .fs true [.agg [vi (-1), vi 0, vi 1], .agg [vi (-1), vi 1, vi 3]], .fs true [vi 0], vi 0, nilS, vi 4], .agg [vs ([117] : List UInt8), nilS, .fs true [vi 0], vi 0, nilS, vi 1]], nilS, nilS, nilS]) from ⟨nilS, (.fs true [.agg [vs ([105, 110] : List UInt8), vi 8], .agg [vs ([109] : List UInt8), vi 4]]), nilS, (.fs true [.agg [vs ([110, 111, 112] : List UInt8), nilS, nilS]]), (.fs true [.agg [vs ([116] : List UInt8), .fs true [.agg [vi (-1), vi 0, vi 1], .agg [vi (-1), vi 1, vi 3]], .fs true [vi 0], vi 0, nilS, vi 4], .agg [vs ([117] : List UInt8), nilS, .fs true [vi 0], vi 0, nilS, vi 1]]), nilS, nilS, nilS, rfl, sl_nil, r101, sl_nil, r102, r106, sl_nil, sl_nil, sl_nil⟩) 
   refine rd_ycall rfl rfl (cv_fn rfl rfl (clL_cons (TR.clo api_Program.t (show api_Program.t.R ({ Name := ([] : List UInt8), Headers := ([] : List api_Header), Metadata := ([({ Name := ([105, 110] : List UInt8), Width := 8 } : api_Field), ({ Name := ([109] : List UInt8), Width := 4 } : api_Field)] : List api_Field), Registers := ([] : List api_Register), Actions := ([({ Name := ([110, 111, 112] : List UInt8), Params := ([] : List api_Field), Body := ([] : List api_Statement) } : api_Action)] : List api_Action), Tables := ([({ Name := ([116] : List UInt8), Keys := ([({ Field := ({ Header := (-1), Field := 0 } : api_FieldRef), Kind := 1 } : api_TableKey), ({ Field := ({ Header := (-1), Field := 1 } : api_FieldRef), Kind := 3 } : api_TableKey)] : List api_TableKey), Actions := ([0] : List Int), Default := ({ Action := 0, Args := ([] : List (BitVec 32)) } : api_ActionCall), Size := 4 } : api_Table), ({ Name := ([117] : List UInt8), Keys := ([] : List api_TableKey), Actions := ([0] : List Int), Default := ({ Action := 0, Args := ([] : List (BitVec 32)) } : api_ActionCall), Size := 1 } : api_Table)] : List api_Table), States := ([] : List api_ParserState), Control := ([] : List api_ControlNode), Deparser := ([] : List Int) } : api_Program) (.agg [vs [], nilS, .fs true [.agg [vs ([105, 110] : List UInt8), vi 8], .agg [vs ([109] : List UInt8), vi 4]], nilS, .fs true [.agg [vs ([110, 111, 112] : List UInt8), nilS, nilS]], .fs true [.agg [vs ([116] : List UInt8), .fs true [.agg [vi (-1), vi 0, vi 1], .agg [vi (-1), vi 1, vi 3]], .fs true [vi 0], vi 0, nilS, vi 4], .agg [vs ([117] : List UInt8), nilS, .fs true [vi 0], vi 0, nilS, vi 1]], nilS, nilS, nilS]) from ⟨nilS, (.fs true [.agg [vs ([105, 110] : List UInt8), vi 8], .agg [vs ([109] : List UInt8), vi 4]]), nilS, (.fs true [.agg [vs ([110, 111, 112] : List UInt8), nilS, nilS]]), (.fs true [.agg [vs ([116] : List UInt8), .fs true [.agg [vi (-1), vi 0, vi 1], .agg [vi (-1), vi 1, vi 3]], .fs true [vi 0], vi 0, nilS, vi 4], .agg [vs ([117] : List UInt8), nilS, .fs true [vi 0], vi 0, nilS, vi 1]]), nilS, nilS, nilS, rfl, sl_nil, r101, sl_nil, r102, r106, sl_nil, sl_nil, sl_nil⟩)) (clL_cons rfl clL_nil)) f117) ?_
   refine rd_yes rfl rfl (ov_bin rfl rfl i_eql) ?_
   refine rd_op (v := vb (decide ((table_Bits ({ Name := ([] : List UInt8), Headers := ([] : List api_Header), Metadata := ([({ Name := ([105, 110] : List UInt8), Width := 8 } : api_Field), ({ Name := ([109] : List UInt8), Width := 4 } : api_Field)] : List api_Field), Registers := ([] : List api_Register), Actions := ([({ Name := ([110, 111, 112] : List UInt8), Params := ([] : List api_Field), Body := ([] : List api_Statement) } : api_Action)] : List api_Action), Tables := ([({ Name := ([116] : List UInt8), Keys := ([({ Field := ({ Header := (-1), Field := 0 } : api_FieldRef), Kind := 1 } : api_TableKey), ({ Field := ({ Header := (-1), Field := 1 } : api_FieldRef), Kind := 3 } : api_TableKey)] : List api_TableKey), Actions := ([0] : List Int), Default := ({ Action := 0, Args := ([] : List (BitVec 32)) } : api_ActionCall), Size := 4 } : api_Table), ({ Name := ([117] : List UInt8), Keys := ([] : List api_TableKey), Actions := ([0] : List Int), Default := ({ Action := 0, Args := ([] : List (BitVec 32)) } : api_ActionCall), Size := 1 } : api_Table)] : List api_Table), States := ([] : List api_ParserState), Control := ([] : List api_ControlNode), Deparser := ([] : List Int) } : api_Program) 0) = 12))) (ov_pick rfl rfl rfl rfl) ?_
   exact rd_weak (sub_cons rfl (sub_skip rfl (sub_skip rfl (sub_skip rfl (sub_skip rfl (sub_refl _)))))) k
 refine rd_op (ov_move rfl) ?_
 refine rd_cut (d := 56) (v := vb ((((((decide (y110.1 = 0)) && (decide (y110.2 = 0))) && (decide (y111.2 = 8))) && (decide ((table_Kind ({ Name := ([] : List UInt8), Headers := ([] : List api_Header), Metadata := ([({ Name := ([105, 110] : List UInt8), Width := 8 } : api_Field), ({ Name := ([109] : List UInt8), Width := 4 } : api_Field)] : List api_Field), Registers := ([] : List api_Register), Actions := ([({ Name := ([110, 111, 112] : List UInt8), Params := ([] : List api_Field), Body := ([] : List api_Statement) } : api_Action)] : List api_Action), Tables := ([({ Name := ([116] : List UInt8), Keys := ([({ Field := ({ Header := (-1), Field := 0 } : api_FieldRef), Kind := 1 } : api_TableKey), ({ Field := ({ Header := (-1), Field := 1 } : api_FieldRef), Kind := 3 } : api_TableKey)] : List api_TableKey), Actions := ([0] : List Int), Default := ({ Action := 0, Args := ([] : List (BitVec 32)) } : api_ActionCall), Size := 4 } : api_Table), ({ Name := ([117] : List UInt8), Keys := ([] : List api_TableKey), Actions := ([0] : List Int), Default := ({ Action := 0, Args := ([] : List (BitVec 32)) } : api_ActionCall), Size := 1 } : api_Table)] : List api_Table), States := ([] : List api_ParserState), Control := ([] : List api_ControlNode), Deparser := ([] : List Int) } : api_Program) 0) = 3))) && (decide ((table_Bits ({ Name := ([] : List UInt8), Headers := ([] : List api_Header), Metadata := ([({ Name := ([105, 110] : List UInt8), Width := 8 } : api_Field), ({ Name := ([109] : List UInt8), Width := 4 } : api_Field)] : List api_Field), Registers := ([] : List api_Register), Actions := ([({ Name := ([110, 111, 112] : List UInt8), Params := ([] : List api_Field), Body := ([] : List api_Statement) } : api_Action)] : List api_Action), Tables := ([({ Name := ([116] : List UInt8), Keys := ([({ Field := ({ Header := (-1), Field := 0 } : api_FieldRef), Kind := 1 } : api_TableKey), ({ Field := ({ Header := (-1), Field := 1 } : api_FieldRef), Kind := 3 } : api_TableKey)] : List api_TableKey), Actions := ([0] : List Int), Default := ({ Action := 0, Args := ([] : List (BitVec 32)) } : api_ActionCall), Size := 4 } : api_Table), ({ Name := ([117] : List UInt8), Keys := ([] : List api_TableKey), Actions := ([0] : List Int), Default := ({ Action := 0, Args := ([] : List (BitVec 32)) } : api_ActionCall), Size := 1 } : api_Table)] : List api_Table), States := ([] : List api_ParserState), Control := ([] : List api_ControlNode), Deparser := ([] : List Int) } : api_Program) 0) = 12))) && (decide ((table_Kind ({ Name := ([] : List UInt8), Headers := ([] : List api_Header), Metadata := ([({ Name := ([105, 110] : List UInt8), Width := 8 } : api_Field), ({ Name := ([109] : List UInt8), Width := 4 } : api_Field)] : List api_Field), Registers := ([] : List api_Register), Actions := ([({ Name := ([110, 111, 112] : List UInt8), Params := ([] : List api_Field), Body := ([] : List api_Statement) } : api_Action)] : List api_Action), Tables := ([({ Name := ([116] : List UInt8), Keys := ([({ Field := ({ Header := (-1), Field := 0 } : api_FieldRef), Kind := 1 } : api_TableKey), ({ Field := ({ Header := (-1), Field := 1 } : api_FieldRef), Kind := 3 } : api_TableKey)] : List api_TableKey), Actions := ([0] : List Int), Default := ({ Action := 0, Args := ([] : List (BitVec 32)) } : api_ActionCall), Size := 4 } : api_Table), ({ Name := ([117] : List UInt8), Keys := ([] : List api_TableKey), Actions := ([0] : List Int), Default := ({ Action := 0, Args := ([] : List (BitVec 32)) } : api_ActionCall), Size := 1 } : api_Table)] : List api_Table), States := ([] : List api_ParserState), Control := ([] : List api_ControlNode), Deparser := ([] : List Int) } : api_Program) 1) = 1)))) ?_ ?_
 ·intro S Q r
  simp only [ac15_G5, List.cons_append, List.nil_append, List.append_assoc]
  cases hb118 : (((((decide (y110.1 = 0)) && (decide (y110.2 = 0))) && (decide (y111.2 = 8))) && (decide ((table_Kind ({ Name := ([] : List UInt8), Headers := ([] : List api_Header), Metadata := ([({ Name := ([105, 110] : List UInt8), Width := 8 } : api_Field), ({ Name := ([109] : List UInt8), Width := 4 } : api_Field)] : List api_Field), Registers := ([] : List api_Register), Actions := ([({ Name := ([110, 111, 112] : List UInt8), Params := ([] : List api_Field), Body := ([] : List api_Statement) } : api_Action)] : List api_Action), Tables := ([({ Name := ([116] : List UInt8), Keys := ([({ Field := ({ Header := (-1), Field := 0 } : api_FieldRef), Kind := 1 } : api_TableKey), ({ Field := ({ Header := (-1), Field := 1 } : api_FieldRef), Kind := 3 } : api_TableKey)] : List api_TableKey), Actions := ([0] : List Int), Default := ({ Action := 0, Args := ([] : List (BitVec 32)) } : api_ActionCall), Size := 4 } : api_Table), ({ Name := ([117] : List UInt8), Keys := ([] : List api_TableKey), Actions := ([0] : List Int), Default := ({ Action := 0, Args := ([] : List (BitVec 32)) } : api_ActionCall), Size := 1 } : api_Table)] : List api_Table), States := ([] : List api_ParserState), Control := ([] : List api_ControlNode), Deparser := ([] : List Int) } : api_Program) 0) = 3))) && (decide ((table_Bits ({ Name := ([] : List UInt8), Headers := ([] : List api_Header), Metadata := ([({ Name := ([105, 110] : List UInt8), Width := 8 } : api_Field), ({ Name := ([109] : List UInt8), Width := 4 } : api_Field)] : List api_Field), Registers := ([] : List api_Register), Actions := ([({ Name := ([110, 111, 112] : List UInt8), Params := ([] : List api_Field), Body := ([] : List api_Statement) } : api_Action)] : List api_Action), Tables := ([({ Name := ([116] : List UInt8), Keys := ([({ Field := ({ Header := (-1), Field := 0 } : api_FieldRef), Kind := 1 } : api_TableKey), ({ Field := ({ Header := (-1), Field := 1 } : api_FieldRef), Kind := 3 } : api_TableKey)] : List api_TableKey), Actions := ([0] : List Int), Default := ({ Action := 0, Args := ([] : List (BitVec 32)) } : api_ActionCall), Size := 4 } : api_Table), ({ Name := ([117] : List UInt8), Keys := ([] : List api_TableKey), Actions := ([0] : List Int), Default := ({ Action := 0, Args := ([] : List (BitVec 32)) } : api_ActionCall), Size := 1 } : api_Table)] : List api_Table), States := ([] : List api_ParserState), Control := ([] : List api_ControlNode), Deparser := ([] : List Int) } : api_Program) 0) = 12)))
  ·intro k
   refine rd_skip rfl rfl ?_
   refine rd_skip rfl rfl ?_
   refine rd_skip rfl rfl ?_
   refine rd_op (v := vb false) (ov_pick rfl rfl rfl rfl) ?_
   exact rd_weak (sub_cons rfl (sub_skip rfl (sub_skip rfl (sub_skip rfl (sub_skip rfl (sub_refl _)))))) k
  ·intro k
   have hb118' := hb118
   try simp only [qa1, qa2, qa3, qa4, qa5, qa6, qa7, qa8, qa9, qaA, qaB, qaC, qaD] at hb118'
   refine rd_yes rfl rfl (ov_load0 (k := 0) M109 rfl rfl rfl) ?_
   have f119 := f18_ok (x1 := 1) (show api_Program.t.R ({ Name := ([] : List UInt8), Headers := ([] : List api_Header), Metadata := ([({ Name := ([105, 110] : List UInt8), Width := 8 } : api_Field), ({ Name := ([109] : List UInt8), Width := 4 } : api_Field)] : List api_Field), Registers := ([] : List api_Register), Actions := ([({ Name := ([110, 111, 112] : List UInt8), Params := ([] : List api_Field), Body := ([] : List api_Statement) } : api_Action)] : List api_Action), Tables := ([({ Name := ([116] : List UInt8), Keys := ([({ Field := ({ Header := (-1), Field := 0 } : api_FieldRef), Kind := 1 } : api_TableKey), ({ Field := ({ Header := (-1), Field := 1 } : api_FieldRef), Kind := 3 } : api_TableKey)] : List api_TableKey), Actions := ([0] : List Int), Default := ({ Action := 0, Args := ([] : List (BitVec 32)) } : api_ActionCall), Size := 4 } : api_Table), ({ Name := ([117] : List UInt8), Keys := ([] : List api_TableKey), Actions := ([0] : List Int), Default := ({ Action := 0, Args := ([] : List (BitVec 32)) } : api_ActionCall), Size := 1 } : api_Table)] : List api_Table), States := ([] : List api_ParserState), Control := ([] : List api_ControlNode), Deparser := ([] : List Int) } : api_Program) (.agg [vs [], nilS, .fs true [.agg [vs ([105, 110] : List UInt8), vi 8], .agg [vs ([109] : List UInt8), vi 4]], nilS, .fs true [.agg [vs ([110, 111, 112] : List UInt8), nilS, nilS]], .fs true [.agg [vs ([116] : List UInt8), .fs true [.agg [vi (-1), vi 0, vi 1], .agg [vi (-1), vi 1, vi 3]], .fs true [vi 0], vi 0, nilS, vi 4], .agg [vs ([117] : List UInt8), nilS, .fs true [vi 0], vi 0, nilS, vi 1]], nilS, nilS, nilS]) from ⟨nilS, (.fs true [.agg [vs ([105, 110] : List UInt8), vi 8], .agg [vs ([109] : List UInt8), vi 4]]), nilS, (.fs true [.agg [vs ([110, 111, 112] : List UInt8), nilS, nilS]]), (.fs true [.agg [vs ([116] : List UInt8), .fs true [.agg [vi (-1), vi 0, vi 1], .agg [vi (-1), vi 1, vi 3]], .fs true [vi 0], vi 0, nilS, vi 4], .agg [vs ([117] : List UInt8), nilS, .fs true [vi 0], vi 0, nilS, vi 1]]), nilS, nilS, nilS, rfl, sl_nil, r101, sl_nil, r102, r106, sl_nil, sl_nil, sl_nil⟩) 
   refine rd_ycall rfl rfl (cv_fn rfl rfl (clL_cons (TR.clo api_Program.t (show api_Program.t.R ({ Name := ([] : List UInt8), Headers := ([] : List api_Header), Metadata := ([({ Name := ([105, 110] : List UInt8), Width := 8 } : api_Field), ({ Name := ([109] : List UInt8), Width := 4 } : api_Field)] : List api_Field), Registers := ([] : List api_Register), Actions := ([({ Name := ([110, 111, 112] : List UInt8), Params := ([] : List api_Field), Body := ([] : List api_Statement) } : api_Action)] : List api_Action), Tables := ([({ Name := ([116] : List UInt8), Keys := ([({ Field := ({ Header := (-1), Field := 0 } : api_FieldRef), Kind := 1 } : api_TableKey), ({ Field := ({ Header := (-1), Field := 1 } : api_FieldRef), Kind := 3 } : api_TableKey)] : List api_TableKey), Actions := ([0] : List Int), Default := ({ Action := 0, Args := ([] : List (BitVec 32)) } : api_ActionCall), Size := 4 } : api_Table), ({ Name := ([117] : List UInt8), Keys := ([] : List api_TableKey), Actions := ([0] : List Int), Default := ({ Action := 0, Args := ([] : List (BitVec 32)) } : api_ActionCall), Size := 1 } : api_Table)] : List api_Table), States := ([] : List api_ParserState), Control := ([] : List api_ControlNode), Deparser := ([] : List Int) } : api_Program) (.agg [vs [], nilS, .fs true [.agg [vs ([105, 110] : List UInt8), vi 8], .agg [vs ([109] : List UInt8), vi 4]], nilS, .fs true [.agg [vs ([110, 111, 112] : List UInt8), nilS, nilS]], .fs true [.agg [vs ([116] : List UInt8), .fs true [.agg [vi (-1), vi 0, vi 1], .agg [vi (-1), vi 1, vi 3]], .fs true [vi 0], vi 0, nilS, vi 4], .agg [vs ([117] : List UInt8), nilS, .fs true [vi 0], vi 0, nilS, vi 1]], nilS, nilS, nilS]) from ⟨nilS, (.fs true [.agg [vs ([105, 110] : List UInt8), vi 8], .agg [vs ([109] : List UInt8), vi 4]]), nilS, (.fs true [.agg [vs ([110, 111, 112] : List UInt8), nilS, nilS]]), (.fs true [.agg [vs ([116] : List UInt8), .fs true [.agg [vi (-1), vi 0, vi 1], .agg [vi (-1), vi 1, vi 3]], .fs true [vi 0], vi 0, nilS, vi 4], .agg [vs ([117] : List UInt8), nilS, .fs true [vi 0], vi 0, nilS, vi 1]]), nilS, nilS, nilS, rfl, sl_nil, r101, sl_nil, r102, r106, sl_nil, sl_nil, sl_nil⟩)) (clL_cons rfl clL_nil)) f119) ?_
   refine rd_yes rfl rfl (ov_bin rfl rfl i_eql) ?_
   refine rd_op (v := vb (decide ((table_Kind ({ Name := ([] : List UInt8), Headers := ([] : List api_Header), Metadata := ([({ Name := ([105, 110] : List UInt8), Width := 8 } : api_Field), ({ Name := ([109] : List UInt8), Width := 4 } : api_Field)] : List api_Field), Registers := ([] : List api_Register), Actions := ([({ Name := ([110, 111, 112] : List UInt8), Params := ([] : List api_Field), Body := ([] : List api_Statement) } : api_Action)] : List api_Action), Tables := ([({ Name := ([116] : List UInt8), Keys := ([({ Field := ({ Header := (-1), Field := 0 } : api_FieldRef), Kind := 1 } : api_TableKey), ({ Field := ({ Header := (-1), Field := 1 } : api_FieldRef), Kind := 3 } : api_TableKey)] : List api_TableKey), Actions := ([0] : List Int), Default := ({ Action := 0, Args := ([] : List (BitVec 32)) } : api_ActionCall), Size := 4 } : api_Table), ({ Name := ([117] : List UInt8), Keys := ([] : List api_TableKey), Actions := ([0] : List Int), Default := ({ Action := 0, Args := ([] : List (BitVec 32)) } : api_ActionCall), Size := 1 } : api_Table)] : List api_Table), States := ([] : List api_ParserState), Control := ([] : List api_ControlNode), Deparser := ([] : List Int) } : api_Program) 1) = 1))) (ov_pick rfl rfl rfl rfl) ?_
   exact rd_weak (sub_cons rfl (sub_skip rfl (sub_skip rfl (sub_skip rfl (sub_skip rfl (sub_refl _)))))) k
 refine rd_op (ov_move rfl) ?_
 refine rd_cut (d := 61) (v := vb (((((((decide (y110.1 = 0)) && (decide (y110.2 = 0))) && (decide (y111.2 = 8))) && (decide ((table_Kind ({ Name := ([] : List UInt8), Headers := ([] : List api_Header), Metadata := ([({ Name := ([105, 110] : List UInt8), Width := 8 } : api_Field), ({ Name := ([109] : List UInt8), Width := 4 } : api_Field)] : List api_Field), Registers := ([] : List api_Register), Actions := ([({ Name := ([110, 111, 112] : List UInt8), Params := ([] : List api_Field), Body := ([] : List api_Statement) } : api_Action)] : List api_Action), Tables := ([({ Name := ([116] : List UInt8), Keys := ([({ Field := ({ Header := (-1), Field := 0 } : api_FieldRef), Kind := 1 } : api_TableKey), ({ Field := ({ Header := (-1), Field := 1 } : api_FieldRef), Kind := 3 } : api_TableKey)] : List api_TableKey), Actions := ([0] : List Int), Default := ({ Action := 0, Args := ([] : List (BitVec 32)) } : api_ActionCall), Size := 4 } : api_Table), ({ Name := ([117] : List UInt8), Keys := ([] : List api_TableKey), Actions := ([0] : List Int), Default := ({ Action := 0, Args := ([] : List (BitVec 32)) } : api_ActionCall), Size := 1 } : api_Table)] : List api_Table), States := ([] : List api_ParserState), Control := ([] : List api_ControlNode), Deparser := ([] : List Int) } : api_Program) 0) = 3))) && (decide ((table_Bits ({ Name := ([] : List UInt8), Headers := ([] : List api_Header), Metadata := ([({ Name := ([105, 110] : List UInt8), Width := 8 } : api_Field), ({ Name := ([109] : List UInt8), Width := 4 } : api_Field)] : List api_Field), Registers := ([] : List api_Register), Actions := ([({ Name := ([110, 111, 112] : List UInt8), Params := ([] : List api_Field), Body := ([] : List api_Statement) } : api_Action)] : List api_Action), Tables := ([({ Name := ([116] : List UInt8), Keys := ([({ Field := ({ Header := (-1), Field := 0 } : api_FieldRef), Kind := 1 } : api_TableKey), ({ Field := ({ Header := (-1), Field := 1 } : api_FieldRef), Kind := 3 } : api_TableKey)] : List api_TableKey), Actions := ([0] : List Int), Default := ({ Action := 0, Args := ([] : List (BitVec 32)) } : api_ActionCall), Size := 4 } : api_Table), ({ Name := ([117] : List UInt8), Keys := ([] : List api_TableKey), Actions := ([0] : List Int), Default := ({ Action := 0, Args := ([] : List (BitVec 32)) } : api_ActionCall), Size := 1 } : api_Table)] : List api_Table), States := ([] : List api_ParserState), Control := ([] : List api_ControlNode), Deparser := ([] : List Int) } : api_Program) 0) = 12))) && (decide ((table_Kind ({ Name := ([] : List UInt8), Headers := ([] : List api_Header), Metadata := ([({ Name := ([105, 110] : List UInt8), Width := 8 } : api_Field), ({ Name := ([109] : List UInt8), Width := 4 } : api_Field)] : List api_Field), Registers := ([] : List api_Register), Actions := ([({ Name := ([110, 111, 112] : List UInt8), Params := ([] : List api_Field), Body := ([] : List api_Statement) } : api_Action)] : List api_Action), Tables := ([({ Name := ([116] : List UInt8), Keys := ([({ Field := ({ Header := (-1), Field := 0 } : api_FieldRef), Kind := 1 } : api_TableKey), ({ Field := ({ Header := (-1), Field := 1 } : api_FieldRef), Kind := 3 } : api_TableKey)] : List api_TableKey), Actions := ([0] : List Int), Default := ({ Action := 0, Args := ([] : List (BitVec 32)) } : api_ActionCall), Size := 4 } : api_Table), ({ Name := ([117] : List UInt8), Keys := ([] : List api_TableKey), Actions := ([0] : List Int), Default := ({ Action := 0, Args := ([] : List (BitVec 32)) } : api_ActionCall), Size := 1 } : api_Table)] : List api_Table), States := ([] : List api_ParserState), Control := ([] : List api_ControlNode), Deparser := ([] : List Int) } : api_Program) 1) = 1))) && (decide ((table_Bits ({ Name := ([] : List UInt8), Headers := ([] : List api_Header), Metadata := ([({ Name := ([105, 110] : List UInt8), Width := 8 } : api_Field), ({ Name := ([109] : List UInt8), Width := 4 } : api_Field)] : List api_Field), Registers := ([] : List api_Register), Actions := ([({ Name := ([110, 111, 112] : List UInt8), Params := ([] : List api_Field), Body := ([] : List api_Statement) } : api_Action)] : List api_Action), Tables := ([({ Name := ([116] : List UInt8), Keys := ([({ Field := ({ Header := (-1), Field := 0 } : api_FieldRef), Kind := 1 } : api_TableKey), ({ Field := ({ Header := (-1), Field := 1 } : api_FieldRef), Kind := 3 } : api_TableKey)] : List api_TableKey), Actions := ([0] : List Int), Default := ({ Action := 0, Args := ([] : List (BitVec 32)) } : api_ActionCall), Size := 4 } : api_Table), ({ Name := ([117] : List UInt8), Keys := ([] : List api_TableKey), Actions := ([0] : List Int), Default := ({ Action := 0, Args := ([] : List (BitVec 32)) } : api_ActionCall), Size := 1 } : api_Table)] : List api_Table), States := ([] : List api_ParserState), Control := ([] : List api_ControlNode), Deparser := ([] : List Int) } : api_Program) 1) = 0)))) ?_ ?_
 ·intro S Q r
  simp only [ac15_G6, List.cons_append, List.nil_append, List.append_assoc]
  cases hb120 : ((((((decide (y110.1 = 0)) && (decide (y110.2 = 0))) && (decide (y111.2 = 8))) && (decide ((table_Kind ({ Name := ([] : List UInt8), Headers := ([] : List api_Header), Metadata := ([({ Name := ([105, 110] : List UInt8), Width := 8 } : api_Field), ({ Name := ([109] : List UInt8), Width := 4 } : api_Field)] : List api_Field), Registers := ([] : List api_Register), Actions := ([({ Name := ([110, 111, 112] : List UInt8), Params := ([] : List api_Field), Body := ([] : List api_Statement) } : api_Action)] : List api_Action), Tables := ([({ Name := ([116] : List UInt8), Keys := ([({ Field := ({ Header := (-1), Field := 0 } : api_FieldRef), Kind := 1 } : api_TableKey), ({ Field := ({ Header := (-1), Field := 1 } : api_FieldRef), Kind := 3 } : api_TableKey)] : List api_TableKey), Actions := ([0] : List Int), Default := ({ Action := 0, Args := ([] : List (BitVec 32)) } : api_ActionCall), Size := 4 } : api_Table), ({ Name := ([117] : List UInt8), Keys := ([] : List api_TableKey), Actions := ([0] : List Int), Default := ({ Action := 0, Args := ([] : List (BitVec 32)) } : api_ActionCall), Size := 1 } : api_Table)] : List api_Table), States := ([] : List api_ParserState), Control := ([] : List api_ControlNode), Deparser := ([] : List Int) } : api_Program) 0) = 3))) && (decide ((table_Bits ({ Name := ([] : List UInt8), Headers := ([] : List api_Header), Metadata := ([({ Name := ([105, 110] : List UInt8), Width := 8 } : api_Field), ({ Name := ([109] : List UInt8), Width := 4 } : api_Field)] : List api_Field), Registers := ([] : List api_Register), Actions := ([({ Name := ([110, 111, 112] : List UInt8), Params := ([] : List api_Field), Body := ([] : List api_Statement) } : api_Action)] : List api_Action), Tables := ([({ Name := ([116] : List UInt8), Keys := ([({ Field := ({ Header := (-1), Field := 0 } : api_FieldRef), Kind := 1 } : api_TableKey), ({ Field := ({ Header := (-1), Field := 1 } : api_FieldRef), Kind := 3 } : api_TableKey)] : List api_TableKey), Actions := ([0] : List Int), Default := ({ Action := 0, Args := ([] : List (BitVec 32)) } : api_ActionCall), Size := 4 } : api_Table), ({ Name := ([117] : List UInt8), Keys := ([] : List api_TableKey), Actions := ([0] : List Int), Default := ({ Action := 0, Args := ([] : List (BitVec 32)) } : api_ActionCall), Size := 1 } : api_Table)] : List api_Table), States := ([] : List api_ParserState), Control := ([] : List api_ControlNode), Deparser := ([] : List Int) } : api_Program) 0) = 12))) && (decide ((table_Kind ({ Name := ([] : List UInt8), Headers := ([] : List api_Header), Metadata := ([({ Name := ([105, 110] : List UInt8), Width := 8 } : api_Field), ({ Name := ([109] : List UInt8), Width := 4 } : api_Field)] : List api_Field), Registers := ([] : List api_Register), Actions := ([({ Name := ([110, 111, 112] : List UInt8), Params := ([] : List api_Field), Body := ([] : List api_Statement) } : api_Action)] : List api_Action), Tables := ([({ Name := ([116] : List UInt8), Keys := ([({ Field := ({ Header := (-1), Field := 0 } : api_FieldRef), Kind := 1 } : api_TableKey), ({ Field := ({ Header := (-1), Field := 1 } : api_FieldRef), Kind := 3 } : api_TableKey)] : List api_TableKey), Actions := ([0] : List Int), Default := ({ Action := 0, Args := ([] : List (BitVec 32)) } : api_ActionCall), Size := 4 } : api_Table), ({ Name := ([117] : List UInt8), Keys := ([] : List api_TableKey), Actions := ([0] : List Int), Default := ({ Action := 0, Args := ([] : List (BitVec 32)) } : api_ActionCall), Size := 1 } : api_Table)] : List api_Table), States := ([] : List api_ParserState), Control := ([] : List api_ControlNode), Deparser := ([] : List Int) } : api_Program) 1) = 1)))
  ·intro k
   refine rd_skip rfl rfl ?_
   refine rd_skip rfl rfl ?_
   refine rd_skip rfl rfl ?_
   refine rd_op (v := vb false) (ov_pick rfl rfl rfl rfl) ?_
   exact rd_weak (sub_cons rfl (sub_skip rfl (sub_skip rfl (sub_skip rfl (sub_skip rfl (sub_refl _)))))) k
  ·intro k
   have hb120' := hb120
   try simp only [qa1, qa2, qa3, qa4, qa5, qa6, qa7, qa8, qa9, qaA, qaB, qaC, qaD] at hb120'
   refine rd_yes rfl rfl (ov_load0 (k := 0) M109 rfl rfl rfl) ?_
   have f121 := f23_ok (x1 := 1) (show api_Program.t.R ({ Name := ([] : List UInt8), Headers := ([] : List api_Header), Metadata := ([({ Name := ([105, 110] : List UInt8), Width := 8 } : api_Field), ({ Name := ([109] : List UInt8), Width := 4 } : api_Field)] : List api_Field), Registers := ([] : List api_Register), Actions := ([({ Name := ([110, 111, 112] : List UInt8), Params := ([] : List api_Field), Body := ([] : List api_Statement) } : api_Action)] : List api_Action), Tables := ([({ Name := ([116] : List UInt8), Keys := ([({ Field := ({ Header := (-1), Field := 0 } : api_FieldRef), Kind := 1 } : api_TableKey), ({ Field := ({ Header := (-1), Field := 1 } : api_FieldRef), Kind := 3 } : api_TableKey)] : List api_TableKey), Actions := ([0] : List Int), Default := ({ Action := 0, Args := ([] : List (BitVec 32)) } : api_ActionCall), Size := 4 } : api_Table), ({ Name := ([117] : List UInt8), Keys := ([] : List api_TableKey), Actions := ([0] : List Int), Default := ({ Action := 0, Args := ([] : List (BitVec 32)) } : api_ActionCall), Size := 1 } : api_Table)] : List api_Table), States := ([] : List api_ParserState), Control := ([] : List api_ControlNode), Deparser := ([] : List Int) } : api_Program) (.agg [vs [], nilS, .fs true [.agg [vs ([105, 110] : List UInt8), vi 8], .agg [vs ([109] : List UInt8), vi 4]], nilS, .fs true [.agg [vs ([110, 111, 112] : List UInt8), nilS, nilS]], .fs true [.agg [vs ([116] : List UInt8), .fs true [.agg [vi (-1), vi 0, vi 1], .agg [vi (-1), vi 1, vi 3]], .fs true [vi 0], vi 0, nilS, vi 4], .agg [vs ([117] : List UInt8), nilS, .fs true [vi 0], vi 0, nilS, vi 1]], nilS, nilS, nilS]) from ⟨nilS, (.fs true [.agg [vs ([105, 110] : List UInt8), vi 8], .agg [vs ([109] : List UInt8), vi 4]]), nilS, (.fs true [.agg [vs ([110, 111, 112] : List UInt8), nilS, nilS]]), (.fs true [.agg [vs ([116] : List UInt8), .fs true [.agg [vi (-1), vi 0, vi 1], .agg [vi (-1), vi 1, vi 3]], .fs true [vi 0], vi 0, nilS, vi 4], .agg [vs ([117] : List UInt8), nilS, .fs true [vi 0], vi 0, nilS, vi 1]]), nilS, nilS, nilS, rfl, sl_nil, r101, sl_nil, r102, r106, sl_nil, sl_nil, sl_nil⟩) 
   refine rd_ycall rfl rfl (cv_fn rfl rfl (clL_cons (TR.clo api_Program.t (show api_Program.t.R ({ Name := ([] : List UInt8), Headers := ([] : List api_Header), Metadata := ([({ Name := ([105, 110] : List UInt8), Width := 8 } : api_Field), ({ Name := ([109] : List UInt8), Width := 4 } : api_Field)] : List api_Field), Registers := ([] : List api_Register), Actions := ([({ Name := ([110, 111, 112] : List UInt8), Params := ([] : List api_Field), Body := ([] : List api_Statement) } : api_Action)] : List api_Action), Tables := ([({ Name := ([116] : List UInt8), Keys := ([({ Field := ({ Header := (-1), Field := 0 } : api_FieldRef), Kind := 1 } : api_TableKey), ({ Field := ({ Header := (-1), Field := 1 } : api_FieldRef), Kind := 3 } : api_TableKey)] : List api_TableKey), Actions := ([0] : List Int), Default := ({ Action := 0, Args := ([] : List (BitVec 32)) } : api_ActionCall), Size := 4 } : api_Table), ({ Name := ([117] : List UInt8), Keys := ([] : List api_TableKey), Actions := ([0] : List Int), Default := ({ Action := 0, Args := ([] : List (BitVec 32)) } : api_ActionCall), Size := 1 } : api_Table)] : List api_Table), States := ([] : List api_ParserState), Control := ([] : List api_ControlNode), Deparser := ([] : List Int) } : api_Program) (.agg [vs [], nilS, .fs true [.agg [vs ([105, 110] : List UInt8), vi 8], .agg [vs ([109] : List UInt8), vi 4]], nilS, .fs true [.agg [vs ([110, 111, 112] : List UInt8), nilS, nilS]], .fs true [.agg [vs ([116] : List UInt8), .fs true [.agg [vi (-1), vi 0, vi 1], .agg [vi (-1), vi 1, vi 3]], .fs true [vi 0], vi 0, nilS, vi 4], .agg [vs ([117] : List UInt8), nilS, .fs true [vi 0], vi 0, nilS, vi 1]], nilS, nilS, nilS]) from ⟨nilS, (.fs true [.agg [vs ([105, 110] : List UInt8), vi 8], .agg [vs ([109] : List UInt8), vi 4]]), nilS, (.fs true [.agg [vs ([110, 111, 112] : List UInt8), nilS, nilS]]), (.fs true [.agg [vs ([116] : List UInt8), .fs true [.agg [vi (-1), vi 0, vi 1], .agg [vi (-1), vi 1, vi 3]], .fs true [vi 0], vi 0, nilS, vi 4], .agg [vs ([117] : List UInt8), nilS, .fs true [vi 0], vi 0, nilS, vi 1]]), nilS, nilS, nilS, rfl, sl_nil, r101, sl_nil, r102, r106, sl_nil, sl_nil, sl_nil⟩)) (clL_cons rfl clL_nil)) f121) ?_
   refine rd_yes rfl rfl (ov_bin rfl rfl i_eql) ?_
   refine rd_op (v := vb (decide ((table_Bits ({ Name := ([] : List UInt8), Headers := ([] : List api_Header), Metadata := ([({ Name := ([105, 110] : List UInt8), Width := 8 } : api_Field), ({ Name := ([109] : List UInt8), Width := 4 } : api_Field)] : List api_Field), Registers := ([] : List api_Register), Actions := ([({ Name := ([110, 111, 112] : List UInt8), Params := ([] : List api_Field), Body := ([] : List api_Statement) } : api_Action)] : List api_Action), Tables := ([({ Name := ([116] : List UInt8), Keys := ([({ Field := ({ Header := (-1), Field := 0 } : api_FieldRef), Kind := 1 } : api_TableKey), ({ Field := ({ Header := (-1), Field := 1 } : api_FieldRef), Kind := 3 } : api_TableKey)] : List api_TableKey), Actions := ([0] : List Int), Default := ({ Action := 0, Args := ([] : List (BitVec 32)) } : api_ActionCall), Size := 4 } : api_Table), ({ Name := ([117] : List UInt8), Keys := ([] : List api_TableKey), Actions := ([0] : List Int), Default := ({ Action := 0, Args := ([] : List (BitVec 32)) } : api_ActionCall), Size := 1 } : api_Table)] : List api_Table), States := ([] : List api_ParserState), Control := ([] : List api_ControlNode), Deparser := ([] : List Int) } : api_Program) 1) = 0))) (ov_pick rfl rfl rfl rfl) ?_
   exact rd_weak (sub_cons rfl (sub_skip rfl (sub_skip rfl (sub_skip rfl (sub_skip rfl (sub_refl _)))))) k
 refine rd_op (ov_move rfl) ?_
 refine rd_cut (d := 69) (v := vb ((((((((decide (y110.1 = 0)) && (decide (y110.2 = 0))) && (decide (y111.2 = 8))) && (decide ((table_Kind ({ Name := ([] : List UInt8), Headers := ([] : List api_Header), Metadata := ([({ Name := ([105, 110] : List UInt8), Width := 8 } : api_Field), ({ Name := ([109] : List UInt8), Width := 4 } : api_Field)] : List api_Field), Registers := ([] : List api_Register), Actions := ([({ Name := ([110, 111, 112] : List UInt8), Params := ([] : List api_Field), Body := ([] : List api_Statement) } : api_Action)] : List api_Action), Tables := ([({ Name := ([116] : List UInt8), Keys := ([({ Field := ({ Header := (-1), Field := 0 } : api_FieldRef), Kind := 1 } : api_TableKey), ({ Field := ({ Header := (-1), Field := 1 } : api_FieldRef), Kind := 3 } : api_TableKey)] : List api_TableKey), Actions := ([0] : List Int), Default := ({ Action := 0, Args := ([] : List (BitVec 32)) } : api_ActionCall), Size := 4 } : api_Table), ({ Name := ([117] : List UInt8), Keys := ([] : List api_TableKey), Actions := ([0] : List Int), Default := ({ Action := 0, Args := ([] : List (BitVec 32)) } : api_ActionCall), Size := 1 } : api_Table)] : List api_Table), States := ([] : List api_ParserState), Control := ([] : List api_ControlNode), Deparser := ([] : List Int) } : api_Program) 0) = 3))) && (decide ((table_Bits ({ Name := ([] : List UInt8), Headers := ([] : List api_Header), Metadata := ([({ Name := ([105, 110] : List UInt8), Width := 8 } : api_Field), ({ Name := ([109] : List UInt8), Width := 4 } : api_Field)] : List api_Field), Registers := ([] : List api_Register), Actions := ([({ Name := ([110, 111, 112] : List UInt8), Params := ([] : List api_Field), Body := ([] : List api_Statement) } : api_Action)] : List api_Action), Tables := ([({ Name := ([116] : List UInt8), Keys := ([({ Field := ({ Header := (-1), Field := 0 } : api_FieldRef), Kind := 1 } : api_TableKey), ({ Field := ({ Header := (-1), Field := 1 } : api_FieldRef), Kind := 3 } : api_TableKey)] : List api_TableKey), Actions := ([0] : List Int), Default := ({ Action := 0, Args := ([] : List (BitVec 32)) } : api_ActionCall), Size := 4 } : api_Table), ({ Name := ([117] : List UInt8), Keys := ([] : List api_TableKey), Actions := ([0] : List Int), Default := ({ Action := 0, Args := ([] : List (BitVec 32)) } : api_ActionCall), Size := 1 } : api_Table)] : List api_Table), States := ([] : List api_ParserState), Control := ([] : List api_ControlNode), Deparser := ([] : List Int) } : api_Program) 0) = 12))) && (decide ((table_Kind ({ Name := ([] : List UInt8), Headers := ([] : List api_Header), Metadata := ([({ Name := ([105, 110] : List UInt8), Width := 8 } : api_Field), ({ Name := ([109] : List UInt8), Width := 4 } : api_Field)] : List api_Field), Registers := ([] : List api_Register), Actions := ([({ Name := ([110, 111, 112] : List UInt8), Params := ([] : List api_Field), Body := ([] : List api_Statement) } : api_Action)] : List api_Action), Tables := ([({ Name := ([116] : List UInt8), Keys := ([({ Field := ({ Header := (-1), Field := 0 } : api_FieldRef), Kind := 1 } : api_TableKey), ({ Field := ({ Header := (-1), Field := 1 } : api_FieldRef), Kind := 3 } : api_TableKey)] : List api_TableKey), Actions := ([0] : List Int), Default := ({ Action := 0, Args := ([] : List (BitVec 32)) } : api_ActionCall), Size := 4 } : api_Table), ({ Name := ([117] : List UInt8), Keys := ([] : List api_TableKey), Actions := ([0] : List Int), Default := ({ Action := 0, Args := ([] : List (BitVec 32)) } : api_ActionCall), Size := 1 } : api_Table)] : List api_Table), States := ([] : List api_ParserState), Control := ([] : List api_ControlNode), Deparser := ([] : List Int) } : api_Program) 1) = 1))) && (decide ((table_Bits ({ Name := ([] : List UInt8), Headers := ([] : List api_Header), Metadata := ([({ Name := ([105, 110] : List UInt8), Width := 8 } : api_Field), ({ Name := ([109] : List UInt8), Width := 4 } : api_Field)] : List api_Field), Registers := ([] : List api_Register), Actions := ([({ Name := ([110, 111, 112] : List UInt8), Params := ([] : List api_Field), Body := ([] : List api_Statement) } : api_Action)] : List api_Action), Tables := ([({ Name := ([116] : List UInt8), Keys := ([({ Field := ({ Header := (-1), Field := 0 } : api_FieldRef), Kind := 1 } : api_TableKey), ({ Field := ({ Header := (-1), Field := 1 } : api_FieldRef), Kind := 3 } : api_TableKey)] : List api_TableKey), Actions := ([0] : List Int), Default := ({ Action := 0, Args := ([] : List (BitVec 32)) } : api_ActionCall), Size := 4 } : api_Table), ({ Name := ([117] : List UInt8), Keys := ([] : List api_TableKey), Actions := ([0] : List Int), Default := ({ Action := 0, Args := ([] : List (BitVec 32)) } : api_ActionCall), Size := 1 } : api_Table)] : List api_Table), States := ([] : List api_ParserState), Control := ([] : List api_ControlNode), Deparser := ([] : List Int) } : api_Program) 1) = 0))) && (ref02_EqualUint32s (table_Key ({ Name := ([] : List UInt8), Headers := ([] : List api_Header), Metadata := ([({ Name := ([105, 110] : List UInt8), Width := 8 } : api_Field), ({ Name := ([109] : List UInt8), Width := 4 } : api_Field)] : List api_Field), Registers := ([] : List api_Register), Actions := ([({ Name := ([110, 111, 112] : List UInt8), Params := ([] : List api_Field), Body := ([] : List api_Statement) } : api_Action)] : List api_Action), Tables := ([({ Name := ([116] : List UInt8), Keys := ([({ Field := ({ Header := (-1), Field := 0 } : api_FieldRef), Kind := 1 } : api_TableKey), ({ Field := ({ Header := (-1), Field := 1 } : api_FieldRef), Kind := 3 } : api_TableKey)] : List api_TableKey), Actions := ([0] : List Int), Default := ({ Action := 0, Args := ([] : List (BitVec 32)) } : api_ActionCall), Size := 4 } : api_Table), ({ Name := ([117] : List UInt8), Keys := ([] : List api_TableKey), Actions := ([0] : List Int), Default := ({ Action := 0, Args := ([] : List (BitVec 32)) } : api_ActionCall), Size := 1 } : api_Table)] : List api_Table), States := ([] : List api_ParserState), Control := ([] : List api_ControlNode), Deparser := ([] : List Int) } : api_Program) 0 ({ Valid := ([] : List Bool), Fields := ([] : List (List (BitVec 32))), Metd := ([7#32, 19#32] : List (BitVec 32)), Payload := ([] : List UInt8) } : api_Env)) ([7#32, 3#32] : List (BitVec 32))))) ?_ ?_
 ·intro S Q r
  simp only [ac15_G7, List.cons_append, List.nil_append, List.append_assoc]
  cases hb122 : (((((((decide (y110.1 = 0)) && (decide (y110.2 = 0))) && (decide (y111.2 = 8))) && (decide ((table_Kind ({ Name := ([] : List UInt8), Headers := ([] : List api_Header), Metadata := ([({ Name := ([105, 110] : List UInt8), Width := 8 } : api_Field), ({ Name := ([109] : List UInt8), Width := 4 } : api_Field)] : List api_Field), Registers := ([] : List api_Register), Actions := ([({ Name := ([110, 111, 112] : List UInt8), Params := ([] : List api_Field), Body := ([] : List api_Statement) } : api_Action)] : List api_Action), Tables := ([({ Name := ([116] : List UInt8), Keys := ([({ Field := ({ Header := (-1), Field := 0 } : api_FieldRef), Kind := 1 } : api_TableKey), ({ Field := ({ Header := (-1), Field := 1 } : api_FieldRef), Kind := 3 } : api_TableKey)] : List api_TableKey), Actions := ([0] : List Int), Default := ({ Action := 0, Args := ([] : List (BitVec 32)) } : api_ActionCall), Size := 4 } : api_Table), ({ Name := ([117] : List UInt8), Keys := ([] : List api_TableKey), Actions := ([0] : List Int), Default := ({ Action := 0, Args := ([] : List (BitVec 32)) } : api_ActionCall), Size := 1 } : api_Table)] : List api_Table), States := ([] : List api_ParserState), Control := ([] : List api_ControlNode), Deparser := ([] : List Int) } : api_Program) 0) = 3))) && (decide ((table_Bits ({ Name := ([] : List UInt8), Headers := ([] : List api_Header), Metadata := ([({ Name := ([105, 110] : List UInt8), Width := 8 } : api_Field), ({ Name := ([109] : List UInt8), Width := 4 } : api_Field)] : List api_Field), Registers := ([] : List api_Register), Actions := ([({ Name := ([110, 111, 112] : List UInt8), Params := ([] : List api_Field), Body := ([] : List api_Statement) } : api_Action)] : List api_Action), Tables := ([({ Name := ([116] : List UInt8), Keys := ([({ Field := ({ Header := (-1), Field := 0 } : api_FieldRef), Kind := 1 } : api_TableKey), ({ Field := ({ Header := (-1), Field := 1 } : api_FieldRef), Kind := 3 } : api_TableKey)] : List api_TableKey), Actions := ([0] : List Int), Default := ({ Action := 0, Args := ([] : List (BitVec 32)) } : api_ActionCall), Size := 4 } : api_Table), ({ Name := ([117] : List UInt8), Keys := ([] : List api_TableKey), Actions := ([0] : List Int), Default := ({ Action := 0, Args := ([] : List (BitVec 32)) } : api_ActionCall), Size := 1 } : api_Table)] : List api_Table), States := ([] : List api_ParserState), Control := ([] : List api_ControlNode), Deparser := ([] : List Int) } : api_Program) 0) = 12))) && (decide ((table_Kind ({ Name := ([] : List UInt8), Headers := ([] : List api_Header), Metadata := ([({ Name := ([105, 110] : List UInt8), Width := 8 } : api_Field), ({ Name := ([109] : List UInt8), Width := 4 } : api_Field)] : List api_Field), Registers := ([] : List api_Register), Actions := ([({ Name := ([110, 111, 112] : List UInt8), Params := ([] : List api_Field), Body := ([] : List api_Statement) } : api_Action)] : List api_Action), Tables := ([({ Name := ([116] : List UInt8), Keys := ([({ Field := ({ Header := (-1), Field := 0 } : api_FieldRef), Kind := 1 } : api_TableKey), ({ Field := ({ Header := (-1), Field := 1 } : api_FieldRef), Kind := 3 } : api_TableKey)] : List api_TableKey), Actions := ([0] : List Int), Default := ({ Action := 0, Args := ([] : List (BitVec 32)) } : api_ActionCall), Size := 4 } : api_Table), ({ Name := ([117] : List UInt8), Keys := ([] : List api_TableKey), Actions := ([0] : List Int), Default := ({ Action := 0, Args := ([] : List (BitVec 32)) } : api_ActionCall), Size := 1 } : api_Table)] : List api_Table), States := ([] : List api_ParserState), Control := ([] : List api_ControlNode), Deparser := ([] : List Int) } : api_Program) 1) = 1))) && (decide ((table_Bits ({ Name := ([] : List UInt8), Headers := ([] : List api_Header), Metadata := ([({ Name := ([105, 110] : List UInt8), Width := 8 } : api_Field), ({ Name := ([109] : List UInt8), Width := 4 } : api_Field)] : List api_Field), Registers := ([] : List api_Register), Actions := ([({ Name := ([110, 111, 112] : List UInt8), Params := ([] : List api_Field), Body := ([] : List api_Statement) } : api_Action)] : List api_Action), Tables := ([({ Name := ([116] : List UInt8), Keys := ([({ Field := ({ Header := (-1), Field := 0 } : api_FieldRef), Kind := 1 } : api_TableKey), ({ Field := ({ Header := (-1), Field := 1 } : api_FieldRef), Kind := 3 } : api_TableKey)] : List api_TableKey), Actions := ([0] : List Int), Default := ({ Action := 0, Args := ([] : List (BitVec 32)) } : api_ActionCall), Size := 4 } : api_Table), ({ Name := ([117] : List UInt8), Keys := ([] : List api_TableKey), Actions := ([0] : List Int), Default := ({ Action := 0, Args := ([] : List (BitVec 32)) } : api_ActionCall), Size := 1 } : api_Table)] : List api_Table), States := ([] : List api_ParserState), Control := ([] : List api_ControlNode), Deparser := ([] : List Int) } : api_Program) 1) = 0)))
  ·intro k
   refine rd_skip rfl rfl ?_
   refine rd_skip rfl rfl ?_
   refine rd_skip rfl rfl ?_
   refine rd_skip rfl rfl ?_
   refine rd_skip rfl rfl ?_
   refine rd_skip rfl rfl ?_
   refine rd_op (v := vb false) (ov_pick rfl rfl rfl rfl) ?_
   exact rd_weak (sub_cons rfl (sub_skip rfl (sub_skip rfl (sub_skip rfl (sub_skip rfl (sub_skip rfl (sub_skip rfl (sub_skip rfl (sub_refl _))))))))) k
  ·intro k
   have hb122' := hb122
   try simp only [qa1, qa2, qa3, qa4, qa5, qa6, qa7, qa8, qa9, qaA, qaB, qaC, qaD] at hb122'
   refine rd_yes rfl rfl (ov_load0 (k := 0) M109 rfl rfl rfl) ?_
   refine rd_yes (v := .fs true [vu32 7#32, vu32 19#32]) rfl rfl (ov_bslice rfl (all_cons rfl (all_cons rfl all_nil))) ?_
   have r123 : (tSl tU32).R ([7#32, 19#32] : List (BitVec 32)) (.fs true [vu32 7#32, vu32 19#32]) := sl_fs ⟨rfl, ⟨rfl, trivial⟩⟩ (by simp)
   refine rd_yes (v := .agg [nilS, nilS, .fs true [vu32 7#32, vu32 19#32], nilS]) rfl rfl (ov_build (cs := [nilS, nilS, .fs true [vu32 7#32, vu32 19#32], nilS]) rfl (by simp only [buildV, cells_one (TR.cnt (tSl tU32) r123) (TR.agg (tSl tU32) r123)]; rfl)) ?_
   obtain ⟨v125, f124, r125⟩ := f29_ok (x1 := 0) (show api_Program.t.R ({ Name := ([] : List UInt8), Headers := ([] : List api_Header), Metadata := ([({ Name := ([105, 110] : List UInt8), Width := 8 } : api_Field), ({ Name := ([109] : List UInt8), Width := 4 } : api_Field)] : List api_Field), Registers := ([] : List api_Register), Actions := ([({ Name := ([110, 111, 112] : List UInt8), Params := ([] : List api_Field), Body := ([] : List api_Statement) } : api_Action)] : List api_Action), Tables := ([({ Name := ([116] : List UInt8), Keys := ([({ Field := ({ Header := (-1), Field := 0 } : api_FieldRef), Kind := 1 } : api_TableKey), ({ Field := ({ Header := (-1), Field := 1 } : api_FieldRef), Kind := 3 } : api_TableKey)] : List api_TableKey), Actions := ([0] : List Int), Default := ({ Action := 0, Args := ([] : List (BitVec 32)) } : api_ActionCall), Size := 4 } : api_Table), ({ Name := ([117] : List UInt8), Keys := ([] : List api_TableKey), Actions := ([0] : List Int), Default := ({ Action := 0, Args := ([] : List (BitVec 32)) } : api_ActionCall), Size := 1 } : api_Table)] : List api_Table), States := ([] : List api_ParserState), Control := ([] : List api_ControlNode), Deparser := ([] : List Int) } : api_Program) (.agg [vs [], nilS, .fs true [.agg [vs ([105, 110] : List UInt8), vi 8], .agg [vs ([109] : List UInt8), vi 4]], nilS, .fs true [.agg [vs ([110, 111, 112] : List UInt8), nilS, nilS]], .fs true [.agg [vs ([116] : List UInt8), .fs true [.agg [vi (-1), vi 0, vi 1], .agg [vi (-1), vi 1, vi 3]], .fs true [vi 0], vi 0, nilS, vi 4], .agg [vs ([117] : List UInt8), nilS, .fs true [vi 0], vi 0, nilS, vi 1]], nilS, nilS, nilS]) from ⟨nilS, (.fs true [.agg [vs ([105, 110] : List UInt8), vi 8], .agg [vs ([109] : List UInt8), vi 4]]), nilS, (.fs true [.agg [vs ([110, 111, 112] : List UInt8), nilS, nilS]]), (.fs true [.agg [vs ([116] : List UInt8), .fs true [.agg [vi (-1), vi 0, vi 1], .agg [vi (-1), vi 1, vi 3]], .fs true [vi 0], vi 0, nilS, vi 4], .agg [vs ([117] : List UInt8), nilS, .fs true [vi 0], vi 0, nilS, vi 1]]), nilS, nilS, nilS, rfl, sl_nil, r101, sl_nil, r102, r106, sl_nil, sl_nil, sl_nil⟩) (show api_Env.t.R ({ Valid := ([] : List Bool), Fields := ([] : List (List (BitVec 32))), Metd := ([7#32, 19#32] : List (BitVec 32)), Payload := ([] : List UInt8) } : api_Env) (.agg [nilS, nilS, .fs true [vu32 7#32, vu32 19#32], nilS]) from ⟨nilS, nilS, (.fs true [vu32 7#32, vu32 19#32]), nilS, rfl, sl_nil, sl_nil, r123, sl_nil⟩) 
   refine rd_ycall rfl rfl (cv_fn rfl rfl (clL_cons (TR.clo api_Program.t (show api_Program.t.R ({ Name := ([] : List UInt8), Headers := ([] : List api_Header), Metadata := ([({ Name := ([105, 110] : List UInt8), Width := 8 } : api_Field), ({ Name := ([109] : List UInt8), Width := 4 } : api_Field)] : List api_Field), Registers := ([] : List api_Register), Actions := ([({ Name := ([110, 111, 112] : List UInt8), Params := ([] : List api_Field), Body := ([] : List api_Statement) } : api_Action)] : List api_Action), Tables := ([({ Name := ([116] : List UInt8), Keys := ([({ Field := ({ Header := (-1), Field := 0 } : api_FieldRef), Kind := 1 } : api_TableKey), ({ Field := ({ Header := (-1), Field := 1 } : api_FieldRef), Kind := 3 } : api_TableKey)] : List api_TableKey), Actions := ([0] : List Int), Default := ({ Action := 0, Args := ([] : List (BitVec 32)) } : api_ActionCall), Size := 4 } : api_Table), ({ Name := ([117] : List UInt8), Keys := ([] : List api_TableKey), Actions := ([0] : List Int), Default := ({ Action := 0, Args := ([] : List (BitVec 32)) } : api_ActionCall), Size := 1 } : api_Table)] : List api_Table), States := ([] : List api_ParserState), Control := ([] : List api_ControlNode), Deparser := ([] : List Int) } : api_Program) (.agg [vs [], nilS, .fs true [.agg [vs ([105, 110] : List UInt8), vi 8], .agg [vs ([109] : List UInt8), vi 4]], nilS, .fs true [.agg [vs ([110, 111, 112] : List UInt8), nilS, nilS]], .fs true [.agg [vs ([116] : List UInt8), .fs true [.agg [vi (-1), vi 0, vi 1], .agg [vi (-1), vi 1, vi 3]], .fs true [vi 0], vi 0, nilS, vi 4], .agg [vs ([117] : List UInt8), nilS, .fs true [vi 0], vi 0, nilS, vi 1]], nilS, nilS, nilS]) from ⟨nilS, (.fs true [.agg [vs ([105, 110] : List UInt8), vi 8], .agg [vs ([109] : List UInt8), vi 4]]), nilS, (.fs true [.agg [vs ([110, 111, 112] : List UInt8), nilS, nilS]]), (.fs true [.agg [vs ([116] : List UInt8), .fs true [.agg [vi (-1), vi 0, vi 1], .agg [vi (-1), vi 1, vi 3]], .fs true [vi 0], vi 0, nilS, vi 4], .agg [vs ([117] : List UInt8), nilS, .fs true [vi 0], vi 0, nilS, vi 1]]), nilS, nilS, nilS, rfl, sl_nil, r101, sl_nil, r102, r106, sl_nil, sl_nil, sl_nil⟩)) (clL_cons rfl (clL_cons (TR.clo api_Env.t (show api_Env.t.R ({ Valid := ([] : List Bool), Fields := ([] : List (List (BitVec 32))), Metd := ([7#32, 19#32] : List (BitVec 32)), Payload := ([] : List UInt8) } : api_Env) (.agg [nilS, nilS, .fs true [vu32 7#32, vu32 19#32], nilS]) from ⟨nilS, nilS, (.fs true [vu32 7#32, vu32 19#32]), nilS, rfl, sl_nil, sl_nil, r123, sl_nil⟩)) clL_nil))) f124) ?_
   refine rd_yes (v := .fs true [vu32 7#32, vu32 3#32]) rfl rfl (ov_bslice rfl (all_cons rfl (all_cons rfl all_nil))) ?_
   have r126 : (tSl tU32).R ([7#32, 3#32] : List (BitVec 32)) (.fs true [vu32 7#32, vu32 3#32]) := sl_fs ⟨rfl, ⟨rfl, trivial⟩⟩ (by simp)
   have f127 := f28_ok  r125 r126 
   refine rd_ycall rfl rfl (cv_fn rfl rfl (clL_cons (TR.clo (tSl tU32) r125) (clL_cons (TR.clo (tSl tU32) r126) clL_nil)) f127) ?_
   refine rd_op (v := vb (ref02_EqualUint32s (table_Key ({ Name := ([] : List UInt8), Headers := ([] : List api_Header), Metadata := ([({ Name := ([105, 110] : List UInt8), Width := 8 } : api_Field), ({ Name := ([109] : List UInt8), Width := 4 } : api_Field)] : List api_Field), Registers := ([] : List api_Register), Actions := ([({ Name := ([110, 111, 112] : List UInt8), Params := ([] : List api_Field), Body := ([] : List api_Statement) } : api_Action)] : List api_Action), Tables := ([({ Name := ([116] : List UInt8), Keys := ([({ Field := ({ Header := (-1), Field := 0 } : api_FieldRef), Kind := 1 } : api_TableKey), ({ Field := ({ Header := (-1), Field := 1 } : api_FieldRef), Kind := 3 } : api_TableKey)] : List api_TableKey), Actions := ([0] : List Int), Default := ({ Action := 0, Args := ([] : List (BitVec 32)) } : api_ActionCall), Size := 4 } : api_Table), ({ Name := ([117] : List UInt8), Keys := ([] : List api_TableKey), Actions := ([0] : List Int), Default := ({ Action := 0, Args := ([] : List (BitVec 32)) } : api_ActionCall), Size := 1 } : api_Table)] : List api_Table), States := ([] : List api_ParserState), Control := ([] : List api_ControlNode), Deparser := ([] : List Int) } : api_Program) 0 ({ Valid := ([] : List Bool), Fields := ([] : List (List (BitVec 32))), Metd := ([7#32, 19#32] : List (BitVec 32)), Payload := ([] : List UInt8) } : api_Env)) ([7#32, 3#32] : List (BitVec 32)))) (ov_pick rfl rfl rfl rfl) ?_
   exact rd_weak (sub_cons rfl (sub_skip rfl (sub_skip rfl (sub_skip rfl (sub_skip rfl (sub_skip rfl (sub_skip rfl (sub_skip rfl (sub_refl _))))))))) k
 refine rd_op (ov_move rfl) ?_
 refine rd_cut (d := 73) (v := vb (((((((((decide (y110.1 = 0)) && (decide (y110.2 = 0))) && (decide (y111.2 = 8))) && (decide ((table_Kind ({ Name := ([] : List UInt8), Headers := ([] : List api_Header), Metadata := ([({ Name := ([105, 110] : List UInt8), Width := 8 } : api_Field), ({ Name := ([109] : List UInt8), Width := 4 } : api_Field)] : List api_Field), Registers := ([] : List api_Register), Actions := ([({ Name := ([110, 111, 112] : List UInt8), Params := ([] : List api_Field), Body := ([] : List api_Statement) } : api_Action)] : List api_Action), Tables := ([({ Name := ([116] : List UInt8), Keys := ([({ Field := ({ Header := (-1), Field := 0 } : api_FieldRef), Kind := 1 } : api_TableKey), ({ Field := ({ Header := (-1), Field := 1 } : api_FieldRef), Kind := 3 } : api_TableKey)] : List api_TableKey), Actions := ([0] : List Int), Default := ({ Action := 0, Args := ([] : List (BitVec 32)) } : api_ActionCall), Size := 4 } : api_Table), ({ Name := ([117] : List UInt8), Keys := ([] : List api_TableKey), Actions := ([0] : List Int), Default := ({ Action := 0, Args := ([] : List (BitVec 32)) } : api_ActionCall), Size := 1 } : api_Table)] : List api_Table), States := ([] : List api_ParserState), Control := ([] : List api_ControlNode), Deparser := ([] : List Int) } : api_Program) 0) = 3))) && (decide ((table_Bits ({ Name := ([] : List UInt8), Headers := ([] : List api_Header), Metadata := ([({ Name := ([105, 110] : List UInt8), Width := 8 } : api_Field), ({ Name := ([109] : List UInt8), Width := 4 } : api_Field)] : List api_Field), Registers := ([] : List api_Register), Actions := ([({ Name := ([110, 111, 112] : List UInt8), Params := ([] : List api_Field), Body := ([] : List api_Statement) } : api_Action)] : List api_Action), Tables := ([({ Name := ([116] : List UInt8), Keys := ([({ Field := ({ Header := (-1), Field := 0 } : api_FieldRef), Kind := 1 } : api_TableKey), ({ Field := ({ Header := (-1), Field := 1 } : api_FieldRef), Kind := 3 } : api_TableKey)] : List api_TableKey), Actions := ([0] : List Int), Default := ({ Action := 0, Args := ([] : List (BitVec 32)) } : api_ActionCall), Size := 4 } : api_Table), ({ Name := ([117] : List UInt8), Keys := ([] : List api_TableKey), Actions := ([0] : List Int), Default := ({ Action := 0, Args := ([] : List (BitVec 32)) } : api_ActionCall), Size := 1 } : api_Table)] : List api_Table), States := ([] : List api_ParserState), Control := ([] : List api_ControlNode), Deparser := ([] : List Int) } : api_Program) 0) = 12))) && (decide ((table_Kind ({ Name := ([] : List UInt8), Headers := ([] : List api_Header), Metadata := ([({ Name := ([105, 110] : List UInt8), Width := 8 } : api_Field), ({ Name := ([109] : List UInt8), Width := 4 } : api_Field)] : List api_Field), Registers := ([] : List api_Register), Actions := ([({ Name := ([110, 111, 112] : List UInt8), Params := ([] : List api_Field), Body := ([] : List api_Statement) } : api_Action)] : List api_Action), Tables := ([({ Name := ([116] : List UInt8), Keys := ([({ Field := ({ Header := (-1), Field := 0 } : api_FieldRef), Kind := 1 } : api_TableKey), ({ Field := ({ Header := (-1), Field := 1 } : api_FieldRef), Kind := 3 } : api_TableKey)] : List api_TableKey), Actions := ([0] : List Int), Default := ({ Action := 0, Args := ([] : List (BitVec 32)) } : api_ActionCall), Size := 4 } : api_Table), ({ Name := ([117] : List UInt8), Keys := ([] : List api_TableKey), Actions := ([0] : List Int), Default := ({ Action := 0, Args := ([] : List (BitVec 32)) } : api_ActionCall), Size := 1 } : api_Table)] : List api_Table), States := ([] : List api_ParserState), Control := ([] : List api_ControlNode), Deparser := ([] : List Int) } : api_Program) 1) = 1))) && (decide ((table_Bits ({ Name := ([] : List UInt8), Headers := ([] : List api_Header), Metadata := ([({ Name := ([105, 110] : List UInt8), Width := 8 } : api_Field), ({ Name := ([109] : List UInt8), Width := 4 } : api_Field)] : List api_Field), Registers := ([] : List api_Register), Actions := ([({ Name := ([110, 111, 112] : List UInt8), Params := ([] : List api_Field), Body := ([] : List api_Statement) } : api_Action)] : List api_Action), Tables := ([({ Name := ([116] : List UInt8), Keys := ([({ Field := ({ Header := (-1), Field := 0 } : api_FieldRef), Kind := 1 } : api_TableKey), ({ Field := ({ Header := (-1), Field := 1 } : api_FieldRef), Kind := 3 } : api_TableKey)] : List api_TableKey), Actions := ([0] : List Int), Default := ({ Action := 0, Args := ([] : List (BitVec 32)) } : api_ActionCall), Size := 4 } : api_Table), ({ Name := ([117] : List UInt8), Keys := ([] : List api_TableKey), Actions := ([0] : List Int), Default := ({ Action := 0, Args := ([] : List (BitVec 32)) } : api_ActionCall), Size := 1 } : api_Table)] : List api_Table), States := ([] : List api_ParserState), Control := ([] : List api_ControlNode), Deparser := ([] : List Int) } : api_Program) 1) = 0))) && (ref02_EqualUint32s (table_Key ({ Name := ([] : List UInt8), Headers := ([] : List api_Header), Metadata := ([({ Name := ([105, 110] : List UInt8), Width := 8 } : api_Field), ({ Name := ([109] : List UInt8), Width := 4 } : api_Field)] : List api_Field), Registers := ([] : List api_Register), Actions := ([({ Name := ([110, 111, 112] : List UInt8), Params := ([] : List api_Field), Body := ([] : List api_Statement) } : api_Action)] : List api_Action), Tables := ([({ Name := ([116] : List UInt8), Keys := ([({ Field := ({ Header := (-1), Field := 0 } : api_FieldRef), Kind := 1 } : api_TableKey), ({ Field := ({ Header := (-1), Field := 1 } : api_FieldRef), Kind := 3 } : api_TableKey)] : List api_TableKey), Actions := ([0] : List Int), Default := ({ Action := 0, Args := ([] : List (BitVec 32)) } : api_ActionCall), Size := 4 } : api_Table), ({ Name := ([117] : List UInt8), Keys := ([] : List api_TableKey), Actions := ([0] : List Int), Default := ({ Action := 0, Args := ([] : List (BitVec 32)) } : api_ActionCall), Size := 1 } : api_Table)] : List api_Table), States := ([] : List api_ParserState), Control := ([] : List api_ControlNode), Deparser := ([] : List Int) } : api_Program) 0 ({ Valid := ([] : List Bool), Fields := ([] : List (List (BitVec 32))), Metd := ([7#32, 19#32] : List (BitVec 32)), Payload := ([] : List UInt8) } : api_Env)) ([7#32, 3#32] : List (BitVec 32)))) && (table_Allows ({ Name := ([] : List UInt8), Headers := ([] : List api_Header), Metadata := ([({ Name := ([105, 110] : List UInt8), Width := 8 } : api_Field), ({ Name := ([109] : List UInt8), Width := 4 } : api_Field)] : List api_Field), Registers := ([] : List api_Register), Actions := ([({ Name := ([110, 111, 112] : List UInt8), Params := ([] : List api_Field), Body := ([] : List api_Statement) } : api_Action)] : List api_Action), Tables := ([({ Name := ([116] : List UInt8), Keys := ([({ Field := ({ Header := (-1), Field := 0 } : api_FieldRef), Kind := 1 } : api_TableKey), ({ Field := ({ Header := (-1), Field := 1 } : api_FieldRef), Kind := 3 } : api_TableKey)] : List api_TableKey), Actions := ([0] : List Int), Default := ({ Action := 0, Args := ([] : List (BitVec 32)) } : api_ActionCall), Size := 4 } : api_Table), ({ Name := ([117] : List UInt8), Keys := ([] : List api_TableKey), Actions := ([0] : List Int), Default := ({ Action := 0, Args := ([] : List (BitVec 32)) } : api_ActionCall), Size := 1 } : api_Table)] : List api_Table), States := ([] : List api_ParserState), Control := ([] : List api_ControlNode), Deparser := ([] : List Int) } : api_Program) 0 0))) ?_ ?_
 ·intro S Q r
  simp only [ac15_G8, List.cons_append, List.nil_append, List.append_assoc]
  cases hb128 : ((((((((decide (y110.1 = 0)) && (decide (y110.2 = 0))) && (decide (y111.2 = 8))) && (decide ((table_Kind ({ Name := ([] : List UInt8), Headers := ([] : List api_Header), Metadata := ([({ Name := ([105, 110] : List UInt8), Width := 8 } : api_Field), ({ Name := ([109] : List UInt8), Width := 4 } : api_Field)] : List api_Field), Registers := ([] : List api_Register), Actions := ([({ Name := ([110, 111, 112] : List UInt8), Params := ([] : List api_Field), Body := ([] : List api_Statement) } : api_Action)] : List api_Action), Tables := ([({ Name := ([116] : List UInt8), Keys := ([({ Field := ({ Header := (-1), Field := 0 } : api_FieldRef), Kind := 1 } : api_TableKey), ({ Field := ({ Header := (-1), Field := 1 } : api_FieldRef), Kind := 3 } : api_TableKey)] : List api_TableKey), Actions := ([0] : List Int), Default := ({ Action := 0, Args := ([] : List (BitVec 32)) } : api_ActionCall), Size := 4 } : api_Table), ({ Name := ([117] : List UInt8), Keys := ([] : List api_TableKey), Actions := ([0] : List Int), Default := ({ Action := 0, Args := ([] : List (BitVec 32)) } : api_ActionCall), Size := 1 } : api_Table)] : List api_Table), States := ([] : List api_ParserState), Control := ([] : List api_ControlNode), Deparser := ([] : List Int) } : api_Program) 0) = 3))) && (decide ((table_Bits ({ Name := ([] : List UInt8), Headers := ([] : List api_Header), Metadata := ([({ Name := ([105, 110] : List UInt8), Width := 8 } : api_Field), ({ Name := ([109] : List UInt8), Width := 4 } : api_Field)] : List api_Field), Registers := ([] : List api_Register), Actions := ([({ Name := ([110, 111, 112] : List UInt8), Params := ([] : List api_Field), Body := ([] : List api_Statement) } : api_Action)] : List api_Action), Tables := ([({ Name := ([116] : List UInt8), Keys := ([({ Field := ({ Header := (-1), Field := 0 } : api_FieldRef), Kind := 1 } : api_TableKey), ({ Field := ({ Header := (-1), Field := 1 } : api_FieldRef), Kind := 3 } : api_TableKey)] : List api_TableKey), Actions := ([0] : List Int), Default := ({ Action := 0, Args := ([] : List (BitVec 32)) } : api_ActionCall), Size := 4 } : api_Table), ({ Name := ([117] : List UInt8), Keys := ([] : List api_TableKey), Actions := ([0] : List Int), Default := ({ Action := 0, Args := ([] : List (BitVec 32)) } : api_ActionCall), Size := 1 } : api_Table)] : List api_Table), States := ([] : List api_ParserState), Control := ([] : List api_ControlNode), Deparser := ([] : List Int) } : api_Program) 0) = 12))) && (decide ((table_Kind ({ Name := ([] : List UInt8), Headers := ([] : List api_Header), Metadata := ([({ Name := ([105, 110] : List UInt8), Width := 8 } : api_Field), ({ Name := ([109] : List UInt8), Width := 4 } : api_Field)] : List api_Field), Registers := ([] : List api_Register), Actions := ([({ Name := ([110, 111, 112] : List UInt8), Params := ([] : List api_Field), Body := ([] : List api_Statement) } : api_Action)] : List api_Action), Tables := ([({ Name := ([116] : List UInt8), Keys := ([({ Field := ({ Header := (-1), Field := 0 } : api_FieldRef), Kind := 1 } : api_TableKey), ({ Field := ({ Header := (-1), Field := 1 } : api_FieldRef), Kind := 3 } : api_TableKey)] : List api_TableKey), Actions := ([0] : List Int), Default := ({ Action := 0, Args := ([] : List (BitVec 32)) } : api_ActionCall), Size := 4 } : api_Table), ({ Name := ([117] : List UInt8), Keys := ([] : List api_TableKey), Actions := ([0] : List Int), Default := ({ Action := 0, Args := ([] : List (BitVec 32)) } : api_ActionCall), Size := 1 } : api_Table)] : List api_Table), States := ([] : List api_ParserState), Control := ([] : List api_ControlNode), Deparser := ([] : List Int) } : api_Program) 1) = 1))) && (decide ((table_Bits ({ Name := ([] : List UInt8), Headers := ([] : List api_Header), Metadata := ([({ Name := ([105, 110] : List UInt8), Width := 8 } : api_Field), ({ Name := ([109] : List UInt8), Width := 4 } : api_Field)] : List api_Field), Registers := ([] : List api_Register), Actions := ([({ Name := ([110, 111, 112] : List UInt8), Params := ([] : List api_Field), Body := ([] : List api_Statement) } : api_Action)] : List api_Action), Tables := ([({ Name := ([116] : List UInt8), Keys := ([({ Field := ({ Header := (-1), Field := 0 } : api_FieldRef), Kind := 1 } : api_TableKey), ({ Field := ({ Header := (-1), Field := 1 } : api_FieldRef), Kind := 3 } : api_TableKey)] : List api_TableKey), Actions := ([0] : List Int), Default := ({ Action := 0, Args := ([] : List (BitVec 32)) } : api_ActionCall), Size := 4 } : api_Table), ({ Name := ([117] : List UInt8), Keys := ([] : List api_TableKey), Actions := ([0] : List Int), Default := ({ Action := 0, Args := ([] : List (BitVec 32)) } : api_ActionCall), Size := 1 } : api_Table)] : List api_Table), States := ([] : List api_ParserState), Control := ([] : List api_ControlNode), Deparser := ([] : List Int) } : api_Program) 1) = 0))) && (ref02_EqualUint32s (table_Key ({ Name := ([] : List UInt8), Headers := ([] : List api_Header), Metadata := ([({ Name := ([105, 110] : List UInt8), Width := 8 } : api_Field), ({ Name := ([109] : List UInt8), Width := 4 } : api_Field)] : List api_Field), Registers := ([] : List api_Register), Actions := ([({ Name := ([110, 111, 112] : List UInt8), Params := ([] : List api_Field), Body := ([] : List api_Statement) } : api_Action)] : List api_Action), Tables := ([({ Name := ([116] : List UInt8), Keys := ([({ Field := ({ Header := (-1), Field := 0 } : api_FieldRef), Kind := 1 } : api_TableKey), ({ Field := ({ Header := (-1), Field := 1 } : api_FieldRef), Kind := 3 } : api_TableKey)] : List api_TableKey), Actions := ([0] : List Int), Default := ({ Action := 0, Args := ([] : List (BitVec 32)) } : api_ActionCall), Size := 4 } : api_Table), ({ Name := ([117] : List UInt8), Keys := ([] : List api_TableKey), Actions := ([0] : List Int), Default := ({ Action := 0, Args := ([] : List (BitVec 32)) } : api_ActionCall), Size := 1 } : api_Table)] : List api_Table), States := ([] : List api_ParserState), Control := ([] : List api_ControlNode), Deparser := ([] : List Int) } : api_Program) 0 ({ Valid := ([] : List Bool), Fields := ([] : List (List (BitVec 32))), Metd := ([7#32, 19#32] : List (BitVec 32)), Payload := ([] : List UInt8) } : api_Env)) ([7#32, 3#32] : List (BitVec 32))))
  ·intro k
   refine rd_skip rfl rfl ?_
   refine rd_skip rfl rfl ?_
   refine rd_op (v := vb false) (ov_pick rfl rfl rfl rfl) ?_
   exact rd_weak (sub_cons rfl (sub_skip rfl (sub_skip rfl (sub_skip rfl (sub_refl _))))) k
  ·intro k
   have hb128' := hb128
   try simp only [qa1, qa2, qa3, qa4, qa5, qa6, qa7, qa8, qa9, qaA, qaB, qaC, qaD] at hb128'
   refine rd_yes rfl rfl (ov_load0 (k := 0) M109 rfl rfl rfl) ?_
   have f129 := f25_ok (x1 := 0) (x2 := 0) (show api_Program.t.R ({ Name := ([] : List UInt8), Headers := ([] : List api_Header), Metadata := ([({ Name := ([105, 110] : List UInt8), Width := 8 } : api_Field), ({ Name := ([109] : List UInt8), Width := 4 } : api_Field)] : List api_Field), Registers := ([] : List api_Register), Actions := ([({ Name := ([110, 111, 112] : List UInt8), Params := ([] : List api_Field), Body := ([] : List api_Statement) } : api_Action)] : List api_Action), Tables := ([({ Name := ([116] : List UInt8), Keys := ([({ Field := ({ Header := (-1), Field := 0 } : api_FieldRef), Kind := 1 } : api_TableKey), ({ Field := ({ Header := (-1), Field := 1 } : api_FieldRef), Kind := 3 } : api_TableKey)] : List api_TableKey), Actions := ([0] : List Int), Default := ({ Action := 0, Args := ([] : List (BitVec 32)) } : api_ActionCall), Size := 4 } : api_Table), ({ Name := ([117] : List UInt8), Keys := ([] : List api_TableKey), Actions := ([0] : List Int), Default := ({ Action := 0, Args := ([] : List (BitVec 32)) } : api_ActionCall), Size := 1 } : api_Table)] : List api_Table), States := ([] : List api_ParserState), Control := ([] : List api_ControlNode), Deparser := ([] : List Int) } : api_Program) (.agg [vs [], nilS, .fs true [.agg [vs ([105, 110] : List UInt8), vi 8], .agg [vs ([109] : List UInt8), vi 4]], nilS, .fs true [.agg [vs ([110, 111, 112] : List UInt8), nilS, nilS]], .fs true [.agg [vs ([116] : List UInt8), .fs true [.agg [vi (-1), vi 0, vi 1], .agg [vi (-1), vi 1, vi 3]], .fs true [vi 0], vi 0, nilS, vi 4], .agg [vs ([117] : List UInt8), nilS, .fs true [vi 0], vi 0, nilS, vi 1]], nilS, nilS, nilS]) from ⟨nilS, (.fs true [.agg [vs ([105, 110] : List UInt8), vi 8], .agg [vs ([109] : List UInt8), vi 4]]), nilS, (.fs true [.agg [vs ([110, 111, 112] : List UInt8), nilS, nilS]]), (.fs true [.agg [vs ([116] : List UInt8), .fs true [.agg [vi (-1), vi 0, vi 1], .agg [vi (-1), vi 1, vi 3]], .fs true [vi 0], vi 0, nilS, vi 4], .agg [vs ([117] : List UInt8), nilS, .fs true [vi 0], vi 0, nilS, vi 1]]), nilS, nilS, nilS, rfl, sl_nil, r101, sl_nil, r102, r106, sl_nil, sl_nil, sl_nil⟩) 
   refine rd_ycall rfl rfl (cv_fn rfl rfl (clL_cons (TR.clo api_Program.t (show api_Program.t.R ({ Name := ([] : List UInt8), Headers := ([] : List api_Header), Metadata := ([({ Name := ([105, 110] : List UInt8), Width := 8 } : api_Field), ({ Name := ([109] : List UInt8), Width := 4 } : api_Field)] : List api_Field), Registers := ([] : List api_Register), Actions := ([({ Name := ([110, 111, 112] : List UInt8), Params := ([] : List api_Field), Body := ([] : List api_Statement) } : api_Action)] : List api_Action), Tables := ([({ Name := ([116] : List UInt8), Keys := ([({ Field := ({ Header := (-1), Field := 0 } : api_FieldRef), Kind := 1 } : api_TableKey), ({ Field := ({ Header := (-1), Field := 1 } : api_FieldRef), Kind := 3 } : api_TableKey)] : List api_TableKey), Actions := ([0] : List Int), Default := ({ Action := 0, Args := ([] : List (BitVec 32)) } : api_ActionCall), Size := 4 } : api_Table), ({ Name := ([117] : List UInt8), Keys := ([] : List api_TableKey), Actions := ([0] : List Int), Default := ({ Action := 0, Args := ([] : List (BitVec 32)) } : api_ActionCall), Size := 1 } : api_Table)] : List api_Table), States := ([] : List api_ParserState), Control := ([] : List api_ControlNode), Deparser := ([] : List Int) } : api_Program) (.agg [vs [], nilS, .fs true [.agg [vs ([105, 110] : List UInt8), vi 8], .agg [vs ([109] : List UInt8), vi 4]], nilS, .fs true [.agg [vs ([110, 111, 112] : List UInt8), nilS, nilS]], .fs true [.agg [vs ([116] : List UInt8), .fs true [.agg [vi (-1), vi 0, vi 1], .agg [vi (-1), vi 1, vi 3]], .fs true [vi 0], vi 0, nilS, vi 4], .agg [vs ([117] : List UInt8), nilS, .fs true [vi 0], vi 0, nilS, vi 1]], nilS, nilS, nilS]) from ⟨nilS, (.fs true [.agg [vs ([105, 110] : List UInt8), vi 8], .agg [vs ([109] : List UInt8), vi 4]]), nilS, (.fs true [.agg [vs ([110, 111, 112] : List UInt8), nilS, nilS]]), (.fs true [.agg [vs ([116] : List UInt8), .fs true [.agg [vi (-1), vi 0, vi 1], .agg [vi (-1), vi 1, vi 3]], .fs true [vi 0], vi 0, nilS, vi 4], .agg [vs ([117] : List UInt8), nilS, .fs true [vi 0], vi 0, nilS, vi 1]]), nilS, nilS, nilS, rfl, sl_nil, r101, sl_nil, r102, r106, sl_nil, sl_nil, sl_nil⟩)) (clL_cons rfl (clL_cons rfl clL_nil))) f129) ?_
   refine rd_op (v := vb (table_Allows ({ Name := ([] : List UInt8), Headers := ([] : List api_Header), Metadata := ([({ Name := ([105, 110] : List UInt8), Width := 8 } : api_Field), ({ Name := ([109] : List UInt8), Width := 4 } : api_Field)] : List api_Field), Registers := ([] : List api_Register), Actions := ([({ Name := ([110, 111, 112] : List UInt8), Params := ([] : List api_Field), Body := ([] : List api_Statement) } : api_Action)] : List api_Action), Tables := ([({ Name := ([116] : List UInt8), Keys := ([({ Field := ({ Header := (-1), Field := 0 } : api_FieldRef), Kind := 1 } : api_TableKey), ({ Field := ({ Header := (-1), Field := 1 } : api_FieldRef), Kind := 3 } : api_TableKey)] : List api_TableKey), Actions := ([0] : List Int), Default := ({ Action := 0, Args := ([] : List (BitVec 32)) } : api_ActionCall), Size := 4 } : api_Table), ({ Name := ([117] : List UInt8), Keys := ([] : List api_TableKey), Actions := ([0] : List Int), Default := ({ Action := 0, Args := ([] : List (BitVec 32)) } : api_ActionCall), Size := 1 } : api_Table)] : List api_Table), States := ([] : List api_ParserState), Control := ([] : List api_ControlNode), Deparser := ([] : List Int) } : api_Program) 0 0)) (ov_pick rfl rfl rfl rfl) ?_
   exact rd_weak (sub_cons rfl (sub_skip rfl (sub_skip rfl (sub_skip rfl (sub_refl _))))) k
 refine rd_op (ov_move rfl) ?_
 refine rd_cut (d := 78) (v := vb ((((((((((decide (y110.1 = 0)) && (decide (y110.2 = 0))) && (decide (y111.2 = 8))) && (decide ((table_Kind ({ Name := ([] : List UInt8), Headers := ([] : List api_Header), Metadata := ([({ Name := ([105, 110] : List UInt8), Width := 8 } : api_Field), ({ Name := ([109] : List UInt8), Width := 4 } : api_Field)] : List api_Field), Registers := ([] : List api_Register), Actions := ([({ Name := ([110, 111, 112] : List UInt8), Params := ([] : List api_Field), Body := ([] : List api_Statement) } : api_Action)] : List api_Action), Tables := ([({ Name := ([116] : List UInt8), Keys := ([({ Field := ({ Header := (-1), Field := 0 } : api_FieldRef), Kind := 1 } : api_TableKey), ({ Field := ({ Header := (-1), Field := 1 } : api_FieldRef), Kind := 3 } : api_TableKey)] : List api_TableKey), Actions := ([0] : List Int), Default := ({ Action := 0, Args := ([] : List (BitVec 32)) } : api_ActionCall), Size := 4 } : api_Table), ({ Name := ([117] : List UInt8), Keys := ([] : List api_TableKey), Actions := ([0] : List Int), Default := ({ Action := 0, Args := ([] : List (BitVec 32)) } : api_ActionCall), Size := 1 } : api_Table)] : List api_Table), States := ([] : List api_ParserState), Control := ([] : List api_ControlNode), Deparser := ([] : List Int) } : api_Program) 0) = 3))) && (decide ((table_Bits ({ Name := ([] : List UInt8), Headers := ([] : List api_Header), Metadata := ([({ Name := ([105, 110] : List UInt8), Width := 8 } : api_Field), ({ Name := ([109] : List UInt8), Width := 4 } : api_Field)] : List api_Field), Registers := ([] : List api_Register), Actions := ([({ Name := ([110, 111, 112] : List UInt8), Params := ([] : List api_Field), Body := ([] : List api_Statement) } : api_Action)] : List api_Action), Tables := ([({ Name := ([116] : List UInt8), Keys := ([({ Field := ({ Header := (-1), Field := 0 } : api_FieldRef), Kind := 1 } : api_TableKey), ({ Field := ({ Header := (-1), Field := 1 } : api_FieldRef), Kind := 3 } : api_TableKey)] : List api_TableKey), Actions := ([0] : List Int), Default := ({ Action := 0, Args := ([] : List (BitVec 32)) } : api_ActionCall), Size := 4 } : api_Table), ({ Name := ([117] : List UInt8), Keys := ([] : List api_TableKey), Actions := ([0] : List Int), Default := ({ Action := 0, Args := ([] : List (BitVec 32)) } : api_ActionCall), Size := 1 } : api_Table)] : List api_Table), States := ([] : List api_ParserState), Control := ([] : List api_ControlNode), Deparser := ([] : List Int) } : api_Program) 0) = 12))) && (decide ((table_Kind ({ Name := ([] : List UInt8), Headers := ([] : List api_Header), Metadata := ([({ Name := ([105, 110] : List UInt8), Width := 8 } : api_Field), ({ Name := ([109] : List UInt8), Width := 4 } : api_Field)] : List api_Field), Registers := ([] : List api_Register), Actions := ([({ Name := ([110, 111, 112] : List UInt8), Params := ([] : List api_Field), Body := ([] : List api_Statement) } : api_Action)] : List api_Action), Tables := ([({ Name := ([116] : List UInt8), Keys := ([({ Field := ({ Header := (-1), Field := 0 } : api_FieldRef), Kind := 1 } : api_TableKey), ({ Field := ({ Header := (-1), Field := 1 } : api_FieldRef), Kind := 3 } : api_TableKey)] : List api_TableKey), Actions := ([0] : List Int), Default := ({ Action := 0, Args := ([] : List (BitVec 32)) } : api_ActionCall), Size := 4 } : api_Table), ({ Name := ([117] : List UInt8), Keys := ([] : List api_TableKey), Actions := ([0] : List Int), Default := ({ Action := 0, Args := ([] : List (BitVec 32)) } : api_ActionCall), Size := 1 } : api_Table)] : List api_Table), States := ([] : List api_ParserState), Control := ([] : List api_ControlNode), Deparser := ([] : List Int) } : api_Program) 1) = 1))) && (decide ((table_Bits ({ Name := ([] : List UInt8), Headers := ([] : List api_Header), Metadata := ([({ Name := ([105, 110] : List UInt8), Width := 8 } : api_Field), ({ Name := ([109] : List UInt8), Width := 4 } : api_Field)] : List api_Field), Registers := ([] : List api_Register), Actions := ([({ Name := ([110, 111, 112] : List UInt8), Params := ([] : List api_Field), Body := ([] : List api_Statement) } : api_Action)] : List api_Action), Tables := ([({ Name := ([116] : List UInt8), Keys := ([({ Field := ({ Header := (-1), Field := 0 } : api_FieldRef), Kind := 1 } : api_TableKey), ({ Field := ({ Header := (-1), Field := 1 } : api_FieldRef), Kind := 3 } : api_TableKey)] : List api_TableKey), Actions := ([0] : List Int), Default := ({ Action := 0, Args := ([] : List (BitVec 32)) } : api_ActionCall), Size := 4 } : api_Table), ({ Name := ([117] : List UInt8), Keys := ([] : List api_TableKey), Actions := ([0] : List Int), Default := ({ Action := 0, Args := ([] : List (BitVec 32)) } : api_ActionCall), Size := 1 } : api_Table)] : List api_Table), States := ([] : List api_ParserState), Control := ([] : List api_ControlNode), Deparser := ([] : List Int) } : api_Program) 1) = 0))) && (ref02_EqualUint32s (table_Key ({ Name := ([] : List UInt8), Headers := ([] : List api_Header), Metadata := ([({ Name := ([105, 110] : List UInt8), Width := 8 } : api_Field), ({ Name := ([109] : List UInt8), Width := 4 } : api_Field)] : List api_Field), Registers := ([] : List api_Register), Actions := ([({ Name := ([110, 111, 112] : List UInt8), Params := ([] : List api_Field), Body := ([] : List api_Statement) } : api_Action)] : List api_Action), Tables := ([({ Name := ([116] : List UInt8), Keys := ([({ Field := ({ Header := (-1), Field := 0 } : api_FieldRef), Kind := 1 } : api_TableKey), ({ Field := ({ Header := (-1), Field := 1 } : api_FieldRef), Kind := 3 } : api_TableKey)] : List api_TableKey), Actions := ([0] : List Int), Default := ({ Action := 0, Args := ([] : List (BitVec 32)) } : api_ActionCall), Size := 4 } : api_Table), ({ Name := ([117] : List UInt8), Keys := ([] : List api_TableKey), Actions := ([0] : List Int), Default := ({ Action := 0, Args := ([] : List (BitVec 32)) } : api_ActionCall), Size := 1 } : api_Table)] : List api_Table), States := ([] : List api_ParserState), Control := ([] : List api_ControlNode), Deparser := ([] : List Int) } : api_Program) 0 ({ Valid := ([] : List Bool), Fields := ([] : List (List (BitVec 32))), Metd := ([7#32, 19#32] : List (BitVec 32)), Payload := ([] : List UInt8) } : api_Env)) ([7#32, 3#32] : List (BitVec 32)))) && (table_Allows ({ Name := ([] : List UInt8), Headers := ([] : List api_Header), Metadata := ([({ Name := ([105, 110] : List UInt8), Width := 8 } : api_Field), ({ Name := ([109] : List UInt8), Width := 4 } : api_Field)] : List api_Field), Registers := ([] : List api_Register), Actions := ([({ Name := ([110, 111, 112] : List UInt8), Params := ([] : List api_Field), Body := ([] : List api_Statement) } : api_Action)] : List api_Action), Tables := ([({ Name := ([116] : List UInt8), Keys := ([({ Field := ({ Header := (-1), Field := 0 } : api_FieldRef), Kind := 1 } : api_TableKey), ({ Field := ({ Header := (-1), Field := 1 } : api_FieldRef), Kind := 3 } : api_TableKey)] : List api_TableKey), Actions := ([0] : List Int), Default := ({ Action := 0, Args := ([] : List (BitVec 32)) } : api_ActionCall), Size := 4 } : api_Table), ({ Name := ([117] : List UInt8), Keys := ([] : List api_TableKey), Actions := ([0] : List Int), Default := ({ Action := 0, Args := ([] : List (BitVec 32)) } : api_ActionCall), Size := 1 } : api_Table)] : List api_Table), States := ([] : List api_ParserState), Control := ([] : List api_ControlNode), Deparser := ([] : List Int) } : api_Program) 0 0)) && (!(table_Allows ({ Name := ([] : List UInt8), Headers := ([] : List api_Header), Metadata := ([({ Name := ([105, 110] : List UInt8), Width := 8 } : api_Field), ({ Name := ([109] : List UInt8), Width := 4 } : api_Field)] : List api_Field), Registers := ([] : List api_Register), Actions := ([({ Name := ([110, 111, 112] : List UInt8), Params := ([] : List api_Field), Body := ([] : List api_Statement) } : api_Action)] : List api_Action), Tables := ([({ Name := ([116] : List UInt8), Keys := ([({ Field := ({ Header := (-1), Field := 0 } : api_FieldRef), Kind := 1 } : api_TableKey), ({ Field := ({ Header := (-1), Field := 1 } : api_FieldRef), Kind := 3 } : api_TableKey)] : List api_TableKey), Actions := ([0] : List Int), Default := ({ Action := 0, Args := ([] : List (BitVec 32)) } : api_ActionCall), Size := 4 } : api_Table), ({ Name := ([117] : List UInt8), Keys := ([] : List api_TableKey), Actions := ([0] : List Int), Default := ({ Action := 0, Args := ([] : List (BitVec 32)) } : api_ActionCall), Size := 1 } : api_Table)] : List api_Table), States := ([] : List api_ParserState), Control := ([] : List api_ControlNode), Deparser := ([] : List Int) } : api_Program) 0 1)))) ?_ ?_
 ·intro S Q r
  simp only [ac15_G9, List.cons_append, List.nil_append, List.append_assoc]
  cases hb130 : (((((((((decide (y110.1 = 0)) && (decide (y110.2 = 0))) && (decide (y111.2 = 8))) && (decide ((table_Kind ({ Name := ([] : List UInt8), Headers := ([] : List api_Header), Metadata := ([({ Name := ([105, 110] : List UInt8), Width := 8 } : api_Field), ({ Name := ([109] : List UInt8), Width := 4 } : api_Field)] : List api_Field), Registers := ([] : List api_Register), Actions := ([({ Name := ([110, 111, 112] : List UInt8), Params := ([] : List api_Field), Body := ([] : List api_Statement) } : api_Action)] : List api_Action), Tables := ([({ Name := ([116] : List UInt8), Keys := ([({ Field := ({ Header := (-1), Field := 0 } : api_FieldRef), Kind := 1 } : api_TableKey), ({ Field := ({ Header := (-1), Field := 1 } : api_FieldRef), Kind := 3 } : api_TableKey)] : List api_TableKey), Actions := ([0] : List Int), Default := ({ Action := 0, Args := ([] : List (BitVec 32)) } : api_ActionCall), Size := 4 } : api_Table), ({ Name := ([117] : List UInt8), Keys := ([] : List api_TableKey), Actions := ([0] : List Int), Default := ({ Action := 0, Args := ([] : List (BitVec 32)) } : api_ActionCall), Size := 1 } : api_Table)] : List api_Table), States := ([] : List api_ParserState), Control := ([] : List api_ControlNode), Deparser := ([] : List Int) } : api_Program) 0) = 3))) && (decide ((table_Bits ({ Name := ([] : List UInt8), Headers := ([] : List api_Header), Metadata := ([({ Name := ([105, 110] : List UInt8), Width := 8 } : api_Field), ({ Name := ([109] : List UInt8), Width := 4 } : api_Field)] : List api_Field), Registers := ([] : List api_Register), Actions := ([({ Name := ([110, 111, 112] : List UInt8), Params := ([] : List api_Field), Body := ([] : List api_Statement) } : api_Action)] : List api_Action), Tables := ([({ Name := ([116] : List UInt8), Keys := ([({ Field := ({ Header := (-1), Field := 0 } : api_FieldRef), Kind := 1 } : api_TableKey), ({ Field := ({ Header := (-1), Field := 1 } : api_FieldRef), Kind := 3 } : api_TableKey)] : List api_TableKey), Actions := ([0] : List Int), Default := ({ Action := 0, Args := ([] : List (BitVec 32)) } : api_ActionCall), Size := 4 } : api_Table), ({ Name := ([117] : List UInt8), Keys := ([] : List api_TableKey), Actions := ([0] : List Int), Default := ({ Action := 0, Args := ([] : List (BitVec 32)) } : api_ActionCall), Size := 1 } : api_Table)] : List api_Table), States := ([] : List api_ParserState), Control := ([] : List api_ControlNode), Deparser := ([] : List Int) } : api_Program) 0) = 12))) && (decide ((table_Kind ({ Name := ([] : List UInt8), Headers := ([] : List api_Header), Metadata := ([({ Name := ([105, 110] : List UInt8), Width := 8 } : api_Field), ({ Name := ([109] : List UInt8), Width := 4 } : api_Field)] : List api_Field), Registers := ([] : List api_Register), Actions := ([({ Name := ([110, 111, 112] : List UInt8), Params := ([] : List api_Field), Body := ([] : List api_Statement) } : api_Action)] : List api_Action), Tables := ([({ Name := ([116] : List UInt8), Keys := ([({ Field := ({ Header := (-1), Field := 0 } : api_FieldRef), Kind := 1 } : api_TableKey), ({ Field := ({ Header := (-1), Field := 1 } : api_FieldRef), Kind := 3 } : api_TableKey)] : List api_TableKey), Actions := ([0] : List Int), Default := ({ Action := 0, Args := ([] : List (BitVec 32)) } : api_ActionCall), Size := 4 } : api_Table), ({ Name := ([117] : List UInt8), Keys := ([] : List api_TableKey), Actions := ([0] : List Int), Default := ({ Action := 0, Args := ([] : List (BitVec 32)) } : api_ActionCall), Size := 1 } : api_Table)] : List api_Table), States := ([] : List api_ParserState), Control := ([] : List api_ControlNode), Deparser := ([] : List Int) } : api_Program) 1) = 1))) && (decide ((table_Bits ({ Name := ([] : List UInt8), Headers := ([] : List api_Header), Metadata := ([({ Name := ([105, 110] : List UInt8), Width := 8 } : api_Field), ({ Name := ([109] : List UInt8), Width := 4 } : api_Field)] : List api_Field), Registers := ([] : List api_Register), Actions := ([({ Name := ([110, 111, 112] : List UInt8), Params := ([] : List api_Field), Body := ([] : List api_Statement) } : api_Action)] : List api_Action), Tables := ([({ Name := ([116] : List UInt8), Keys := ([({ Field := ({ Header := (-1), Field := 0 } : api_FieldRef), Kind := 1 } : api_TableKey), ({ Field := ({ Header := (-1), Field := 1 } : api_FieldRef), Kind := 3 } : api_TableKey)] : List api_TableKey), Actions := ([0] : List Int), Default := ({ Action := 0, Args := ([] : List (BitVec 32)) } : api_ActionCall), Size := 4 } : api_Table), ({ Name := ([117] : List UInt8), Keys := ([] : List api_TableKey), Actions := ([0] : List Int), Default := ({ Action := 0, Args := ([] : List (BitVec 32)) } : api_ActionCall), Size := 1 } : api_Table)] : List api_Table), States := ([] : List api_ParserState), Control := ([] : List api_ControlNode), Deparser := ([] : List Int) } : api_Program) 1) = 0))) && (ref02_EqualUint32s (table_Key ({ Name := ([] : List UInt8), Headers := ([] : List api_Header), Metadata := ([({ Name := ([105, 110] : List UInt8), Width := 8 } : api_Field), ({ Name := ([109] : List UInt8), Width := 4 } : api_Field)] : List api_Field), Registers := ([] : List api_Register), Actions := ([({ Name := ([110, 111, 112] : List UInt8), Params := ([] : List api_Field), Body := ([] : List api_Statement) } : api_Action)] : List api_Action), Tables := ([({ Name := ([116] : List UInt8), Keys := ([({ Field := ({ Header := (-1), Field := 0 } : api_FieldRef), Kind := 1 } : api_TableKey), ({ Field := ({ Header := (-1), Field := 1 } : api_FieldRef), Kind := 3 } : api_TableKey)] : List api_TableKey), Actions := ([0] : List Int), Default := ({ Action := 0, Args := ([] : List (BitVec 32)) } : api_ActionCall), Size := 4 } : api_Table), ({ Name := ([117] : List UInt8), Keys := ([] : List api_TableKey), Actions := ([0] : List Int), Default := ({ Action := 0, Args := ([] : List (BitVec 32)) } : api_ActionCall), Size := 1 } : api_Table)] : List api_Table), States := ([] : List api_ParserState), Control := ([] : List api_ControlNode), Deparser := ([] : List Int) } : api_Program) 0 ({ Valid := ([] : List Bool), Fields := ([] : List (List (BitVec 32))), Metd := ([7#32, 19#32] : List (BitVec 32)), Payload := ([] : List UInt8) } : api_Env)) ([7#32, 3#32] : List (BitVec 32)))) && (table_Allows ({ Name := ([] : List UInt8), Headers := ([] : List api_Header), Metadata := ([({ Name := ([105, 110] : List UInt8), Width := 8 } : api_Field), ({ Name := ([109] : List UInt8), Width := 4 } : api_Field)] : List api_Field), Registers := ([] : List api_Register), Actions := ([({ Name := ([110, 111, 112] : List UInt8), Params := ([] : List api_Field), Body := ([] : List api_Statement) } : api_Action)] : List api_Action), Tables := ([({ Name := ([116] : List UInt8), Keys := ([({ Field := ({ Header := (-1), Field := 0 } : api_FieldRef), Kind := 1 } : api_TableKey), ({ Field := ({ Header := (-1), Field := 1 } : api_FieldRef), Kind := 3 } : api_TableKey)] : List api_TableKey), Actions := ([0] : List Int), Default := ({ Action := 0, Args := ([] : List (BitVec 32)) } : api_ActionCall), Size := 4 } : api_Table), ({ Name := ([117] : List UInt8), Keys := ([] : List api_TableKey), Actions := ([0] : List Int), Default := ({ Action := 0, Args := ([] : List (BitVec 32)) } : api_ActionCall), Size := 1 } : api_Table)] : List api_Table), States := ([] : List api_ParserState), Control := ([] : List api_ControlNode), Deparser := ([] : List Int) } : api_Program) 0 0))
  ·intro k
   refine rd_skip rfl rfl ?_
   refine rd_skip rfl rfl ?_
   refine rd_skip rfl rfl ?_
   refine rd_op (v := vb false) (ov_pick rfl rfl rfl rfl) ?_
   exact rd_weak (sub_cons rfl (sub_skip rfl (sub_skip rfl (sub_skip rfl (sub_skip rfl (sub_refl _)))))) k
  ·intro k
   have hb130' := hb130
   try simp only [qa1, qa2, qa3, qa4, qa5, qa6, qa7, qa8, qa9, qaA, qaB, qaC, qaD] at hb130'
   refine rd_yes rfl rfl (ov_load0 (k := 0) M109 rfl rfl rfl) ?_
   have f131 := f25_ok (x1 := 0) (x2 := 1) (show api_Program.t.R ({ Name := ([] : List UInt8), Headers := ([] : List api_Header), Metadata := ([({ Name := ([105, 110] : List UInt8), Width := 8 } : api_Field), ({ Name := ([109] : List UInt8), Width := 4 } : api_Field)] : List api_Field), Registers := ([] : List api_Register), Actions := ([({ Name := ([110, 111, 112] : List UInt8), Params := ([] : List api_Field), Body := ([] : List api_Statement) } : api_Action)] : List api_Action), Tables := ([({ Name := ([116] : List UInt8), Keys := ([({ Field := ({ Header := (-1), Field := 0 } : api_FieldRef), Kind := 1 } : api_TableKey), ({ Field := ({ Header := (-1), Field := 1 } : api_FieldRef), Kind := 3 } : api_TableKey)] : List api_TableKey), Actions := ([0] : List Int), Default := ({ Action := 0, Args := ([] : List (BitVec 32)) } : api_ActionCall), Size := 4 } : api_Table), ({ Name := ([117] : List UInt8), Keys := ([] : List api_TableKey), Actions := ([0] : List Int), Default := ({ Action := 0, Args := ([] : List (BitVec 32)) } : api_ActionCall), Size := 1 } : api_Table)] : List api_Table), States := ([] : List api_ParserState), Control := ([] : List api_ControlNode), Deparser := ([] : List Int) } : api_Program) (.agg [vs [], nilS, .fs true [.agg [vs ([105, 110] : List UInt8), vi 8], .agg [vs ([109] : List UInt8), vi 4]], nilS, .fs true [.agg [vs ([110, 111, 112] : List UInt8), nilS, nilS]], .fs true [.agg [vs ([116] : List UInt8), .fs true [.agg [vi (-1), vi 0, vi 1], .agg [vi (-1), vi 1, vi 3]], .fs true [vi 0], vi 0, nilS, vi 4], .agg [vs ([117] : List UInt8), nilS, .fs true [vi 0], vi 0, nilS, vi 1]], nilS, nilS, nilS]) from ⟨nilS, (.fs true [.agg [vs ([105, 110] : List UInt8), vi 8], .agg [vs ([109] : List UInt8), vi 4]]), nilS, (.fs true [.agg [vs ([110, 111, 112] : List UInt8), nilS, nilS]]), (.fs true [.agg [vs ([116] : List UInt8), .fs true [.agg [vi (-1), vi 0, vi 1], .agg [vi (-1), vi 1, vi 3]], .fs true [vi 0], vi 0, nilS, vi 4], .agg [vs ([117] : List UInt8), nilS, .fs true [vi 0], vi 0, nilS, vi 1]]), nilS, nilS, nilS, rfl, sl_nil, r101, sl_nil, r102, r106, sl_nil, sl_nil, sl_nil⟩) 
   refine rd_ycall rfl rfl (cv_fn rfl rfl (clL_cons (TR.clo api_Program.t (show api_Program.t.R ({ Name := ([] : List UInt8), Headers := ([] : List api_Header), Metadata := ([({ Name := ([105, 110] : List UInt8), Width := 8 } : api_Field), ({ Name := ([109] : List UInt8), Width := 4 } : api_Field)] : List api_Field), Registers := ([] : List api_Register), Actions := ([({ Name := ([110, 111, 112] : List UInt8), Params := ([] : List api_Field), Body := ([] : List api_Statement) } : api_Action)] : List api_Action), Tables := ([({ Name := ([116] : List UInt8), Keys := ([({ Field := ({ Header := (-1), Field := 0 } : api_FieldRef), Kind := 1 } : api_TableKey), ({ Field := ({ Header := (-1), Field := 1 } : api_FieldRef), Kind := 3 } : api_TableKey)] : List api_TableKey), Actions := ([0] : List Int), Default := ({ Action := 0, Args := ([] : List (BitVec 32)) } : api_ActionCall), Size := 4 } : api_Table), ({ Name := ([117] : List UInt8), Keys := ([] : List api_TableKey), Actions := ([0] : List Int), Default := ({ Action := 0, Args := ([] : List (BitVec 32)) } : api_ActionCall), Size := 1 } : api_Table)] : List api_Table), States := ([] : List api_ParserState), Control := ([] : List api_ControlNode), Deparser := ([] : List Int) } : api_Program) (.agg [vs [], nilS, .fs true [.agg [vs ([105, 110] : List UInt8), vi 8], .agg [vs ([109] : List UInt8), vi 4]], nilS, .fs true [.agg [vs ([110, 111, 112] : List UInt8), nilS, nilS]], .fs true [.agg [vs ([116] : List UInt8), .fs true [.agg [vi (-1), vi 0, vi 1], .agg [vi (-1), vi 1, vi 3]], .fs true [vi 0], vi 0, nilS, vi 4], .agg [vs ([117] : List UInt8), nilS, .fs true [vi 0], vi 0, nilS, vi 1]], nilS, nilS, nilS]) from ⟨nilS, (.fs true [.agg [vs ([105, 110] : List UInt8), vi 8], .agg [vs ([109] : List UInt8), vi 4]]), nilS, (.fs true [.agg [vs ([110, 111, 112] : List UInt8), nilS, nilS]]), (.fs true [.agg [vs ([116] : List UInt8), .fs true [.agg [vi (-1), vi 0, vi 1], .agg [vi (-1), vi 1, vi 3]], .fs true [vi 0], vi 0, nilS, vi 4], .agg [vs ([117] : List UInt8), nilS, .fs true [vi 0], vi 0, nilS, vi 1]]), nilS, nilS, nilS, rfl, sl_nil, r101, sl_nil, r102, r106, sl_nil, sl_nil, sl_nil⟩)) (clL_cons rfl (clL_cons rfl clL_nil))) f131) ?_
   refine rd_yes rfl rfl (ov_not rfl) ?_
   refine rd_op (v := vb (!(table_Allows ({ Name := ([] : List UInt8), Headers := ([] : List api_Header), Metadata := ([({ Name := ([105, 110] : List UInt8), Width := 8 } : api_Field), ({ Name := ([109] : List UInt8), Width := 4 } : api_Field)] : List api_Field), Registers := ([] : List api_Register), Actions := ([({ Name := ([110, 111, 112] : List UInt8), Params := ([] : List api_Field), Body := ([] : List api_Statement) } : api_Action)] : List api_Action), Tables := ([({ Name := ([116] : List UInt8), Keys := ([({ Field := ({ Header := (-1), Field := 0 } : api_FieldRef), Kind := 1 } : api_TableKey), ({ Field := ({ Header := (-1), Field := 1 } : api_FieldRef), Kind := 3 } : api_TableKey)] : List api_TableKey), Actions := ([0] : List Int), Default := ({ Action := 0, Args := ([] : List (BitVec 32)) } : api_ActionCall), Size := 4 } : api_Table), ({ Name := ([117] : List UInt8), Keys := ([] : List api_TableKey), Actions := ([0] : List Int), Default := ({ Action := 0, Args := ([] : List (BitVec 32)) } : api_ActionCall), Size := 1 } : api_Table)] : List api_Table), States := ([] : List api_ParserState), Control := ([] : List api_ControlNode), Deparser := ([] : List Int) } : api_Program) 0 1))) (ov_pick rfl rfl rfl rfl) ?_
   exact rd_weak (sub_cons rfl (sub_skip rfl (sub_skip rfl (sub_skip rfl (sub_skip rfl (sub_refl _)))))) k
 refine rd_op (ov_move rfl) ?_
 refine rd_nil ?_
 refine pn_seq ?_
 subst hres
 exact rc_retV (.tmp rfl .nil) (deep_closed rfl) rfl

end Go.Proofs.Ytklfdkbemkommaa
