/-
 The code of each function does what its plain program says.
-/
import Derived.Test.YtepkgeppmjmkjaaGreatL3W0
set_option linter.unusedVariables false
set_option linter.unusedSimpArgs false
set_option maxRecDepth 100000
namespace Go.Proofs.YtepkgeppmjmkjaaGreat
open Go Go.Pb Go.RowKit
theorem f5_ok : FnR Tryz.prog 5 [] (vb law31_works) := run5

/-- patchbay/access.counts -/
def RF37 (res : (List Int)) (r : PV) : Prop := (tAr 4 tI).R res r
theorem access_counts_L1_ok {S : List Fr} {res : (List Int)} {x0 : api_Program} {v110 : PV} {i101 : Nat} {w101 : Nat} {i107 : Nat} {w107 : Nat} (r110 : (tSl api_Header.t).R x0.Headers v110) {K0 : (List Int) → (List Int)}
  (hK0 : ∀ (zE108 : List Int) (uE108 : PV) (qE108 : (tAr 4 tI).R zE108 uE108) (h : Heap) (M0 : Mem h [⟨.op i107 w107 0, 92, 4, [uE108]⟩, ⟨.op i101 w101 0, 92, 4, [.agg [vi 0, vi 0, vi 0, vi 0]]⟩]), K0 zE108 = res → PX Tryz.prog 0 S (QR Tryz.prog [(2, some (4, true))] (RF37 res)) [(2, .op i101 w101 0), (3, .op i107 w107 0)] h) :
  ∀ (m : Nat) (x19_ : Int) (zE108 : List Int) (uE108 : PV) (qE108 : (tAr 4 tI).R zE108 uE108) (hm1 : m = Int.toNat ((x0.Headers.length : Int) - x19_)) (hlo1 : 0 ≤ x19_) (h : Heap) (M0 : Mem h [⟨.op i107 w107 0, 92, 4, [uE108]⟩, ⟨.op i101 w101 0, 92, 4, [.agg [vi 0, vi 0, vi 0, vi 0]]⟩]), access_counts_L1 x0 K0 m x19_ zE108 = res → RC Tryz.prog (.loop ac37_L1) S (QR Tryz.prog [(2, some (4, true))] (RF37 res)) [(19, vi x19_), (18, vi (x0.Headers.length : Int)), (17, v110), (3, .op i107 w107 0), (2, .op i101 w101 0)] h := by
 intro m
 induction m with
 | zero =>
  intro x19_ zE108 uE108 qE108 hm1 hlo1 h M0 hres
  rw [access_counts_L1] at hres
  refine rc_loop ?_
  unfold ac37_L1
  refine rc_seq ?_
  refine rc_region ?_
  refine rd_op (ov_bin rfl rfl i_lss) ?_
  refine rd_nil ?_
  refine pn_seq ?_
  refine rc_seq ?_
  refine rc_cond rfl (fun hc112 => ?_) (fun hc112 => ?_)
  ·exfalso
   try simp only [Bool.or_eq_true, Bool.or_eq_false_iff, Bool.and_eq_true, Bool.and_eq_false_imp, decide_eq_true_eq, decide_eq_false_iff_not, Bool.not_eq_true', Bool.not_eq_false', Bool.not_eq_true, Bool.not_eq_false, Bool.not_true, Bool.not_false, ne_eq] at hc112
   omega
  ·have hend := hres
   have hc112' := hc112
   try simp only [Bool.or_eq_true, Bool.or_eq_false_iff, Bool.and_eq_true, Bool.and_eq_false_imp, decide_eq_true_eq, decide_eq_false_iff_not, Bool.not_eq_true', Bool.not_eq_false', Bool.not_eq_true, Bool.not_eq_false, Bool.not_true, Bool.not_false, ne_eq] at hc112'
   refine rc_exit ?_
   refine px_seq ?_
   refine px_again ?_
   exact px_weak ((sub_cons rfl (sub_cons rfl (sub_nil _)))) (hK0 zE108 uE108 (show (tAr 4 tI).R zE108 uE108 from qE108) _ (Mem.sub M0 (.cons_cons _ (.cons_cons _ .slnil))) hres)
 | succ m ih =>
  intro x19_ zE108 uE108 qE108 hm1 hlo1 h M0 hres
  rw [access_counts_L1] at hres
  refine rc_loop ?_
  unfold ac37_L1
  refine rc_seq ?_
  refine rc_region ?_
  refine rd_op (ov_bin rfl rfl i_lss) ?_
  refine rd_nil ?_
  refine pn_seq ?_
  refine rc_seq ?_
  refine rc_cond rfl (fun hc113 => ?_) (fun hc113 => ?_)
  ·have hgo := hres
   have hc113' := hc113
   try simp only [Bool.or_eq_true, Bool.or_eq_false_iff, Bool.and_eq_true, Bool.and_eq_false_imp, decide_eq_true_eq, decide_eq_false_iff_not, Bool.not_eq_true', Bool.not_eq_false', Bool.not_eq_true, Bool.not_eq_false, Bool.not_true, Bool.not_false, ne_eq] at hc113'
   refine rc_skip ?_
   refine pn_seq ?_
   refine rc_seq ?_
   refine rc_block ?_
   refine rc_seq ?_
   refine rc_region ?_
   obtain ⟨v114, e114, r114⟩ := sl_idx (i := x19_) r110 (by omega) (by omega)
   refine rd_op (ov_iaddr rfl rfl e114) ?_
   refine rd_op (ov_load rfl (TR.cnt api_Header.t r114) (TR.agg api_Header.t r114)) ?_
   refine rd_allocO (x := .agg [vs [], nilS]) M0 rfl rfl (fun i115 w115 h115 M115 => ?_)
   refine rd_storeO (k := 0) (v := v114) M115 rfl rfl rfl (TR.cnt api_Header.t r114) (fun h117 M117 => ?_)
   replace M117 : Mem h117 [⟨.op i115 w115 0, 45, 2, [v114]⟩, ⟨.op i107 w107 0, 92, 4, [uE108]⟩, ⟨.op i101 w101 0, 92, 4, [.agg [vi 0, vi 0, vi 0, vi 0]]⟩] := M117
   refine rd_nil ?_
   refine pn_seq ?_
   refine rc_region ?_
   have h0_118 : 0 ≤ (0 : Int) := by omega
   have h1_118 : (0 : Int) < 4 := by omega
   refine rd_op (ov_iaddrAO rfl rfl h0_118 h1_118) ?_
   obtain ⟨v119, e119, r119⟩ := arr_load (t := tI) (i := (0 : Int)) qE108 h0_118 h1_118
   have r119 : v119 = vi (ix zE108 (0 : Int)) := r119; subst r119
   refine rd_op (ov_loadf (k := 1) M117 rfl rfl e119) ?_
   refine rd_op (ov_faddrO rfl) ?_
   obtain ⟨v120, e120, r120⟩ := api_Header.g_Fields r114
   refine rd_op (ov_loadf (k := 0) M117 rfl rfl e120) ?_
   refine rd_op (ov_bi rfl (sl_len r120 Tryz.underlying23 _)) ?_
   refine rd_op (ov_bin rfl rfl i_add) ?_
   have h0_121 : 0 ≤ (0 : Int) := by omega
   have h1_121 : (0 : Int) < 4 := by omega
   refine rd_op (ov_iaddrAO rfl rfl h0_121 h1_121) ?_
   obtain ⟨cs122, ec122, ln122, sr122⟩ := arr_store (t := tI) (i := (0 : Int)) qE108 h0_121 h1_121 (show tI.R (wr ((ix zE108 (0 : Int)) + (((ix x0.Headers x19_).Fields).length : Int))) (vi (wr ((ix zE108 (0 : Int)) + (((ix x0.Headers x19_).Fields).length : Int)))) from rfl) rfl
   refine rd_storeFA (k := 1) (v := vi (wr ((ix zE108 (0 : Int)) + (((ix x0.Headers x19_).Fields).length : Int)))) M117 rfl rfl rfl ec122 rfl ln122.1 ln122.2 (fun h122 M122 => ?_)
   replace M122 : Mem h122 [⟨.op i115 w115 0, 45, 2, [v114]⟩, ⟨.op i107 w107 0, 92, 4, [.agg (spl cs122 ((0 : Int).toNat * 1) [vi (wr ((ix zE108 (0 : Int)) + (((ix x0.Headers x19_).Fields).length : Int)))])]⟩, ⟨.op i101 w101 0, 92, 4, [.agg [vi 0, vi 0, vi 0, vi 0]]⟩] := M122
   refine rd_nil ?_
   refine pn_blk ?_
   refine pn_seq ?_
   refine rc_region ?_
   refine rd_op (ov_bin rfl rfl i_add) ?_
   refine rd_op (ov_move rfl) ?_
   refine rd_nil ?_
   refine pn_again ?_
   have hbd := sl_bound r110
   have hinc : wr (x19_ + 1) = x19_ + 1 := wr_of (by omega) (by omega)
   rw [hinc]
   refine rc_weak ?_ (ih (x19_ + 1) (zE108.set (0 : Int).toNat (wr ((ix zE108 (0 : Int)) + (((ix x0.Headers x19_).Fields).length : Int)))) (.agg (spl cs122 ((0 : Int).toNat * 1) [vi (wr ((ix zE108 (0 : Int)) + (((ix x0.Headers x19_).Fields).length : Int)))])) (show (tAr 4 tI).R (zE108.set (0 : Int).toNat (wr ((ix zE108 (0 : Int)) + (((ix x0.Headers x19_).Fields).length : Int)))) (.agg (spl cs122 ((0 : Int).toNat * 1) [vi (wr ((ix zE108 (0 : Int)) + (((ix x0.Headers x19_).Fields).length : Int)))])) from sr122) (by omega) (by omega) _ (Mem.sub M122 (.cons _ (.cons_cons _ (.cons_cons _ .slnil)))) hres)
   exact ((sub_cons rfl (sub_cons rfl (sub_cons rfl (sub_cons rfl (sub_cons rfl (sub_nil _)))))))
  ·exfalso
   try simp only [Bool.or_eq_true, Bool.or_eq_false_iff, Bool.and_eq_true, Bool.and_eq_false_imp, decide_eq_true_eq, decide_eq_false_iff_not, Bool.not_eq_true', Bool.not_eq_false', Bool.not_eq_true, Bool.not_eq_false, Bool.not_true, Bool.not_false, ne_eq] at hc113
   omega

theorem f37_ok {x0 : api_Program} {v0 : PV} (r0 : api_Program.t.R x0 v0) : ∃ r, FnR Tryz.prog 37 [v0] r ∧ (tAr 4 tI).R (access_counts x0) r := by
 obtain ⟨res, hres⟩ : ∃ res, access_counts x0 = res := ⟨_, rfl⟩
 suffices H : RC Tryz.prog ac37 [] (QR Tryz.prog [(2, some (4, true))] (RF37 res)) (argE 0 [v0]) ⟨0, []⟩ by
  rw [hres]
  exact fnE text37 (by simp) H
 unfold access_counts at hres
 unfold ac37
 refine rc_seq ?_
 refine rc_region ?_
 refine rd_op (ov_box rfl (TR.cnt api_Program.t r0)) ?_
 refine rd_allocO (x := .agg [vi 0, vi 0, vi 0, vi 0]) (Mem.nil ⟨0, []⟩) rfl rfl (fun i101 w101 h101 M101 => ?_)
 refine rd_nil ?_
 refine pn_seq ?_
 refine rc_seq ?_
 refine rc_region ?_
 obtain ⟨v103, e103, r103⟩ := api_Program.g_Headers r0
 refine rd_op (ov_faddr rfl e103) ?_
 refine rd_op (ov_load rfl (TR.cnt (tSl api_Header.t) r103) (TR.agg (tSl api_Header.t) r103)) ?_
 refine rd_op (ov_bi rfl (sl_len r103 Tryz.underlying22 _)) ?_
 obtain ⟨v104, e104, r104⟩ := api_Program.g_Metadata r0
 refine rd_op (ov_faddr rfl e104) ?_
 refine rd_op (ov_load rfl (TR.cnt (tSl api_Field.t) r104) (TR.agg (tSl api_Field.t) r104)) ?_
 refine rd_op (ov_bi rfl (sl_len r104 Tryz.underlying23 _)) ?_
 obtain ⟨v105, e105, r105⟩ := api_Program.g_Registers r0
 refine rd_op (ov_faddr rfl e105) ?_
 refine rd_op (ov_load rfl (TR.cnt (tSl api_Register.t) r105) (TR.agg (tSl api_Register.t) r105)) ?_
 refine rd_op (ov_bi rfl (sl_len r105 Tryz.underlying24 _)) ?_
 have r106 : (tAr 4 tI).R ([0, (x0.Headers.length : Int), (x0.Metadata.length : Int), (x0.Registers.length : Int)] : List Int) (.agg [vi 0, vi (x0.Headers.length : Int), vi (x0.Metadata.length : Int), vi (x0.Registers.length : Int)]) := ⟨rfl, [vi 0, vi (x0.Headers.length : Int), vi (x0.Metadata.length : Int), vi (x0.Registers.length : Int)], [vi 0, vi (x0.Headers.length : Int), vi (x0.Metadata.length : Int), vi (x0.Registers.length : Int)], ⟨rfl, ⟨rfl, ⟨rfl, ⟨rfl, trivial⟩⟩⟩⟩, rfl, rfl⟩
 refine rd_op (v := .agg [vi 0, vi (x0.Headers.length : Int), vi (x0.Metadata.length : Int), vi (x0.Registers.length : Int)]) (ov_build (cs := [vi 0, vi (x0.Headers.length : Int), vi (x0.Metadata.length : Int), vi (x0.Registers.length : Int)]) rfl rfl) ?_
 refine rd_allocO (x := .agg [vi 0, vi 0, vi 0, vi 0]) M101 rfl rfl (fun i107 w107 h107 M107 => ?_)
 refine rd_storeO (k := 0) (v := .agg [vi 0, vi (x0.Headers.length : Int), vi (x0.Metadata.length : Int), vi (x0.Registers.length : Int)]) M107 rfl rfl rfl (TR.cnt (tAr 4 tI) r106) (fun h109 M109 => ?_)
 replace M109 : Mem h109 [⟨.op i107 w107 0, 92, 4, [.agg [vi 0, vi (x0.Headers.length : Int), vi (x0.Metadata.length : Int), vi (x0.Registers.length : Int)]]⟩, ⟨.op i101 w101 0, 92, 4, [.agg [vi 0, vi 0, vi 0, vi 0]]⟩] := M109
 refine rd_nil ?_
 refine pn_seq ?_
 refine rc_seq ?_
 refine rc_seq ?_
 refine rc_region ?_
 obtain ⟨v110, e110, r110⟩ := api_Program.g_Headers r0
 refine rd_op (ov_faddr rfl e110) ?_
 refine rd_op (ov_load rfl (TR.cnt (tSl api_Header.t) r110) (TR.agg (tSl api_Header.t) r110)) ?_
 refine rd_op (ov_bi rfl (sl_len r110 Tryz.underlying22 _)) ?_
 refine rd_op (v := vi 0) (ov_move rfl) ?_
 refine rd_nil ?_
 refine pn_seq ?_
 refine rc_block ?_
 have r111 : (tAr 4 tI).R ([0, 0, 0, 0] : List Int) (.agg [vi 0, vi 0, vi 0, vi 0]) := ⟨rfl, [vi 0, vi 0, vi 0, vi 0], [vi 0, vi 0, vi 0, vi 0], ⟨rfl, ⟨rfl, ⟨rfl, ⟨rfl, trivial⟩⟩⟩⟩, rfl, rfl⟩
 refine rc_weak ?_ (access_counts_L1_ok (x0 := x0) (v110 := v110) (i101 := i101) (w101 := w101) (i107 := i107) (w107 := w107) (r110 := r110) ?_ (Int.toNat ((x0.Headers.length : Int) - 0)) 0 ([0, (x0.Headers.length : Int), (x0.Metadata.length : Int), (x0.Registers.length : Int)] : List Int) (.agg [vi 0, vi (x0.Headers.length : Int), vi (x0.Metadata.length : Int), vi (x0.Registers.length : Int)]) (show (tAr 4 tI).R ([0, (x0.Headers.length : Int), (x0.Metadata.length : Int), (x0.Registers.length : Int)] : List Int) (.agg [vi 0, vi (x0.Headers.length : Int), vi (x0.Metadata.length : Int), vi (x0.Registers.length : Int)]) from r106) rfl (by omega) _ (Mem.sub M109 (.cons_cons _ (.cons_cons _ .slnil))) hres)
 ·exact ((sub_cons rfl (sub_cons rfl (sub_cons rfl (sub_cons rfl (sub_cons rfl (sub_nil _)))))))
 ·intro zE108_123 u123E108 q123E108 h123 M123 hres
  refine px_blk ?_
  refine pn_seq ?_
  refine rc_seq ?_
  refine rc_region ?_
  refine rd_op (ov_load0 (k := 0) M123 rfl rfl (TR.agg (tAr 4 tI) q123E108)) ?_
  refine rd_storeO (k := 1) (v := u123E108) M123 rfl rfl rfl (TR.cnt (tAr 4 tI) q123E108) (fun h124 M124 => ?_)
  replace M124 : Mem h124 [⟨.op i107 w107 0, 92, 4, [u123E108]⟩, ⟨.op i101 w101 0, 92, 4, [u123E108]⟩] := M124
  refine rd_nil ?_
  refine pn_seq ?_
  subst hres
  exact rc_retV (.cell rfl (load_whole (k := 1) M124 rfl (TR.agg (tAr 4 tI) q123E108)) .nil) (deep_closed (TR.clo (tAr 4 tI) q123E108)) q123E108

/-- patchbay/access.first -/
def RF24 (res : Int) (r : PV) : Prop := r = vi res
theorem access_first_L1_ok {S : List Fr} {res : Int} {x0 : api_Program} {x1 : Int} {y101 : (List Int)} {v102 : PV} (hw101 : access_counts x0 = y101) (r102 : (tAr 4 tI).R y101 v102) {K0 : Int → Int}
  (hK0 : ∀ (x5_ : Int), K0 x5_ = res → PX Tryz.prog 0 S (QR Tryz.prog [(4, none)] (RF24 res)) [(5, vi x5_)] ⟨0, []⟩) :
  ∀ (m : Nat) (x5_ : Int) (x10_ : Int) (hm1 : m = Int.toNat (4 - x10_)) (hlo1 : 0 ≤ x10_), access_first_L1 x1 y101 K0 m x5_ x10_ = res → RC Tryz.prog (.loop ac24_L1) S (QR Tryz.prog [(4, none)] (RF24 res)) [(10, vi x10_), (9, v102), (5, vi x5_), (1, vi x1)] ⟨0, []⟩ := by
 intro m
 induction m with
 | zero =>
  intro x5_ x10_ hm1 hlo1 hres
  rw [access_first_L1] at hres
  refine rc_loop ?_
  unfold ac24_L1
  refine rc_seq ?_
  refine rc_region ?_
  refine rd_op (ov_bin rfl rfl i_lss) ?_
  refine rd_nil ?_
  refine pn_seq ?_
  refine rc_seq ?_
  refine rc_cond rfl (fun hc103 => ?_) (fun hc103 => ?_)
  ·exfalso
   try simp only [Bool.or_eq_true, Bool.or_eq_false_iff, Bool.and_eq_true, Bool.and_eq_false_imp, decide_eq_true_eq, decide_eq_false_iff_not, Bool.not_eq_true', Bool.not_eq_false', Bool.not_eq_true, Bool.not_eq_false, Bool.not_true, Bool.not_false, ne_eq] at hc103
   omega
  ·have hend := hres
   have hc103' := hc103
   try simp only [Bool.or_eq_true, Bool.or_eq_false_iff, Bool.and_eq_true, Bool.and_eq_false_imp, decide_eq_true_eq, decide_eq_false_iff_not, Bool.not_eq_true', Bool.not_eq_false', Bool.not_eq_true, Bool.not_eq_false, Bool.not_true, Bool.not_false, ne_eq] at hc103'
   refine rc_exit ?_
   refine px_seq ?_
   refine px_again ?_
   exact px_weak ((sub_cons rfl (sub_nil _))) (hK0 x5_ hres)
 | succ m ih =>
  intro x5_ x10_ hm1 hlo1 hres
  rw [access_first_L1] at hres
  refine rc_loop ?_
  unfold ac24_L1
  refine rc_seq ?_
  refine rc_region ?_
  refine rd_op (ov_bin rfl rfl i_lss) ?_
  refine rd_nil ?_
  refine pn_seq ?_
  refine rc_seq ?_
  refine rc_cond rfl (fun hc104 => ?_) (fun hc104 => ?_)
  ·have hgo := hres
   have hc104' := hc104
   try simp only [Bool.or_eq_true, Bool.or_eq_false_iff, Bool.and_eq_true, Bool.and_eq_false_imp, decide_eq_true_eq, decide_eq_false_iff_not, Bool.not_eq_true', Bool.not_eq_false', Bool.not_eq_true, Bool.not_eq_false, Bool.not_true, Bool.not_false, ne_eq] at hc104'
   refine rc_skip ?_
   refine pn_seq ?_
   refine rc_seq ?_
   refine rc_block ?_
   refine rc_seq ?_
   refine rc_region ?_
   refine rd_op (ov_move rfl) ?_
   obtain ⟨v105, e105, r105⟩ := arr_idx (t := tI) r102 (i := x10_) (by omega) (by omega)
   have r105 : v105 = vi (ix y101 x10_) := r105; subst r105
   refine rd_op (ov_indexA rfl rfl e105) ?_
   refine rd_op (ov_move rfl) ?_
   refine rd_op (ov_move rfl) ?_
   refine rd_nil ?_
   refine pn_seq ?_
   refine rc_seq ?_
   refine rc_region ?_
   refine rd_op (ov_move rfl) ?_
   refine rd_op (ov_move rfl) ?_
   refine rd_op (ov_bin rfl rfl i_lss) ?_
   refine rd_nil ?_
   refine pn_seq ?_
   refine rc_cond rfl (fun hc106 => ?_) (fun hc106 => ?_)
   ·replace hres := (ite_t hc106).symm.trans hres
    have hc106' := hc106
    try simp only [Bool.or_eq_true, Bool.or_eq_false_iff, Bool.and_eq_true, Bool.and_eq_false_imp, decide_eq_true_eq, decide_eq_false_iff_not, Bool.not_eq_true', Bool.not_eq_false', Bool.not_eq_true, Bool.not_eq_false, Bool.not_true, Bool.not_false, ne_eq] at hc106'
    refine rc_region ?_
    refine rd_op (ov_move rfl) ?_
    refine rd_op (ov_move rfl) ?_
    refine rd_op (ov_bin rfl rfl i_add) ?_
    refine rd_op (ov_move rfl) ?_
    refine rd_nil ?_
    refine pn_blk ?_
    refine pn_seq ?_
    refine rc_region ?_
    refine rd_op (ov_bin rfl rfl i_add) ?_
    refine rd_op (ov_move rfl) ?_
    refine rd_nil ?_
    refine pn_again ?_
    have hinc : wr (x10_ + 1) = x10_ + 1 := wr_of (by omega) (by omega)
    rw [hinc]
    refine rc_weak ?_ (ih (wr (x5_ + (ix y101 x10_))) (x10_ + 1)  (by omega) (by omega) hres)
    exact ((sub_cons rfl (sub_cons rfl (sub_cons rfl (sub_cons rfl (sub_nil _))))))
   ·replace hres := (ite_f hc106).symm.trans hres
    have hc106' := hc106
    try simp only [Bool.or_eq_true, Bool.or_eq_false_iff, Bool.and_eq_true, Bool.and_eq_false_imp, decide_eq_true_eq, decide_eq_false_iff_not, Bool.not_eq_true', Bool.not_eq_false', Bool.not_eq_true, Bool.not_eq_false, Bool.not_true, Bool.not_false, ne_eq] at hc106'
    refine rc_skip ?_
    refine pn_blk ?_
    refine pn_seq ?_
    refine rc_region ?_
    refine rd_op (ov_bin rfl rfl i_add) ?_
    refine rd_op (ov_move rfl) ?_
    refine rd_nil ?_
    refine pn_again ?_
    have hinc : wr (x10_ + 1) = x10_ + 1 := wr_of (by omega) (by omega)
    rw [hinc]
    refine rc_weak ?_ (ih x5_ (x10_ + 1)  (by omega) (by omega) hres)
    exact ((sub_cons rfl (sub_cons rfl (sub_cons rfl (sub_cons rfl (sub_nil _))))))
  ·exfalso
   try simp only [Bool.or_eq_true, Bool.or_eq_false_iff, Bool.and_eq_true, Bool.and_eq_false_imp, decide_eq_true_eq, decide_eq_false_iff_not, Bool.not_eq_true', Bool.not_eq_false', Bool.not_eq_true, Bool.not_eq_false, Bool.not_true, Bool.not_false, ne_eq] at hc104
   omega

theorem f24_ok {x0 : api_Program} {x1 : Int} {v0 : PV} (r0 : api_Program.t.R x0 v0) : FnR Tryz.prog 24 [v0, vi x1] (vi (access_first x0 x1)) := by
 obtain ⟨res, hres⟩ : ∃ res, access_first x0 x1 = res := ⟨_, rfl⟩
 suffices H : RC Tryz.prog ac24 [] (QR Tryz.prog [(4, none)] (RF24 res)) (argE 0 [v0, vi x1]) ⟨0, []⟩ by
  obtain ⟨r, h1, h2⟩ := fnE text24 (by simp) H
  rw [hres]
  have h2 : r = vi res := h2
  rw [← h2]; exact h1
 unfold access_first at hres
 unfold ac24
 refine rc_seq ?_
 refine rc_region ?_
 refine rd_op (ov_box rfl (TR.cnt api_Program.t r0)) ?_
 refine rd_op (v := vi 0) (ov_move rfl) ?_
 refine rd_nil ?_
 refine pn_seq ?_
 refine rc_seq ?_
 refine rc_region ?_
 refine rd_op (v := vi 0) (ov_move rfl) ?_
 refine rd_nil ?_
 refine pn_seq ?_
 refine rc_seq ?_
 refine rc_seq ?_
 refine rc_region ?_
 refine rd_op (ov_load rfl (TR.cnt api_Program.t r0) (TR.agg api_Program.t r0)) ?_
 obtain ⟨y101, hw101, hres⟩ := let_ex hres
 obtain ⟨v102, f101, r102⟩ := f37_ok  r0 
 rw [hw101] at r102
 refine rd_call (cv_fn rfl rfl (clL_cons (TR.clo api_Program.t r0) clL_nil) f101) ?_
 refine rd_op (v := vi 0) (ov_move rfl) ?_
 refine rd_nil ?_
 refine pn_seq ?_
 refine rc_block ?_
 refine rc_weak ?_ (access_first_L1_ok (x0 := x0) (x1 := x1) (y101 := y101) (v102 := v102)  (hw101 := hw101) (r102 := r102) ?_ (Int.toNat (4 - 0)) 0 0 rfl (by omega) hres)
 ·exact ((sub_cons rfl (sub_cons rfl (sub_cons rfl (sub_cons rfl (sub_nil _))))))
 ·intro x5_107 hres
  refine px_blk ?_
  refine pn_seq ?_
  refine rc_seq ?_
  refine rc_region ?_
  refine rd_op (ov_move rfl) ?_
  refine rd_op (ov_move rfl) ?_
  refine rd_nil ?_
  refine pn_seq ?_
  subst hres
  exact rc_retV (.tmp rfl .nil) (deep_closed rfl) rfl

/-- patchbay/access.Cells -/
def RF6 (res : Int) (r : PV) : Prop := r = vi res
theorem f6_ok {x0 : api_Program} {v0 : PV} (r0 : api_Program.t.R x0 v0) : FnR Tryz.prog 6 [v0] (vi (access_Cells x0)) := by
 obtain ⟨res, hres⟩ : ∃ res, access_Cells x0 = res := ⟨_, rfl⟩
 suffices H : RC Tryz.prog ac6 [] (QR Tryz.prog [(2, none)] (RF6 res)) (argE 0 [v0]) ⟨0, []⟩ by
  obtain ⟨r, h1, h2⟩ := fnE text6 (by simp) H
  rw [hres]
  have h2 : r = vi res := h2
  rw [← h2]; exact h1
 unfold access_Cells at hres
 unfold ac6
 refine rc_seq ?_
 refine rc_region ?_
 refine rd_op (ov_box rfl (TR.cnt api_Program.t r0)) ?_
 refine rd_op (v := vi 0) (ov_move rfl) ?_
 refine rd_nil ?_
 refine pn_seq ?_
 refine rc_seq ?_
 refine rc_region ?_
 refine rd_op (ov_load rfl (TR.cnt api_Program.t r0) (TR.agg api_Program.t r0)) ?_
 obtain ⟨y101, hw101, hres⟩ := let_ex hres
 have f101 := f24_ok (x1 := 4) r0 
 rw [hw101] at f101
 refine rd_call (cv_fn rfl rfl (clL_cons (TR.clo api_Program.t r0) (clL_cons rfl clL_nil)) f101) ?_
 refine rd_op (ov_move rfl) ?_
 refine rd_nil ?_
 refine pn_seq ?_
 subst hres
 exact rc_retV (.tmp rfl .nil) (deep_closed rfl) rfl

/-- patchbay/patchbayref31.fields -/
def RF25 (res : Int) (r : PV) : Prop := r = vi res
theorem ref31_fields_L1_ok {S : List Fr} {res : Int} {x0 : api_Program} {x1 : Int} {v0 : PV} (r0 : api_Program.t.R x0 v0) (hh : x1 ≤ (x0.Headers.length : Int)) (hs : x0.Headers.length ≤ 1000) {K0 : Int → Int}
  (hK0 : ∀ (x5_ : Int), K0 x5_ = res → PX Tryz.prog 0 S (QR Tryz.prog [(4, none)] (RF25 res)) [(5, vi x5_)] ⟨0, []⟩) :
  ∀ (m : Nat) (x5_ : Int) (x6_ : Int) (hm1 : m = Int.toNat (x1 - x6_)) (hlo1 : 0 ≤ x6_), ref31_fields_L1 x0 K0 m x5_ x6_ = res → RC Tryz.prog (.loop ac25_L1) S (QR Tryz.prog [(4, none)] (RF25 res)) [(6, vi x6_), (5, vi x5_), (2, .fp v0), (1, vi x1)] ⟨0, []⟩ := by
 intro m
 induction m with
 | zero =>
  intro x5_ x6_ hm1 hlo1 hres
  rw [ref31_fields_L1] at hres
  refine rc_loop ?_
  unfold ac25_L1
  refine rc_seq ?_
  refine rc_seq ?_
  refine rc_region ?_
  refine rd_op (ov_move rfl) ?_
  refine rd_op (ov_move rfl) ?_
  refine rd_op (ov_bin rfl rfl i_lss) ?_
  refine rd_nil ?_
  refine pn_seq ?_
  refine rc_cond rfl (fun hc101 => ?_) (fun hc101 => ?_)
  ·exfalso
   try simp only [Bool.or_eq_true, Bool.or_eq_false_iff, Bool.and_eq_true, Bool.and_eq_false_imp, decide_eq_true_eq, decide_eq_false_iff_not, Bool.not_eq_true', Bool.not_eq_false', Bool.not_eq_true, Bool.not_eq_false, Bool.not_true, Bool.not_false, ne_eq] at hc101
   omega
  ·have hend := hres
   have hc101' := hc101
   try simp only [Bool.or_eq_true, Bool.or_eq_false_iff, Bool.and_eq_true, Bool.and_eq_false_imp, decide_eq_true_eq, decide_eq_false_iff_not, Bool.not_eq_true', Bool.not_eq_false', Bool.not_eq_true, Bool.not_eq_false, Bool.not_true, Bool.not_false, ne_eq] at hc101'
   refine rc_exit ?_
   refine px_seq ?_
   refine px_again ?_
   exact px_weak ((sub_cons rfl (sub_nil _))) (hK0 x5_ hres)
 | succ m ih =>
  intro x5_ x6_ hm1 hlo1 hres
  rw [ref31_fields_L1] at hres
  refine rc_loop ?_
  unfold ac25_L1
  refine rc_seq ?_
  refine rc_seq ?_
  refine rc_region ?_
  refine rd_op (ov_move rfl) ?_
  refine rd_op (ov_move rfl) ?_
  refine rd_op (ov_bin rfl rfl i_lss) ?_
  refine rd_nil ?_
  refine pn_seq ?_
  refine rc_cond rfl (fun hc102 => ?_) (fun hc102 => ?_)
  ·have hgo := hres
   have hc102' := hc102
   try simp only [Bool.or_eq_true, Bool.or_eq_false_iff, Bool.and_eq_true, Bool.and_eq_false_imp, decide_eq_true_eq, decide_eq_false_iff_not, Bool.not_eq_true', Bool.not_eq_false', Bool.not_eq_true, Bool.not_eq_false, Bool.not_true, Bool.not_false, ne_eq] at hc102'
   refine rc_skip ?_
   refine pn_seq ?_
   refine rc_seq ?_
   refine rc_block ?_
   refine rc_region ?_
   refine rd_op (ov_move rfl) ?_
   obtain ⟨v103, e103, r103⟩ := api_Program.g_Headers r0
   refine rd_op (ov_faddr rfl e103) ?_
   refine rd_op (ov_load rfl (TR.cnt (tSl api_Header.t) r103) (TR.agg (tSl api_Header.t) r103)) ?_
   refine rd_op (ov_move rfl) ?_
   obtain ⟨v104, e104, r104⟩ := sl_idx (i := x6_) r103 (by omega) (by omega)
   refine rd_op (ov_iaddr rfl rfl e104) ?_
   obtain ⟨v105, e105, r105⟩ := api_Header.g_Fields r104
   refine rd_op (ov_faddr rfl e105) ?_
   refine rd_op (ov_load rfl (TR.cnt (tSl api_Field.t) r105) (TR.agg (tSl api_Field.t) r105)) ?_
   refine rd_op (ov_bi rfl (sl_len r105 Tryz.underlying23 _)) ?_
   refine rd_op (ov_bin rfl rfl i_add) ?_
   refine rd_op (ov_move rfl) ?_
   refine rd_nil ?_
   refine pn_blk ?_
   refine pn_seq ?_
   refine rc_region ?_
   refine rd_op (ov_move rfl) ?_
   refine rd_op (ov_bin rfl rfl i_add) ?_
   refine rd_op (ov_move rfl) ?_
   refine rd_nil ?_
   refine pn_again ?_
   have hinc : wr (x6_ + 1) = x6_ + 1 := wr_of (by omega) (by omega)
   rw [hinc]
   refine rc_weak ?_ (ih (wr (x5_ + (((ix x0.Headers x6_).Fields).length : Int))) (x6_ + 1)  (by omega) (by omega) hres)
   exact ((sub_cons rfl (sub_cons rfl (sub_cons rfl (sub_cons rfl (sub_nil _))))))
  ·exfalso
   try simp only [Bool.or_eq_true, Bool.or_eq_false_iff, Bool.and_eq_true, Bool.and_eq_false_imp, decide_eq_true_eq, decide_eq_false_iff_not, Bool.not_eq_true', Bool.not_eq_false', Bool.not_eq_true, Bool.not_eq_false, Bool.not_true, Bool.not_false, ne_eq] at hc102
   omega

theorem f25_ok {x0 : api_Program} {x1 : Int} {v0 : PV} (r0 : api_Program.t.R x0 v0) (hh : x1 ≤ (x0.Headers.length : Int)) (hs : x0.Headers.length ≤ 1000) : FnR Tryz.prog 25 [v0, vi x1] (vi (ref31_fields x0 x1)) := by
 obtain ⟨res, hres⟩ : ∃ res, ref31_fields x0 x1 = res := ⟨_, rfl⟩
 suffices H : RC Tryz.prog ac25 [] (QR Tryz.prog [(4, none)] (RF25 res)) (argE 0 [v0, vi x1]) ⟨0, []⟩ by
  obtain ⟨r, h1, h2⟩ := fnE text25 (by simp) H
  rw [hres]
  have h2 : r = vi res := h2
  rw [← h2]; exact h1
 unfold ref31_fields at hres
 unfold ac25
 refine rc_seq ?_
 refine rc_region ?_
 refine rd_op (ov_box rfl (TR.cnt api_Program.t r0)) ?_
 refine rd_op (v := vi 0) (ov_move rfl) ?_
 refine rd_nil ?_
 refine pn_seq ?_
 refine rc_seq ?_
 refine rc_region ?_
 refine rd_op (v := vi 0) (ov_move rfl) ?_
 refine rd_nil ?_
 refine pn_seq ?_
 refine rc_seq ?_
 refine rc_seq ?_
 refine rc_region ?_
 refine rd_op (v := vi 0) (ov_move rfl) ?_
 refine rd_nil ?_
 refine pn_seq ?_
 refine rc_block ?_
 refine rc_weak ?_ (ref31_fields_L1_ok (x0 := x0) (x1 := x1) (v0 := v0)  (r0 := r0) (hh := hh) (hs := hs) ?_ (Int.toNat (x1 - 0)) 0 0 rfl (by omega) hres)
 ·exact ((sub_cons rfl (sub_cons rfl (sub_cons rfl (sub_cons rfl (sub_nil _))))))
 ·intro x5_106 hres
  refine px_blk ?_
  refine pn_seq ?_
  refine rc_seq ?_
  refine rc_region ?_
  refine rd_op (ov_move rfl) ?_
  refine rd_op (ov_move rfl) ?_
  refine rd_nil ?_
  refine pn_seq ?_
  subst hres
  exact rc_retV (.tmp rfl .nil) (deep_closed rfl) rfl

/-- patchbay/patchbayref31.Cells -/
def RF7 (res : Int) (r : PV) : Prop := r = vi res
theorem f7_ok {x0 : api_Program} {v0 : PV} (r0 : api_Program.t.R x0 v0) (hs : x0.Headers.length ≤ 1000) : FnR Tryz.prog 7 [v0] (vi (ref31_Cells x0)) := by
 obtain ⟨res, hres⟩ : ∃ res, ref31_Cells x0 = res := ⟨_, rfl⟩
 suffices H : RC Tryz.prog ac7 [] (QR Tryz.prog [(2, none)] (RF7 res)) (argE 0 [v0]) ⟨0, []⟩ by
  obtain ⟨r, h1, h2⟩ := fnE text7 (by simp) H
  rw [hres]
  have h2 : r = vi res := h2
  rw [← h2]; exact h1
 unfold ref31_Cells at hres
 unfold ac7
 refine rc_seq ?_
 refine rc_region ?_
 refine rd_op (ov_box rfl (TR.cnt api_Program.t r0)) ?_
 refine rd_op (v := vi 0) (ov_move rfl) ?_
 refine rd_nil ?_
 refine pn_seq ?_
 refine rc_seq ?_
 refine rc_region ?_
 refine rd_op (ov_load rfl (TR.cnt api_Program.t r0) (TR.agg api_Program.t r0)) ?_
 obtain ⟨v101, e101, r101⟩ := api_Program.g_Headers r0
 refine rd_op (ov_faddr rfl e101) ?_
 refine rd_op (ov_load rfl (TR.cnt (tSl api_Header.t) r101) (TR.agg (tSl api_Header.t) r101)) ?_
 refine rd_op (ov_bi rfl (sl_len r101 Tryz.underlying22 _)) ?_
 obtain ⟨y102, hw102, hres⟩ := let_ex hres
 have f102 := f25_ok (x1 := (x0.Headers.length : Int)) r0 (by first | assumption | omega | (rw [wr_of (by omega) (by omega)]; omega) | (have hk := tl (by assumption) (by assumption); omega)) (by first | assumption | omega | (rw [wr_of (by omega) (by omega)]; omega) | (have hk := tl (by assumption) (by assumption); omega))
 rw [hw102] at f102
 refine rd_call (cv_fn rfl rfl (clL_cons (TR.clo api_Program.t r0) (clL_cons rfl clL_nil)) f102) ?_
 obtain ⟨v103, e103, r103⟩ := api_Program.g_Headers r0
 refine rd_op (ov_faddr rfl e103) ?_
 refine rd_op (ov_load rfl (TR.cnt (tSl api_Header.t) r103) (TR.agg (tSl api_Header.t) r103)) ?_
 refine rd_op (ov_bi rfl (sl_len r103 Tryz.underlying22 _)) ?_
 refine rd_op (ov_bin rfl rfl i_add) ?_
 obtain ⟨v104, e104, r104⟩ := api_Program.g_Metadata r0
 refine rd_op (ov_faddr rfl e104) ?_
 refine rd_op (ov_load rfl (TR.cnt (tSl api_Field.t) r104) (TR.agg (tSl api_Field.t) r104)) ?_
 refine rd_op (ov_bi rfl (sl_len r104 Tryz.underlying23 _)) ?_
 refine rd_op (ov_bin rfl rfl i_add) ?_
 obtain ⟨v105, e105, r105⟩ := api_Program.g_Registers r0
 refine rd_op (ov_faddr rfl e105) ?_
 refine rd_op (ov_load rfl (TR.cnt (tSl api_Register.t) r105) (TR.agg (tSl api_Register.t) r105)) ?_
 refine rd_op (ov_bi rfl (sl_len r105 Tryz.underlying24 _)) ?_
 refine rd_op (ov_bin rfl rfl i_add) ?_
 refine rd_op (ov_move rfl) ?_
 refine rd_nil ?_
 refine pn_seq ?_
 subst hres
 exact rc_retV (.tmp rfl .nil) (deep_closed rfl) rfl

/-- patchbay/access.cell -/
def RF26 (res : Int) (r : PV) : Prop := r = vi res
theorem f26_ok {x0 : api_Program} {x1 : Int} {x2 : Int} {v0 : PV} (r0 : api_Program.t.R x0 v0) (hk : 0 ≤ x1 ∧ x1 ≤ 3) : FnR Tryz.prog 26 [v0, vi x1, vi x2] (vi (access_cell x0 x1 x2)) := by
 obtain ⟨res, hres⟩ : ∃ res, access_cell x0 x1 x2 = res := ⟨_, rfl⟩
 suffices H : RC Tryz.prog ac26 [] (QR Tryz.prog [(6, none)] (RF26 res)) (argE 0 [v0, vi x1, vi x2]) ⟨0, []⟩ by
  obtain ⟨r, h1, h2⟩ := fnE text26 (by simp) H
  rw [hres]
  have h2 : r = vi res := h2
  rw [← h2]; exact h1
 unfold access_cell at hres
 unfold ac26
 refine rc_seq ?_
 refine rc_region ?_
 refine rd_op (ov_box rfl (TR.cnt api_Program.t r0)) ?_
 refine rd_op (v := vi 0) (ov_move rfl) ?_
 refine rd_nil ?_
 refine pn_seq ?_
 refine rc_seq ?_
 refine rc_seq ?_
 refine rc_region ?_
 refine rd_op (ov_move rfl) ?_
 refine rd_op (ov_bin rfl rfl i_lss) ?_
 refine rd_op (ov_move rfl) ?_
 refine rd_cut (d := 16) (v := vb ((decide (x2 < 0)) || (decide ((ix (access_counts x0) x1) ≤ x2)))) ?_ ?_
 ·intro S Q r
  simp only [ac26_G1, List.cons_append, List.nil_append, List.append_assoc]
  cases hb101 : (decide (x2 < 0))
  ·intro k
   have hb101' := hb101
   try simp only [Bool.or_eq_true, Bool.or_eq_false_iff, Bool.and_eq_true, Bool.and_eq_false_imp, decide_eq_true_eq, decide_eq_false_iff_not, Bool.not_eq_true', Bool.not_eq_false', Bool.not_eq_true, Bool.not_eq_false, Bool.not_true, Bool.not_false, ne_eq] at hb101'
   refine rd_yes rfl rfl (ov_move rfl) ?_
   refine rd_yes rfl rfl (ov_load rfl (TR.cnt api_Program.t r0) (TR.agg api_Program.t r0)) ?_
   obtain ⟨v103, f102, r103⟩ := f37_ok  r0 
   refine rd_ycall rfl rfl (cv_fn rfl rfl (clL_cons (TR.clo api_Program.t r0) clL_nil) f102) ?_
   refine rd_yes rfl rfl (ov_move rfl) ?_
   obtain ⟨v104, e104, r104⟩ := arr_idx (t := tI) r103 (i := x1) (by omega) (by omega)
   have r104 : v104 = vi (ix (access_counts x0) x1) := r104; subst r104
   refine rd_yes rfl rfl (ov_indexA rfl rfl e104) ?_
   refine rd_yes rfl rfl (ov_bin rfl rfl i_geq) ?_
   refine rd_op (v := vb (decide ((ix (access_counts x0) x1) ≤ x2))) (ov_pick rfl rfl rfl rfl) ?_
   exact rd_weak (sub_cons rfl (sub_skip rfl (sub_skip rfl (sub_skip rfl (sub_skip rfl (sub_skip rfl (sub_skip rfl (sub_skip rfl (sub_refl _))))))))) k
  ·intro k
   refine rd_skip rfl rfl ?_
   refine rd_skip rfl rfl ?_
   refine rd_skip rfl rfl ?_
   refine rd_skip rfl rfl ?_
   refine rd_skip rfl rfl ?_
   refine rd_skip rfl rfl ?_
   refine rd_op (v := vb true) (ov_pick rfl rfl rfl rfl) ?_
   exact rd_weak (sub_cons rfl (sub_skip rfl (sub_skip rfl (sub_skip rfl (sub_skip rfl (sub_skip rfl (sub_skip rfl (sub_skip rfl (sub_refl _))))))))) k
 refine rd_nil ?_
 refine pn_seq ?_
 refine rc_cond rfl (fun hc105 => ?_) (fun hc105 => ?_)
 ·replace hres := (ite_t hc105).symm.trans hres
  have hc105' := hc105
  try simp only [Bool.or_eq_true, Bool.or_eq_false_iff, Bool.and_eq_true, Bool.and_eq_false_imp, decide_eq_true_eq, decide_eq_false_iff_not, Bool.not_eq_true', Bool.not_eq_false', Bool.not_eq_true, Bool.not_eq_false, Bool.not_true, Bool.not_false, ne_eq] at hc105'
  refine rc_seq ?_
  refine rc_region ?_
  refine rd_op (v := vi (-1)) (ov_move rfl) ?_
  refine rd_nil ?_
  refine pn_seq ?_
  subst hres
  exact rc_retV (.tmp rfl .nil) (deep_closed rfl) rfl
 ·replace hres := (ite_f hc105).symm.trans hres
  have hc105' := hc105
  try simp only [Bool.or_eq_true, Bool.or_eq_false_iff, Bool.and_eq_true, Bool.and_eq_false_imp, decide_eq_true_eq, decide_eq_false_iff_not, Bool.not_eq_true', Bool.not_eq_false', Bool.not_eq_true, Bool.not_eq_false, Bool.not_true, Bool.not_false, ne_eq] at hc105'
  refine rc_skip ?_
  refine pn_seq ?_
  refine rc_seq ?_
  refine rc_region ?_
  refine rd_op (ov_load rfl (TR.cnt api_Program.t r0) (TR.agg api_Program.t r0)) ?_
  refine rd_op (ov_move rfl) ?_
  obtain ⟨y106, hw106, hres⟩ := let_ex hres
  have f106 := f24_ok (x1 := x1) r0 
  rw [hw106] at f106
  refine rd_call (cv_fn rfl rfl (clL_cons (TR.clo api_Program.t r0) (clL_cons rfl clL_nil)) f106) ?_
  refine rd_op (ov_move rfl) ?_
  refine rd_op (ov_bin rfl rfl i_add) ?_
  refine rd_op (ov_move rfl) ?_
  refine rd_nil ?_
  refine pn_seq ?_
  subst hres
  exact rc_retV (.tmp rfl .nil) (deep_closed rfl) rfl

/-- patchbay/access.FieldCell -/
def RF8 (res : Int) (r : PV) : Prop := r = vi res
theorem access_FieldCell_L1_ok {S : List Fr} {res : Int} {x0 : api_Program} {x1 : api_FieldRef} {v112 : PV} (hc101 : (decide (x1.Header = (-1))) = false) (hc110 : ((((decide (x1.Header < 0)) || (decide ((x0.Headers.length : Int) ≤ x1.Header))) || (decide (x1.Field < 0))) || (decide ((((ix x0.Headers x1.Header).Fields).length : Int) ≤ x1.Field))) = false) (hl112 : ((sub x0.Headers 0 x1.Header).length : Int) = x1.Header - 0) (r112 : (tSl api_Header.t).R (sub x0.Headers 0 x1.Header) v112) {K0 : Int → Int}
  (hK0 : ∀ (x5_ : Int) (h : Heap) (M0 : Mem h []), K0 x5_ = res → PX Tryz.prog 0 S (QR Tryz.prog [(4, none)] (RF8 res)) [(5, vi x5_)] h) :
  ∀ (m : Nat) (x5_ : Int) (x52_ : Int) (hm1 : m = Int.toNat (((sub x0.Headers 0 x1.Header).length : Int) - x52_)) (hlo1 : 0 ≤ x52_) (h : Heap) (M0 : Mem h []), access_FieldCell_L1 x0 x1 K0 m x5_ x52_ = res → RC Tryz.prog (.loop ac8_L1) S (QR Tryz.prog [(4, none)] (RF8 res)) [(52, vi x52_), (51, vi ((sub x0.Headers 0 x1.Header).length : Int)), (50, v112), (5, vi x5_)] h := by
 have hc101' := hc101
 try simp only [Bool.or_eq_true, Bool.or_eq_false_iff, Bool.and_eq_true, Bool.and_eq_false_imp, decide_eq_true_eq, decide_eq_false_iff_not, Bool.not_eq_true', Bool.not_eq_false', Bool.not_eq_true, Bool.not_eq_false, Bool.not_true, Bool.not_false, ne_eq] at hc101'
 have hc110' := hc110
 try simp only [Bool.or_eq_true, Bool.or_eq_false_iff, Bool.and_eq_true, Bool.and_eq_false_imp, decide_eq_true_eq, decide_eq_false_iff_not, Bool.not_eq_true', Bool.not_eq_false', Bool.not_eq_true, Bool.not_eq_false, Bool.not_true, Bool.not_false, ne_eq] at hc110'
 intro m
 induction m with
 | zero =>
  intro x5_ x52_ hm1 hlo1 h M0 hres
  rw [access_FieldCell_L1] at hres
  refine rc_loop ?_
  unfold ac8_L1
  refine rc_seq ?_
  refine rc_region ?_
  refine rd_op (ov_bin rfl rfl i_lss) ?_
  refine rd_nil ?_
  refine pn_seq ?_
  refine rc_seq ?_
  refine rc_cond rfl (fun hc113 => ?_) (fun hc113 => ?_)
  ·exfalso
   try simp only [Bool.or_eq_true, Bool.or_eq_false_iff, Bool.and_eq_true, Bool.and_eq_false_imp, decide_eq_true_eq, decide_eq_false_iff_not, Bool.not_eq_true', Bool.not_eq_false', Bool.not_eq_true, Bool.not_eq_false, Bool.not_true, Bool.not_false, ne_eq] at hc113
   omega
  ·have hend := hres
   have hc113' := hc113
   try simp only [Bool.or_eq_true, Bool.or_eq_false_iff, Bool.and_eq_true, Bool.and_eq_false_imp, decide_eq_true_eq, decide_eq_false_iff_not, Bool.not_eq_true', Bool.not_eq_false', Bool.not_eq_true, Bool.not_eq_false, Bool.not_true, Bool.not_false, ne_eq] at hc113'
   refine rc_exit ?_
   refine px_seq ?_
   refine px_again ?_
   exact px_weak ((sub_cons rfl (sub_nil _))) (hK0 x5_ _ (Mem.sub M0 .slnil) hres)
 | succ m ih =>
  intro x5_ x52_ hm1 hlo1 h M0 hres
  rw [access_FieldCell_L1] at hres
  refine rc_loop ?_
  unfold ac8_L1
  refine rc_seq ?_
  refine rc_region ?_
  refine rd_op (ov_bin rfl rfl i_lss) ?_
  refine rd_nil ?_
  refine pn_seq ?_
  refine rc_seq ?_
  refine rc_cond rfl (fun hc114 => ?_) (fun hc114 => ?_)
  ·have hgo := hres
   have hc114' := hc114
   try simp only [Bool.or_eq_true, Bool.or_eq_false_iff, Bool.and_eq_true, Bool.and_eq_false_imp, decide_eq_true_eq, decide_eq_false_iff_not, Bool.not_eq_true', Bool.not_eq_false', Bool.not_eq_true, Bool.not_eq_false, Bool.not_true, Bool.not_false, ne_eq] at hc114'
   refine rc_skip ?_
   refine pn_seq ?_
   refine rc_seq ?_
   refine rc_block ?_
   refine rc_seq ?_
   refine rc_region ?_
   obtain ⟨v115, e115, r115⟩ := sl_idx (i := x52_) r112 (by omega) (by omega)
   refine rd_op (ov_iaddr rfl rfl e115) ?_
   refine rd_op (ov_load rfl (TR.cnt api_Header.t r115) (TR.agg api_Header.t r115)) ?_
   refine rd_allocO (x := .agg [vs [], nilS]) M0 rfl rfl (fun i116 w116 h116 M116 => ?_)
   refine rd_storeO (k := 0) (v := v115) M116 rfl rfl rfl (TR.cnt api_Header.t r115) (fun h118 M118 => ?_)
   replace M118 : Mem h118 [⟨.op i116 w116 0, 45, 2, [v115]⟩] := M118
   refine rd_nil ?_
   refine pn_seq ?_
   refine rc_region ?_
   refine rd_op (ov_move rfl) ?_
   refine rd_op (ov_faddrO rfl) ?_
   obtain ⟨v119, e119, r119⟩ := api_Header.g_Fields r115
   refine rd_op (ov_loadf (k := 0) M118 rfl rfl e119) ?_
   refine rd_op (ov_bi rfl (sl_len r119 Tryz.underlying23 _)) ?_
   refine rd_op (ov_bin rfl rfl i_add) ?_
   refine rd_op (ov_move rfl) ?_
   refine rd_nil ?_
   refine pn_blk ?_
   refine pn_seq ?_
   refine rc_region ?_
   refine rd_op (ov_bin rfl rfl i_add) ?_
   refine rd_op (ov_move rfl) ?_
   refine rd_nil ?_
   refine pn_again ?_
   have hbd := sl_bound r112
   have hinc : wr (x52_ + 1) = x52_ + 1 := wr_of (by omega) (by omega)
   rw [hinc]
   refine rc_weak ?_ (ih (wr (x5_ + (((ix (sub x0.Headers 0 x1.Header) x52_).Fields).length : Int))) (x52_ + 1)  (by omega) (by omega) _ (Mem.sub M118 (.cons _ .slnil)) hres)
   exact ((sub_cons rfl (sub_cons rfl (sub_cons rfl (sub_cons rfl (sub_nil _))))))
  ·exfalso
   try simp only [Bool.or_eq_true, Bool.or_eq_false_iff, Bool.and_eq_true, Bool.and_eq_false_imp, decide_eq_true_eq, decide_eq_false_iff_not, Bool.not_eq_true', Bool.not_eq_false', Bool.not_eq_true, Bool.not_eq_false, Bool.not_true, Bool.not_false, ne_eq] at hc114
   omega

theorem f8_ok {x0 : api_Program} {x1 : api_FieldRef} {v0 : PV} {v1 : PV} (r0 : api_Program.t.R x0 v0) (r1 : api_FieldRef.t.R x1 v1) : FnR Tryz.prog 8 [v0, v1] (vi (access_FieldCell x0 x1)) := by
 obtain ⟨res, hres⟩ : ∃ res, access_FieldCell x0 x1 = res := ⟨_, rfl⟩
 suffices H : RC Tryz.prog ac8 [] (QR Tryz.prog [(4, none)] (RF8 res)) (argE 0 [v0, v1]) ⟨0, []⟩ by
  obtain ⟨r, h1, h2⟩ := fnE text8 (by simp) H
  rw [hres]
  have h2 : r = vi res := h2
  rw [← h2]; exact h1
 unfold access_FieldCell at hres
 unfold ac8
 refine rc_seq ?_
 refine rc_region ?_
 refine rd_op (ov_box rfl (TR.cnt api_Program.t r0)) ?_
 refine rd_op (ov_box rfl (TR.cnt api_FieldRef.t r1)) ?_
 refine rd_op (v := vi 0) (ov_move rfl) ?_
 refine rd_nil ?_
 refine pn_seq ?_
 refine rc_seq ?_
 refine rc_seq ?_
 refine rc_region ?_
 refine rd_op (ov_faddr rfl (api_FieldRef.g_Header r1)) ?_
 refine rd_op (ov_load rfl rfl rfl) ?_
 refine rd_op (ov_bin rfl rfl i_eql) ?_
 refine rd_nil ?_
 refine pn_seq ?_
 refine rc_cond rfl (fun hc101 => ?_) (fun hc101 => ?_)
 ·replace hres := (ite_t hc101).symm.trans hres
  have hc101' := hc101
  try simp only [Bool.or_eq_true, Bool.or_eq_false_iff, Bool.and_eq_true, Bool.and_eq_false_imp, decide_eq_true_eq, decide_eq_false_iff_not, Bool.not_eq_true', Bool.not_eq_false', Bool.not_eq_true, Bool.not_eq_false, Bool.not_true, Bool.not_false, ne_eq] at hc101'
  refine rc_seq ?_
  refine rc_region ?_
  refine rd_op (ov_load rfl (TR.cnt api_Program.t r0) (TR.agg api_Program.t r0)) ?_
  refine rd_op (ov_faddr rfl (api_FieldRef.g_Field r1)) ?_
  refine rd_op (ov_load rfl rfl rfl) ?_
  obtain ⟨y102, hw102, hres⟩ := let_ex hres
  have f102 := f26_ok (x1 := 2) (x2 := x1.Field) r0 (by first | assumption | omega | (rw [wr_of (by omega) (by omega)]; omega) | (have hk := tl (by assumption) (by assumption); omega))
  rw [hw102] at f102
  refine rd_call (cv_fn rfl rfl (clL_cons (TR.clo api_Program.t r0) (clL_cons rfl (clL_cons rfl clL_nil))) f102) ?_
  refine rd_op (ov_move rfl) ?_
  refine rd_nil ?_
  refine pn_seq ?_
  subst hres
  exact rc_retV (.tmp rfl .nil) (deep_closed rfl) rfl
 ·replace hres := (ite_f hc101).symm.trans hres
  have hc101' := hc101
  try simp only [Bool.or_eq_true, Bool.or_eq_false_iff, Bool.and_eq_true, Bool.and_eq_false_imp, decide_eq_true_eq, decide_eq_false_iff_not, Bool.not_eq_true', Bool.not_eq_false', Bool.not_eq_true, Bool.not_eq_false, Bool.not_true, Bool.not_false, ne_eq] at hc101'
  refine rc_skip ?_
  refine pn_seq ?_
  refine rc_seq ?_
  refine rc_seq ?_
  refine rc_region ?_
  refine rd_op (ov_faddr rfl (api_FieldRef.g_Header r1)) ?_
  refine rd_op (ov_load rfl rfl rfl) ?_
  refine rd_op (ov_bin rfl rfl i_lss) ?_
  refine rd_op (ov_move rfl) ?_
  refine rd_cut (d := 25) (v := vb ((decide (x1.Header < 0)) || (decide ((x0.Headers.length : Int) ≤ x1.Header)))) ?_ ?_
  ·intro S Q r
   simp only [ac8_G1, List.cons_append, List.nil_append, List.append_assoc]
   cases hb103 : (decide (x1.Header < 0))
   ·intro k
    have hb103' := hb103
    try simp only [Bool.or_eq_true, Bool.or_eq_false_iff, Bool.and_eq_true, Bool.and_eq_false_imp, decide_eq_true_eq, decide_eq_false_iff_not, Bool.not_eq_true', Bool.not_eq_false', Bool.not_eq_true, Bool.not_eq_false, Bool.not_true, Bool.not_false, ne_eq] at hb103'
    refine rd_yes rfl rfl (ov_faddr rfl (api_FieldRef.g_Header r1)) ?_
    refine rd_yes rfl rfl (ov_load rfl rfl rfl) ?_
    obtain ⟨v104, e104, r104⟩ := api_Program.g_Headers r0
    refine rd_yes rfl rfl (ov_faddr rfl e104) ?_
    refine rd_yes rfl rfl (ov_load rfl (TR.cnt (tSl api_Header.t) r104) (TR.agg (tSl api_Header.t) r104)) ?_
    refine rd_yes rfl rfl (ov_bi rfl (sl_len r104 Tryz.underlying22 _)) ?_
    refine rd_yes rfl rfl (ov_bin rfl rfl i_geq) ?_
    refine rd_op (v := vb (decide ((x0.Headers.length : Int) ≤ x1.Header))) (ov_pick rfl rfl rfl rfl) ?_
    exact rd_weak (sub_cons rfl (sub_skip rfl (sub_skip rfl (sub_skip rfl (sub_skip rfl (sub_skip rfl (sub_skip rfl (sub_skip rfl (sub_refl _))))))))) k
   ·intro k
    refine rd_skip rfl rfl ?_
    refine rd_skip rfl rfl ?_
    refine rd_skip rfl rfl ?_
    refine rd_skip rfl rfl ?_
    refine rd_skip rfl rfl ?_
    refine rd_skip rfl rfl ?_
    refine rd_op (v := vb true) (ov_pick rfl rfl rfl rfl) ?_
    exact rd_weak (sub_cons rfl (sub_skip rfl (sub_skip rfl (sub_skip rfl (sub_skip rfl (sub_skip rfl (sub_skip rfl (sub_skip rfl (sub_refl _))))))))) k
  refine rd_op (ov_move rfl) ?_
  refine rd_cut (d := 30) (v := vb (((decide (x1.Header < 0)) || (decide ((x0.Headers.length : Int) ≤ x1.Header))) || (decide (x1.Field < 0)))) ?_ ?_
  ·intro S Q r
   simp only [ac8_G2, List.cons_append, List.nil_append, List.append_assoc]
   cases hb105 : ((decide (x1.Header < 0)) || (decide ((x0.Headers.length : Int) ≤ x1.Header)))
   ·intro k
    have hb105' := hb105
    try simp only [Bool.or_eq_true, Bool.or_eq_false_iff, Bool.and_eq_true, Bool.and_eq_false_imp, decide_eq_true_eq, decide_eq_false_iff_not, Bool.not_eq_true', Bool.not_eq_false', Bool.not_eq_true, Bool.not_eq_false, Bool.not_true, Bool.not_false, ne_eq] at hb105'
    refine rd_yes rfl rfl (ov_faddr rfl (api_FieldRef.g_Field r1)) ?_
    refine rd_yes rfl rfl (ov_load rfl rfl rfl) ?_
    refine rd_yes rfl rfl (ov_bin rfl rfl i_lss) ?_
    refine rd_op (v := vb (decide (x1.Field < 0))) (ov_pick rfl rfl rfl rfl) ?_
    exact rd_weak (sub_cons rfl (sub_skip rfl (sub_skip rfl (sub_skip rfl (sub_skip rfl (sub_refl _)))))) k
   ·intro k
    refine rd_skip rfl rfl ?_
    refine rd_skip rfl rfl ?_
    refine rd_skip rfl rfl ?_
    refine rd_op (v := vb true) (ov_pick rfl rfl rfl rfl) ?_
    exact rd_weak (sub_cons rfl (sub_skip rfl (sub_skip rfl (sub_skip rfl (sub_skip rfl (sub_refl _)))))) k
  refine rd_op (ov_move rfl) ?_
  refine rd_cut (d := 43) (v := vb ((((decide (x1.Header < 0)) || (decide ((x0.Headers.length : Int) ≤ x1.Header))) || (decide (x1.Field < 0))) || (decide ((((ix x0.Headers x1.Header).Fields).length : Int) ≤ x1.Field)))) ?_ ?_
  ·intro S Q r
   simp only [ac8_G3, List.cons_append, List.nil_append, List.append_assoc]
   cases hb106 : (((decide (x1.Header < 0)) || (decide ((x0.Headers.length : Int) ≤ x1.Header))) || (decide (x1.Field < 0)))
   ·intro k
    have hb106' := hb106
    try simp only [Bool.or_eq_true, Bool.or_eq_false_iff, Bool.and_eq_true, Bool.and_eq_false_imp, decide_eq_true_eq, decide_eq_false_iff_not, Bool.not_eq_true', Bool.not_eq_false', Bool.not_eq_true, Bool.not_eq_false, Bool.not_true, Bool.not_false, ne_eq] at hb106'
    refine rd_yes rfl rfl (ov_faddr rfl (api_FieldRef.g_Field r1)) ?_
    refine rd_yes rfl rfl (ov_load rfl rfl rfl) ?_
    obtain ⟨v107, e107, r107⟩ := api_Program.g_Headers r0
    refine rd_yes rfl rfl (ov_faddr rfl e107) ?_
    refine rd_yes rfl rfl (ov_load rfl (TR.cnt (tSl api_Header.t) r107) (TR.agg (tSl api_Header.t) r107)) ?_
    refine rd_yes rfl rfl (ov_faddr rfl (api_FieldRef.g_Header r1)) ?_
    refine rd_yes rfl rfl (ov_load rfl rfl rfl) ?_
    obtain ⟨v108, e108, r108⟩ := sl_idx (i := x1.Header) r107 (by omega) (by omega)
    refine rd_yes rfl rfl (ov_iaddr rfl rfl e108) ?_
    obtain ⟨v109, e109, r109⟩ := api_Header.g_Fields r108
    refine rd_yes rfl rfl (ov_faddr rfl e109) ?_
    refine rd_yes rfl rfl (ov_load rfl (TR.cnt (tSl api_Field.t) r109) (TR.agg (tSl api_Field.t) r109)) ?_
    refine rd_yes rfl rfl (ov_bi rfl (sl_len r109 Tryz.underlying23 _)) ?_
    refine rd_yes rfl rfl (ov_bin rfl rfl i_geq) ?_
    refine rd_op (v := vb (decide ((((ix x0.Headers x1.Header).Fields).length : Int) ≤ x1.Field))) (ov_pick rfl rfl rfl rfl) ?_
    exact rd_weak (sub_cons rfl (sub_skip rfl (sub_skip rfl (sub_skip rfl (sub_skip rfl (sub_skip rfl (sub_skip rfl (sub_skip rfl (sub_skip rfl (sub_skip rfl (sub_skip rfl (sub_skip rfl (sub_skip rfl (sub_refl _)))))))))))))) k
   ·intro k
    refine rd_skip rfl rfl ?_
    refine rd_skip rfl rfl ?_
    refine rd_skip rfl rfl ?_
    refine rd_skip rfl rfl ?_
    refine rd_skip rfl rfl ?_
    refine rd_skip rfl rfl ?_
    refine rd_skip rfl rfl ?_
    refine rd_skip rfl rfl ?_
    refine rd_skip rfl rfl ?_
    refine rd_skip rfl rfl ?_
    refine rd_skip rfl rfl ?_
    refine rd_op (v := vb true) (ov_pick rfl rfl rfl rfl) ?_
    exact rd_weak (sub_cons rfl (sub_skip rfl (sub_skip rfl (sub_skip rfl (sub_skip rfl (sub_skip rfl (sub_skip rfl (sub_skip rfl (sub_skip rfl (sub_skip rfl (sub_skip rfl (sub_skip rfl (sub_skip rfl (sub_refl _)))))))))))))) k
  refine rd_nil ?_
  refine pn_seq ?_
  refine rc_cond rfl (fun hc110 => ?_) (fun hc110 => ?_)
  ·replace hres := (ite_t hc110).symm.trans hres
   have hc110' := hc110
   try simp only [Bool.or_eq_true, Bool.or_eq_false_iff, Bool.and_eq_true, Bool.and_eq_false_imp, decide_eq_true_eq, decide_eq_false_iff_not, Bool.not_eq_true', Bool.not_eq_false', Bool.not_eq_true, Bool.not_eq_false, Bool.not_true, Bool.not_false, ne_eq] at hc110'
   refine rc_seq ?_
   refine rc_region ?_
   refine rd_op (v := vi (-1)) (ov_move rfl) ?_
   refine rd_nil ?_
   refine pn_seq ?_
   subst hres
   exact rc_retV (.tmp rfl .nil) (deep_closed rfl) rfl
  ·replace hres := (ite_f hc110).symm.trans hres
   have hc110' := hc110
   try simp only [Bool.or_eq_true, Bool.or_eq_false_iff, Bool.and_eq_true, Bool.and_eq_false_imp, decide_eq_true_eq, decide_eq_false_iff_not, Bool.not_eq_true', Bool.not_eq_false', Bool.not_eq_true, Bool.not_eq_false, Bool.not_true, Bool.not_false, ne_eq] at hc110'
   refine rc_skip ?_
   refine pn_seq ?_
   refine rc_seq ?_
   refine rc_region ?_
   refine rd_op (ov_faddr rfl (api_FieldRef.g_Field r1)) ?_
   refine rd_op (ov_load rfl rfl rfl) ?_
   refine rd_op (ov_move rfl) ?_
   refine rd_nil ?_
   refine pn_seq ?_
   refine rc_seq ?_
   refine rc_seq ?_
   refine rc_region ?_
   obtain ⟨v111, e111, r111⟩ := api_Program.g_Headers r0
   refine rd_op (ov_faddr rfl e111) ?_
   refine rd_op (ov_load rfl (TR.cnt (tSl api_Header.t) r111) (TR.agg (tSl api_Header.t) r111)) ?_
   refine rd_op (ov_faddr rfl (api_FieldRef.g_Header r1)) ?_
   refine rd_op (ov_load rfl rfl rfl) ?_
   obtain ⟨v112, e112, r112⟩ := sl_sub (P := Tryz.prog) (hf := false) (E := [(49, vi x1.Header), (48, .fp (vi x1.Header)), (47, v111), (46, .fp v111), (5, vi x1.Field), (45, vi x1.Field), (44, .fp (vi x1.Field)), (43, vb ((((decide (x1.Header < 0)) || (decide ((x0.Headers.length : Int) ≤ x1.Header))) || (decide (x1.Field < 0))) || (decide ((((ix x0.Headers x1.Header).Fields).length : Int) ≤ x1.Field)))), (31, vb (((decide (x1.Header < 0)) || (decide ((x0.Headers.length : Int) ≤ x1.Header))) || (decide (x1.Field < 0)))), (30, vb (((decide (x1.Header < 0)) || (decide ((x0.Headers.length : Int) ≤ x1.Header))) || (decide (x1.Field < 0)))), (26, vb ((decide (x1.Header < 0)) || (decide ((x0.Headers.length : Int) ≤ x1.Header)))), (25, vb ((decide (x1.Header < 0)) || (decide ((x0.Headers.length : Int) ≤ x1.Header)))), (18, vb (decide (x1.Header < 0))), (17, vb (decide (x1.Header < 0))), (16, vi x1.Header), (15, .fp (vi x1.Header)), (10, vb (decide (x1.Header = (-1)))), (9, vi x1.Header), (8, .fp (vi x1.Header)), (4, vi 0), (3, .fp v1), (2, .fp v0), (0, v0), (1, v1)]) (h := ⟨0, []⟩) (t := api_Header.t) (tt := 22) (x := (.tmp 47)) (lo := none) (hi := (some (.tmp 49))) (a := 0) (b := x1.Header) r111 rfl rfl rfl (show 0 ≤ 0 by omega) (show 0 ≤ x1.Header by omega) (show x1.Header ≤ (x0.Headers.length : Int) by omega) (fun ad => by kernel_rfl)
   have hl112 := sub_len (l := x0.Headers) (show 0 ≤ 0 by omega) (show 0 ≤ x1.Header by omega) (show x1.Header ≤ (x0.Headers.length : Int) by omega)
   refine rd_op (v := v112) (e112) ?_
   refine rd_op (ov_bi rfl (sl_len r112 Tryz.underlying22 _)) ?_
   refine rd_op (v := vi 0) (ov_move rfl) ?_
   refine rd_nil ?_
   refine pn_seq ?_
   refine rc_block ?_
   refine rc_weak ?_ (access_FieldCell_L1_ok (x0 := x0) (x1 := x1) (v112 := v112)  (hc101 := hc101) (hc110 := hc110) (hl112 := hl112) (r112 := r112) ?_ (Int.toNat (((sub x0.Headers 0 x1.Header).length : Int) - 0)) x1.Field 0 rfl (by omega) _ (Mem.sub (Mem.nil ⟨0, []⟩) .slnil) hres)
   ·exact ((sub_cons rfl (sub_cons rfl (sub_cons rfl (sub_cons rfl (sub_nil _))))))
   ·intro x5_120 h120 M120 hres
    refine px_blk ?_
    refine pn_seq ?_
    refine rc_seq ?_
    refine rc_region ?_
    refine rd_op (ov_move rfl) ?_
    refine rd_op (ov_move rfl) ?_
    refine rd_nil ?_
    refine pn_seq ?_
    subst hres
    exact rc_retV (.tmp rfl .nil) (deep_closed rfl) rfl

/-- patchbay/patchbayref31.FieldCell -/
def RF9 (res : Int) (r : PV) : Prop := r = vi res
theorem f9_ok {x0 : api_Program} {x1 : api_FieldRef} {v0 : PV} {v1 : PV} (r0 : api_Program.t.R x0 v0) (r1 : api_FieldRef.t.R x1 v1) (hs : x0.Headers.length ≤ 1000) : FnR Tryz.prog 9 [v0, v1] (vi (ref31_FieldCell x0 x1)) := by
 obtain ⟨res, hres⟩ : ∃ res, ref31_FieldCell x0 x1 = res := ⟨_, rfl⟩
 suffices H : RC Tryz.prog ac9 [] (QR Tryz.prog [(4, none)] (RF9 res)) (argE 0 [v0, v1]) ⟨0, []⟩ by
  obtain ⟨r, h1, h2⟩ := fnE text9 (by simp) H
  rw [hres]
  have h2 : r = vi res := h2
  rw [← h2]; exact h1
 unfold ref31_FieldCell at hres
 unfold ac9
 refine rc_seq ?_
 refine rc_region ?_
 refine rd_op (ov_box rfl (TR.cnt api_Program.t r0)) ?_
 refine rd_op (ov_box rfl (TR.cnt api_FieldRef.t r1)) ?_
 refine rd_op (v := vi 0) (ov_move rfl) ?_
 refine rd_nil ?_
 refine pn_seq ?_
 refine rc_seq ?_
 refine rc_seq ?_
 refine rc_region ?_
 refine rd_op (ov_faddr rfl (api_FieldRef.g_Header r1)) ?_
 refine rd_op (ov_load rfl rfl rfl) ?_
 refine rd_op (ov_bin rfl rfl i_eql) ?_
 refine rd_op (ov_move rfl) ?_
 refine rd_cut (d := 12) (v := vb ((decide (x1.Header = (-1))) && (decide (0 ≤ x1.Field)))) ?_ ?_
 ·intro S Q r
  simp only [ac9_G1, List.cons_append, List.nil_append, List.append_assoc]
  cases hb101 : (decide (x1.Header = (-1)))
  ·intro k
   refine rd_skip rfl rfl ?_
   refine rd_skip rfl rfl ?_
   refine rd_skip rfl rfl ?_
   refine rd_op (v := vb false) (ov_pick rfl rfl rfl rfl) ?_
   exact rd_weak (sub_cons rfl (sub_skip rfl (sub_skip rfl (sub_skip rfl (sub_skip rfl (sub_refl _)))))) k
  ·intro k
   have hb101' := hb101
   try simp only [Bool.or_eq_true, Bool.or_eq_false_iff, Bool.and_eq_true, Bool.and_eq_false_imp, decide_eq_true_eq, decide_eq_false_iff_not, Bool.not_eq_true', Bool.not_eq_false', Bool.not_eq_true, Bool.not_eq_false, Bool.not_true, Bool.not_false, ne_eq] at hb101'
   refine rd_yes rfl rfl (ov_faddr rfl (api_FieldRef.g_Field r1)) ?_
   refine rd_yes rfl rfl (ov_load rfl rfl rfl) ?_
   refine rd_yes rfl rfl (ov_bin rfl rfl i_geq) ?_
   refine rd_op (v := vb (decide (0 ≤ x1.Field))) (ov_pick rfl rfl rfl rfl) ?_
   exact rd_weak (sub_cons rfl (sub_skip rfl (sub_skip rfl (sub_skip rfl (sub_skip rfl (sub_refl _)))))) k
 refine rd_op (ov_move rfl) ?_
 refine rd_cut (d := 20) (v := vb (((decide (x1.Header = (-1))) && (decide (0 ≤ x1.Field))) && (decide (x1.Field < (x0.Metadata.length : Int))))) ?_ ?_
 ·intro S Q r
  simp only [ac9_G2, List.cons_append, List.nil_append, List.append_assoc]
  cases hb102 : ((decide (x1.Header = (-1))) && (decide (0 ≤ x1.Field)))
  ·intro k
   refine rd_skip rfl rfl ?_
   refine rd_skip rfl rfl ?_
   refine rd_skip rfl rfl ?_
   refine rd_skip rfl rfl ?_
   refine rd_skip rfl rfl ?_
   refine rd_skip rfl rfl ?_
   refine rd_op (v := vb false) (ov_pick rfl rfl rfl rfl) ?_
   exact rd_weak (sub_cons rfl (sub_skip rfl (sub_skip rfl (sub_skip rfl (sub_skip rfl (sub_skip rfl (sub_skip rfl (sub_skip rfl (sub_refl _))))))))) k
  ·intro k
   have hb102' := hb102
   try simp only [Bool.or_eq_true, Bool.or_eq_false_iff, Bool.and_eq_true, Bool.and_eq_false_imp, decide_eq_true_eq, decide_eq_false_iff_not, Bool.not_eq_true', Bool.not_eq_false', Bool.not_eq_true, Bool.not_eq_false, Bool.not_true, Bool.not_false, ne_eq] at hb102'
   refine rd_yes rfl rfl (ov_faddr rfl (api_FieldRef.g_Field r1)) ?_
   refine rd_yes rfl rfl (ov_load rfl rfl rfl) ?_
   obtain ⟨v103, e103, r103⟩ := api_Program.g_Metadata r0
   refine rd_yes rfl rfl (ov_faddr rfl e103) ?_
   refine rd_yes rfl rfl (ov_load rfl (TR.cnt (tSl api_Field.t) r103) (TR.agg (tSl api_Field.t) r103)) ?_
   refine rd_yes rfl rfl (ov_bi rfl (sl_len r103 Tryz.underlying23 _)) ?_
   refine rd_yes rfl rfl (ov_bin rfl rfl i_lss) ?_
   refine rd_op (v := vb (decide (x1.Field < (x0.Metadata.length : Int)))) (ov_pick rfl rfl rfl rfl) ?_
   exact rd_weak (sub_cons rfl (sub_skip rfl (sub_skip rfl (sub_skip rfl (sub_skip rfl (sub_skip rfl (sub_skip rfl (sub_skip rfl (sub_refl _))))))))) k
 refine rd_nil ?_
 refine pn_seq ?_
 refine rc_cond rfl (fun hc104 => ?_) (fun hc104 => ?_)
 ·replace hres := (ite_t hc104).symm.trans hres
  have hc104' := hc104
  try simp only [Bool.or_eq_true, Bool.or_eq_false_iff, Bool.and_eq_true, Bool.and_eq_false_imp, decide_eq_true_eq, decide_eq_false_iff_not, Bool.not_eq_true', Bool.not_eq_false', Bool.not_eq_true, Bool.not_eq_false, Bool.not_true, Bool.not_false, ne_eq] at hc104'
  refine rc_seq ?_
  refine rc_region ?_
  refine rd_op (ov_load rfl (TR.cnt api_Program.t r0) (TR.agg api_Program.t r0)) ?_
  obtain ⟨v105, e105, r105⟩ := api_Program.g_Headers r0
  refine rd_op (ov_faddr rfl e105) ?_
  refine rd_op (ov_load rfl (TR.cnt (tSl api_Header.t) r105) (TR.agg (tSl api_Header.t) r105)) ?_
  refine rd_op (ov_bi rfl (sl_len r105 Tryz.underlying22 _)) ?_
  obtain ⟨y106, hw106, hres⟩ := let_ex hres
  have f106 := f25_ok (x1 := (x0.Headers.length : Int)) r0 (by first | assumption | omega | (rw [wr_of (by omega) (by omega)]; omega) | (have hk := tl (by assumption) (by assumption); omega)) (by first | assumption | omega | (rw [wr_of (by omega) (by omega)]; omega) | (have hk := tl (by assumption) (by assumption); omega))
  rw [hw106] at f106
  refine rd_call (cv_fn rfl rfl (clL_cons (TR.clo api_Program.t r0) (clL_cons rfl clL_nil)) f106) ?_
  obtain ⟨v107, e107, r107⟩ := api_Program.g_Headers r0
  refine rd_op (ov_faddr rfl e107) ?_
  refine rd_op (ov_load rfl (TR.cnt (tSl api_Header.t) r107) (TR.agg (tSl api_Header.t) r107)) ?_
  refine rd_op (ov_bi rfl (sl_len r107 Tryz.underlying22 _)) ?_
  refine rd_op (ov_bin rfl rfl i_add) ?_
  refine rd_op (ov_faddr rfl (api_FieldRef.g_Field r1)) ?_
  refine rd_op (ov_load rfl rfl rfl) ?_
  refine rd_op (ov_bin rfl rfl i_add) ?_
  refine rd_op (ov_move rfl) ?_
  refine rd_nil ?_
  refine pn_seq ?_
  subst hres
  exact rc_retV (.tmp rfl .nil) (deep_closed rfl) rfl
 ·replace hres := (ite_f hc104).symm.trans hres
  have hc104' := hc104
  try simp only [Bool.or_eq_true, Bool.or_eq_false_iff, Bool.and_eq_true, Bool.and_eq_false_imp, decide_eq_true_eq, decide_eq_false_iff_not, Bool.not_eq_true', Bool.not_eq_false', Bool.not_eq_true, Bool.not_eq_false, Bool.not_true, Bool.not_false, ne_eq] at hc104'
  refine rc_skip ?_
  refine pn_seq ?_
  refine rc_seq ?_
  refine rc_seq ?_
  refine rc_region ?_
  refine rd_op (ov_faddr rfl (api_FieldRef.g_Header r1)) ?_
  refine rd_op (ov_load rfl rfl rfl) ?_
  refine rd_op (ov_bin rfl rfl i_lss) ?_
  refine rd_op (ov_move rfl) ?_
  refine rd_cut (d := 43) (v := vb ((decide (x1.Header < 0)) || (decide ((x0.Headers.length : Int) ≤ x1.Header)))) ?_ ?_
  ·intro S Q r
   simp only [ac9_G3, List.cons_append, List.nil_append, List.append_assoc]
   cases hb108 : (decide (x1.Header < 0))
   ·intro k
    have hb108' := hb108
    try simp only [Bool.or_eq_true, Bool.or_eq_false_iff, Bool.and_eq_true, Bool.and_eq_false_imp, decide_eq_true_eq, decide_eq_false_iff_not, Bool.not_eq_true', Bool.not_eq_false', Bool.not_eq_true, Bool.not_eq_false, Bool.not_true, Bool.not_false, ne_eq] at hb108'
    refine rd_yes rfl rfl (ov_faddr rfl (api_FieldRef.g_Header r1)) ?_
    refine rd_yes rfl rfl (ov_load rfl rfl rfl) ?_
    obtain ⟨v109, e109, r109⟩ := api_Program.g_Headers r0
    refine rd_yes rfl rfl (ov_faddr rfl e109) ?_
    refine rd_yes rfl rfl (ov_load rfl (TR.cnt (tSl api_Header.t) r109) (TR.agg (tSl api_Header.t) r109)) ?_
    refine rd_yes rfl rfl (ov_bi rfl (sl_len r109 Tryz.underlying22 _)) ?_
    refine rd_yes rfl rfl (ov_bin rfl rfl i_geq) ?_
    refine rd_op (v := vb (decide ((x0.Headers.length : Int) ≤ x1.Header))) (ov_pick rfl rfl rfl rfl) ?_
    exact rd_weak (sub_cons rfl (sub_skip rfl (sub_skip rfl (sub_skip rfl (sub_skip rfl (sub_skip rfl (sub_skip rfl (sub_skip rfl (sub_refl _))))))))) k
   ·intro k
    refine rd_skip rfl rfl ?_
    refine rd_skip rfl rfl ?_
    refine rd_skip rfl rfl ?_
    refine rd_skip rfl rfl ?_
    refine rd_skip rfl rfl ?_
    refine rd_skip rfl rfl ?_
    refine rd_op (v := vb true) (ov_pick rfl rfl rfl rfl) ?_
    exact rd_weak (sub_cons rfl (sub_skip rfl (sub_skip rfl (sub_skip rfl (sub_skip rfl (sub_skip rfl (sub_skip rfl (sub_skip rfl (sub_refl _))))))))) k
  refine rd_op (ov_move rfl) ?_
  refine rd_cut (d := 48) (v := vb (((decide (x1.Header < 0)) || (decide ((x0.Headers.length : Int) ≤ x1.Header))) || (decide (x1.Field < 0)))) ?_ ?_
  ·intro S Q r
   simp only [ac9_G4, List.cons_append, List.nil_append, List.append_assoc]
   cases hb110 : ((decide (x1.Header < 0)) || (decide ((x0.Headers.length : Int) ≤ x1.Header)))
   ·intro k
    have hb110' := hb110
    try simp only [Bool.or_eq_true, Bool.or_eq_false_iff, Bool.and_eq_true, Bool.and_eq_false_imp, decide_eq_true_eq, decide_eq_false_iff_not, Bool.not_eq_true', Bool.not_eq_false', Bool.not_eq_true, Bool.not_eq_false, Bool.not_true, Bool.not_false, ne_eq] at hb110'
    refine rd_yes rfl rfl (ov_faddr rfl (api_FieldRef.g_Field r1)) ?_
    refine rd_yes rfl rfl (ov_load rfl rfl rfl) ?_
    refine rd_yes rfl rfl (ov_bin rfl rfl i_lss) ?_
    refine rd_op (v := vb (decide (x1.Field < 0))) (ov_pick rfl rfl rfl rfl) ?_
    exact rd_weak (sub_cons rfl (sub_skip rfl (sub_skip rfl (sub_skip rfl (sub_skip rfl (sub_refl _)))))) k
   ·intro k
    refine rd_skip rfl rfl ?_
    refine rd_skip rfl rfl ?_
    refine rd_skip rfl rfl ?_
    refine rd_op (v := vb true) (ov_pick rfl rfl rfl rfl) ?_
    exact rd_weak (sub_cons rfl (sub_skip rfl (sub_skip rfl (sub_skip rfl (sub_skip rfl (sub_refl _)))))) k
  refine rd_op (ov_move rfl) ?_
  refine rd_cut (d := 61) (v := vb ((((decide (x1.Header < 0)) || (decide ((x0.Headers.length : Int) ≤ x1.Header))) || (decide (x1.Field < 0))) || (decide ((((ix x0.Headers x1.Header).Fields).length : Int) ≤ x1.Field)))) ?_ ?_
  ·intro S Q r
   simp only [ac9_G5, List.cons_append, List.nil_append, List.append_assoc]
   cases hb111 : (((decide (x1.Header < 0)) || (decide ((x0.Headers.length : Int) ≤ x1.Header))) || (decide (x1.Field < 0)))
   ·intro k
    have hb111' := hb111
    try simp only [Bool.or_eq_true, Bool.or_eq_false_iff, Bool.and_eq_true, Bool.and_eq_false_imp, decide_eq_true_eq, decide_eq_false_iff_not, Bool.not_eq_true', Bool.not_eq_false', Bool.not_eq_true, Bool.not_eq_false, Bool.not_true, Bool.not_false, ne_eq] at hb111'
    refine rd_yes rfl rfl (ov_faddr rfl (api_FieldRef.g_Field r1)) ?_
    refine rd_yes rfl rfl (ov_load rfl rfl rfl) ?_
    obtain ⟨v112, e112, r112⟩ := api_Program.g_Headers r0
    refine rd_yes rfl rfl (ov_faddr rfl e112) ?_
    refine rd_yes rfl rfl (ov_load rfl (TR.cnt (tSl api_Header.t) r112) (TR.agg (tSl api_Header.t) r112)) ?_
    refine rd_yes rfl rfl (ov_faddr rfl (api_FieldRef.g_Header r1)) ?_
    refine rd_yes rfl rfl (ov_load rfl rfl rfl) ?_
    obtain ⟨v113, e113, r113⟩ := sl_idx (i := x1.Header) r112 (by omega) (by omega)
    refine rd_yes rfl rfl (ov_iaddr rfl rfl e113) ?_
    obtain ⟨v114, e114, r114⟩ := api_Header.g_Fields r113
    refine rd_yes rfl rfl (ov_faddr rfl e114) ?_
    refine rd_yes rfl rfl (ov_load rfl (TR.cnt (tSl api_Field.t) r114) (TR.agg (tSl api_Field.t) r114)) ?_
    refine rd_yes rfl rfl (ov_bi rfl (sl_len r114 Tryz.underlying23 _)) ?_
    refine rd_yes rfl rfl (ov_bin rfl rfl i_geq) ?_
    refine rd_op (v := vb (decide ((((ix x0.Headers x1.Header).Fields).length : Int) ≤ x1.Field))) (ov_pick rfl rfl rfl rfl) ?_
    exact rd_weak (sub_cons rfl (sub_skip rfl (sub_skip rfl (sub_skip rfl (sub_skip rfl (sub_skip rfl (sub_skip rfl (sub_skip rfl (sub_skip rfl (sub_skip rfl (sub_skip rfl (sub_skip rfl (sub_skip rfl (sub_refl _)))))))))))))) k
   ·intro k
    refine rd_skip rfl rfl ?_
    refine rd_skip rfl rfl ?_
    refine rd_skip rfl rfl ?_
    refine rd_skip rfl rfl ?_
    refine rd_skip rfl rfl ?_
    refine rd_skip rfl rfl ?_
    refine rd_skip rfl rfl ?_
    refine rd_skip rfl rfl ?_
    refine rd_skip rfl rfl ?_
    refine rd_skip rfl rfl ?_
    refine rd_skip rfl rfl ?_
    refine rd_op (v := vb true) (ov_pick rfl rfl rfl rfl) ?_
    exact rd_weak (sub_cons rfl (sub_skip rfl (sub_skip rfl (sub_skip rfl (sub_skip rfl (sub_skip rfl (sub_skip rfl (sub_skip rfl (sub_skip rfl (sub_skip rfl (sub_skip rfl (sub_skip rfl (sub_skip rfl (sub_refl _)))))))))))))) k
  refine rd_nil ?_
  refine pn_seq ?_
  refine rc_cond rfl (fun hc115 => ?_) (fun hc115 => ?_)
  ·replace hres := (ite_t hc115).symm.trans hres
   have hc115' := hc115
   try simp only [Bool.or_eq_true, Bool.or_eq_false_iff, Bool.and_eq_true, Bool.and_eq_false_imp, decide_eq_true_eq, decide_eq_false_iff_not, Bool.not_eq_true', Bool.not_eq_false', Bool.not_eq_true, Bool.not_eq_false, Bool.not_true, Bool.not_false, ne_eq] at hc115'
   refine rc_seq ?_
   refine rc_region ?_
   refine rd_op (v := vi (-1)) (ov_move rfl) ?_
   refine rd_nil ?_
   refine pn_seq ?_
   subst hres
   exact rc_retV (.tmp rfl .nil) (deep_closed rfl) rfl
  ·replace hres := (ite_f hc115).symm.trans hres
   have hc115' := hc115
   try simp only [Bool.or_eq_true, Bool.or_eq_false_iff, Bool.and_eq_true, Bool.and_eq_false_imp, decide_eq_true_eq, decide_eq_false_iff_not, Bool.not_eq_true', Bool.not_eq_false', Bool.not_eq_true, Bool.not_eq_false, Bool.not_true, Bool.not_false, ne_eq] at hc115'
   refine rc_skip ?_
   refine pn_seq ?_
   refine rc_seq ?_
   refine rc_region ?_
   refine rd_op (ov_load rfl (TR.cnt api_Program.t r0) (TR.agg api_Program.t r0)) ?_
   refine rd_op (ov_faddr rfl (api_FieldRef.g_Header r1)) ?_
   refine rd_op (ov_load rfl rfl rfl) ?_
   obtain ⟨y116, hw116, hres⟩ := let_ex hres
   have f116 := f25_ok (x1 := x1.Header) r0 (by first | assumption | omega | (rw [wr_of (by omega) (by omega)]; omega) | (have hk := tl (by assumption) (by assumption); omega)) (by first | assumption | omega | (rw [wr_of (by omega) (by omega)]; omega) | (have hk := tl (by assumption) (by assumption); omega))
   rw [hw116] at f116
   refine rd_call (cv_fn rfl rfl (clL_cons (TR.clo api_Program.t r0) (clL_cons rfl clL_nil)) f116) ?_
   refine rd_op (ov_faddr rfl (api_FieldRef.g_Field r1)) ?_
   refine rd_op (ov_load rfl rfl rfl) ?_
   refine rd_op (ov_bin rfl rfl i_add) ?_
   refine rd_op (ov_move rfl) ?_
   refine rd_nil ?_
   refine pn_seq ?_
   subst hres
   exact rc_retV (.tmp rfl .nil) (deep_closed rfl) rfl

end Go.Proofs.YtepkgeppmjmkjaaGreat
