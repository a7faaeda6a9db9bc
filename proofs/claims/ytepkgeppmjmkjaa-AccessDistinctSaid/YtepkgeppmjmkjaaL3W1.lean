/-
  The code of each function does what its plain program says.
-/
import Derived.Test.YtepkgeppmjmkjaaL3W0
set_option linter.unusedVariables false
set_option linter.unusedSimpArgs false
set_option maxRecDepth 100000
namespace Go.Proofs.Ytepkgeppmjmkjaa
open Go Go.Pb Go.RowKit
theorem f5_ok : FnR Try.prog 5 [] (vb law31_works) := run5

/-- patchbay/access.counts -/
def RF30 (res : (List Int)) (r : PV) : Prop := (tAr 4 tI).R res r
theorem access_counts_L1_ok {S : List Fr} {res : (List Int)} {x0 : api_Program} {v110 : PV} {i101 : Nat} {w101 : Nat} {i107 : Nat} {w107 : Nat} (r110 : (tSl api_Header.t).R x0.Headers v110) {K0 : (List Int) → (List Int)}
    (hK0 : ∀ (zE108 : List Int) (uE108 : PV) (qE108 : (tAr 4 tI).R zE108 uE108) (h : Heap) (M0 : Mem h [⟨.op i107 w107 0, 90, 4, [uE108]⟩, ⟨.op i101 w101 0, 90, 4, [.agg [vi 0, vi 0, vi 0, vi 0]]⟩]), K0 zE108 = res → PX Try.prog 0 S (QR Try.prog [(2, some (4, true))] (RF30 res)) [(2, .op i101 w101 0), (3, .op i107 w107 0)] h) :
    ∀ (m : Nat) (x19_ : Int) (zE108 : List Int) (uE108 : PV) (qE108 : (tAr 4 tI).R zE108 uE108) (hm1 : m = Int.toNat ((x0.Headers.length : Int) - x19_)) (hlo1 : 0 ≤ x19_) (h : Heap) (M0 : Mem h [⟨.op i107 w107 0, 90, 4, [uE108]⟩, ⟨.op i101 w101 0, 90, 4, [.agg [vi 0, vi 0, vi 0, vi 0]]⟩]), access_counts_L1 x0 K0 m x19_ zE108 = res → RC Try.prog (.loop ac30_L1) S (QR Try.prog [(2, some (4, true))] (RF30 res)) [(19, vi x19_), (18, vi (x0.Headers.length : Int)), (17, v110), (3, .op i107 w107 0), (2, .op i101 w101 0)] h := by
  intro m
  induction m with
  | zero =>
    intro x19_ zE108 uE108 qE108 hm1 hlo1 h M0 hres
    rw [access_counts_L1] at hres
    refine rc_loop ?_
    unfold ac30_L1
    refine rc_seq ?_
    refine rc_region ?_
    refine rd_op (ov_bin rfl rfl i_lss) ?_
    refine rd_nil ?_
    refine pn_seq ?_
    refine rc_seq ?_
    refine rc_cond rfl (fun hc112 => ?_) (fun hc112 => ?_)
    · exfalso
      try simp only [Bool.or_eq_true, Bool.or_eq_false_iff, Bool.and_eq_true, Bool.and_eq_false_imp, decide_eq_true_eq, decide_eq_false_iff_not, Bool.not_eq_true', Bool.not_eq_false', Bool.not_eq_true, Bool.not_eq_false, Bool.not_true, Bool.not_false, ne_eq] at hc112
      omega
    · have hend := hres
      have hc112' := hc112
      try simp only [Bool.or_eq_true, Bool.or_eq_false_iff, Bool.and_eq_true, Bool.and_eq_false_imp, decide_eq_true_eq, decide_eq_false_iff_not, Bool.not_eq_true', Bool.not_eq_false', Bool.not_eq_true, Bool.not_eq_false, Bool.not_true, Bool.not_false, ne_eq] at hc112'
      refine rc_exit ?_
      refine px_seq ?_
      refine px_again ?_
      exact px_weak ((sub_cons rfl (sub_cons rfl (sub_nil _)))) (hK0 zE108 uE108 (show (tAr 4 tI).R zE108 uE108 from qE108) _ (Mem.sub M0 (.cons_cons _ (.cons_cons _ .slnil))) hres)
  | succ m ih =>
    intro x19_ zE108 uE108 qE108 hm1 hlo1 h M0 hres
    rw [access_counts_L1] at hres
    refine rc_loop ?_
    unfold ac30_L1
    refine rc_seq ?_
    refine rc_region ?_
    refine rd_op (ov_bin rfl rfl i_lss) ?_
    refine rd_nil ?_
    refine pn_seq ?_
    refine rc_seq ?_
    refine rc_cond rfl (fun hc113 => ?_) (fun hc113 => ?_)
    · have hgo := hres
      have hc113' := hc113
      try simp only [Bool.or_eq_true, Bool.or_eq_false_iff, Bool.and_eq_true, Bool.and_eq_false_imp, decide_eq_true_eq, decide_eq_false_iff_not, Bool.not_eq_true', Bool.not_eq_false', Bool.not_eq_true, Bool.not_eq_false, Bool.not_true, Bool.not_false, ne_eq] at hc113'
      refine rc_skip ?_
      refine pn_seq ?_
      refine rc_seq ?_
      refine rc_block ?_
      refine rc_seq ?_
      refine rc_region ?_
      obtain ⟨v114, e114, r114⟩ := sl_idx (i := x19_) r110 (by omega) (by omega)
      refine rd_op (ov_iaddr rfl rfl e114) ?_
      refine rd_op (ov_load rfl (TR.cnt api_Header.t r114) (TR.agg api_Header.t r114)) ?_
      refine rd_allocO (x := .agg [vs [], nilS]) M0 rfl rfl (fun i115 w115 h115 M115 => ?_)
      refine rd_storeO (k := 0) (v := v114) M115 rfl rfl rfl (TR.cnt api_Header.t r114) (fun h117 M117 => ?_)
      replace M117 : Mem h117 [⟨.op i115 w115 0, 36, 2, [v114]⟩, ⟨.op i107 w107 0, 90, 4, [uE108]⟩, ⟨.op i101 w101 0, 90, 4, [.agg [vi 0, vi 0, vi 0, vi 0]]⟩] := M117
      refine rd_nil ?_
      refine pn_seq ?_
      refine rc_region ?_
      have h0_118 : 0 ≤ (0 : Int) := by omega
      have h1_118 : (0 : Int) < 4 := by omega
      refine rd_op (ov_iaddrAO rfl rfl h0_118 h1_118) ?_
      obtain ⟨v119, e119, r119⟩ := arr_load (t := tI) (i := (0 : Int)) qE108 h0_118 h1_118
      have r119 : v119 = vi (ix zE108 (0 : Int)) := r119; subst r119
      refine rd_op (ov_loadf (k := 1) M117 rfl rfl e119) ?_
      refine rd_op (ov_faddrO rfl) ?_
      obtain ⟨v120, e120, r120⟩ := api_Header.g_Fields r114
      refine rd_op (ov_loadf (k := 0) M117 rfl rfl e120) ?_
      refine rd_op (ov_bi rfl (sl_len r120 Try.underlying23 _)) ?_
      refine rd_op (ov_bin rfl rfl i_add) ?_
      have h0_121 : 0 ≤ (0 : Int) := by omega
      have h1_121 : (0 : Int) < 4 := by omega
      refine rd_op (ov_iaddrAO rfl rfl h0_121 h1_121) ?_
      obtain ⟨cs122, ec122, ln122, sr122⟩ := arr_store (t := tI) (i := (0 : Int)) qE108 h0_121 h1_121 (show tI.R (wr ((ix zE108 (0 : Int)) + (((ix x0.Headers x19_).Fields).length : Int))) (vi (wr ((ix zE108 (0 : Int)) + (((ix x0.Headers x19_).Fields).length : Int)))) from rfl) rfl
      refine rd_storeFA (k := 1) (v := vi (wr ((ix zE108 (0 : Int)) + (((ix x0.Headers x19_).Fields).length : Int)))) M117 rfl rfl rfl ec122 rfl ln122.1 ln122.2 (fun h122 M122 => ?_)
      replace M122 : Mem h122 [⟨.op i115 w115 0, 36, 2, [v114]⟩, ⟨.op i107 w107 0, 90, 4, [.agg (spl cs122 ((0 : Int).toNat * 1) [vi (wr ((ix zE108 (0 : Int)) + (((ix x0.Headers x19_).Fields).length : Int)))])]⟩, ⟨.op i101 w101 0, 90, 4, [.agg [vi 0, vi 0, vi 0, vi 0]]⟩] := M122
      refine rd_nil ?_
      refine pn_blk ?_
      refine pn_seq ?_
      refine rc_region ?_
      refine rd_op (ov_bin rfl rfl i_add) ?_
      refine rd_op (ov_move rfl) ?_
      refine rd_nil ?_
      refine pn_again ?_
      have hbd := sl_bound r110
      have hinc : wr (x19_ + 1) = x19_ + 1 := wr_of (by omega) (by omega)
      rw [hinc]
      refine rc_weak ?_ (ih (x19_ + 1) (zE108.set (0 : Int).toNat (wr ((ix zE108 (0 : Int)) + (((ix x0.Headers x19_).Fields).length : Int)))) (.agg (spl cs122 ((0 : Int).toNat * 1) [vi (wr ((ix zE108 (0 : Int)) + (((ix x0.Headers x19_).Fields).length : Int)))])) (show (tAr 4 tI).R (zE108.set (0 : Int).toNat (wr ((ix zE108 (0 : Int)) + (((ix x0.Headers x19_).Fields).length : Int)))) (.agg (spl cs122 ((0 : Int).toNat * 1) [vi (wr ((ix zE108 (0 : Int)) + (((ix x0.Headers x19_).Fields).length : Int)))])) from sr122) (by omega) (by omega) _ (Mem.sub M122 (.cons _ (.cons_cons _ (.cons_cons _ .slnil)))) hres)
      exact ((sub_cons rfl (sub_cons rfl (sub_cons rfl (sub_cons rfl (sub_cons rfl (sub_nil _)))))))
    · exfalso
      try simp only [Bool.or_eq_true, Bool.or_eq_false_iff, Bool.and_eq_true, Bool.and_eq_false_imp, decide_eq_true_eq, decide_eq_false_iff_not, Bool.not_eq_true', Bool.not_eq_false', Bool.not_eq_true, Bool.not_eq_false, Bool.not_true, Bool.not_false, ne_eq] at hc113
      omega

theorem f30_ok {x0 : api_Program} {v0 : PV} (r0 : api_Program.t.R x0 v0) : ∃ r, FnR Try.prog 30 [v0] r ∧ (tAr 4 tI).R (access_counts x0) r := by
  obtain ⟨res, hres⟩ : ∃ res, access_counts x0 = res := ⟨_, rfl⟩
  suffices H : RC Try.prog ac30 [] (QR Try.prog [(2, some (4, true))] (RF30 res)) (argE 0 [v0]) ⟨0, []⟩ by
    rw [hres]
    exact fnE text30 (by simp) H
  unfold access_counts at hres
  unfold ac30
  refine rc_seq ?_
  refine rc_region ?_
  refine rd_op (ov_box rfl (TR.cnt api_Program.t r0)) ?_
  refine rd_allocO (x := .agg [vi 0, vi 0, vi 0, vi 0]) (Mem.nil ⟨0, []⟩) rfl rfl (fun i101 w101 h101 M101 => ?_)
  refine rd_nil ?_
  refine pn_seq ?_
  refine rc_seq ?_
  refine rc_region ?_
  obtain ⟨v103, e103, r103⟩ := api_Program.g_Headers r0
  refine rd_op (ov_faddr rfl e103) ?_
  refine rd_op (ov_load rfl (TR.cnt (tSl api_Header.t) r103) (TR.agg (tSl api_Header.t) r103)) ?_
  refine rd_op (ov_bi rfl (sl_len r103 Try.underlying22 _)) ?_
  obtain ⟨v104, e104, r104⟩ := api_Program.g_Metadata r0
  refine rd_op (ov_faddr rfl e104) ?_
  refine rd_op (ov_load rfl (TR.cnt (tSl api_Field.t) r104) (TR.agg (tSl api_Field.t) r104)) ?_
  refine rd_op (ov_bi rfl (sl_len r104 Try.underlying23 _)) ?_
  obtain ⟨v105, e105, r105⟩ := api_Program.g_Registers r0
  refine rd_op (ov_faddr rfl e105) ?_
  refine rd_op (ov_load rfl (TR.cnt (tSl api_Register.t) r105) (TR.agg (tSl api_Register.t) r105)) ?_
  refine rd_op (ov_bi rfl (sl_len r105 Try.underlying24 _)) ?_
  have r106 : (tAr 4 tI).R ([0, (x0.Headers.length : Int), (x0.Metadata.length : Int), (x0.Registers.length : Int)] : List Int) (.agg [vi 0, vi (x0.Headers.length : Int), vi (x0.Metadata.length : Int), vi (x0.Registers.length : Int)]) := ⟨rfl, [vi 0, vi (x0.Headers.length : Int), vi (x0.Metadata.length : Int), vi (x0.Registers.length : Int)], [vi 0, vi (x0.Headers.length : Int), vi (x0.Metadata.length : Int), vi (x0.Registers.length : Int)], ⟨rfl, ⟨rfl, ⟨rfl, ⟨rfl, trivial⟩⟩⟩⟩, rfl, rfl⟩
  refine rd_op (v := .agg [vi 0, vi (x0.Headers.length : Int), vi (x0.Metadata.length : Int), vi (x0.Registers.length : Int)]) (ov_build (cs := [vi 0, vi (x0.Headers.length : Int), vi (x0.Metadata.length : Int), vi (x0.Registers.length : Int)]) rfl rfl) ?_
  refine rd_allocO (x := .agg [vi 0, vi 0, vi 0, vi 0]) M101 rfl rfl (fun i107 w107 h107 M107 => ?_)
  refine rd_storeO (k := 0) (v := .agg [vi 0, vi (x0.Headers.length : Int), vi (x0.Metadata.length : Int), vi (x0.Registers.length : Int)]) M107 rfl rfl rfl (TR.cnt (tAr 4 tI) r106) (fun h109 M109 => ?_)
  replace M109 : Mem h109 [⟨.op i107 w107 0, 90, 4, [.agg [vi 0, vi (x0.Headers.length : Int), vi (x0.Metadata.length : Int), vi (x0.Registers.length : Int)]]⟩, ⟨.op i101 w101 0, 90, 4, [.agg [vi 0, vi 0, vi 0, vi 0]]⟩] := M109
  refine rd_nil ?_
  refine pn_seq ?_
  refine rc_seq ?_
  refine rc_seq ?_
  refine rc_region ?_
  obtain ⟨v110, e110, r110⟩ := api_Program.g_Headers r0
  refine rd_op (ov_faddr rfl e110) ?_
  refine rd_op (ov_load rfl (TR.cnt (tSl api_Header.t) r110) (TR.agg (tSl api_Header.t) r110)) ?_
  refine rd_op (ov_bi rfl (sl_len r110 Try.underlying22 _)) ?_
  refine rd_op (v := vi 0) (ov_move rfl) ?_
  refine rd_nil ?_
  refine pn_seq ?_
  refine rc_block ?_
  have r111 : (tAr 4 tI).R ([0, 0, 0, 0] : List Int) (.agg [vi 0, vi 0, vi 0, vi 0]) := ⟨rfl, [vi 0, vi 0, vi 0, vi 0], [vi 0, vi 0, vi 0, vi 0], ⟨rfl, ⟨rfl, ⟨rfl, ⟨rfl, trivial⟩⟩⟩⟩, rfl, rfl⟩
  refine rc_weak ?_ (access_counts_L1_ok (x0 := x0) (v110 := v110) (i101 := i101) (w101 := w101) (i107 := i107) (w107 := w107) (r110 := r110) ?_ (Int.toNat ((x0.Headers.length : Int) - 0)) 0 ([0, (x0.Headers.length : Int), (x0.Metadata.length : Int), (x0.Registers.length : Int)] : List Int) (.agg [vi 0, vi (x0.Headers.length : Int), vi (x0.Metadata.length : Int), vi (x0.Registers.length : Int)]) (show (tAr 4 tI).R ([0, (x0.Headers.length : Int), (x0.Metadata.length : Int), (x0.Registers.length : Int)] : List Int) (.agg [vi 0, vi (x0.Headers.length : Int), vi (x0.Metadata.length : Int), vi (x0.Registers.length : Int)]) from r106) rfl (by omega) _ (Mem.sub M109 (.cons_cons _ (.cons_cons _ .slnil))) hres)
  · exact ((sub_cons rfl (sub_cons rfl (sub_cons rfl (sub_cons rfl (sub_cons rfl (sub_nil _)))))))
  · intro zE108_123 u123E108 q123E108 h123 M123 hres
    refine px_blk ?_
    refine pn_seq ?_
    refine rc_seq ?_
    refine rc_region ?_
    refine rd_op (ov_load0 (k := 0) M123 rfl rfl (TR.agg (tAr 4 tI) q123E108)) ?_
    refine rd_storeO (k := 1) (v := u123E108) M123 rfl rfl rfl (TR.cnt (tAr 4 tI) q123E108) (fun h124 M124 => ?_)
    replace M124 : Mem h124 [⟨.op i107 w107 0, 90, 4, [u123E108]⟩, ⟨.op i101 w101 0, 90, 4, [u123E108]⟩] := M124
    refine rd_nil ?_
    refine pn_seq ?_
    subst hres
    exact rc_retV (.cell rfl (load_whole (k := 1) M124 rfl (TR.agg (tAr 4 tI) q123E108)) .nil) (deep_closed (TR.clo (tAr 4 tI) q123E108)) q123E108

/-- patchbay/access.first -/
def RF20 (res : Int) (r : PV) : Prop := r = vi res
theorem access_first_L1_ok {S : List Fr} {res : Int} {x0 : api_Program} {x1 : Int} {y101 : (List Int)} {v102 : PV} (hw101 : access_counts x0 = y101) (r102 : (tAr 4 tI).R y101 v102) {K0 : Int → Int}
    (hK0 : ∀ (x5_ : Int), K0 x5_ = res → PX Try.prog 0 S (QR Try.prog [(4, none)] (RF20 res)) [(5, vi x5_)] ⟨0, []⟩) :
    ∀ (m : Nat) (x5_ : Int) (x10_ : Int) (hm1 : m = Int.toNat (4 - x10_)) (hlo1 : 0 ≤ x10_), access_first_L1 x1 y101 K0 m x5_ x10_ = res → RC Try.prog (.loop ac20_L1) S (QR Try.prog [(4, none)] (RF20 res)) [(10, vi x10_), (9, v102), (5, vi x5_), (1, vi x1)] ⟨0, []⟩ := by
  intro m
  induction m with
  | zero =>
    intro x5_ x10_ hm1 hlo1 hres
    rw [access_first_L1] at hres
    refine rc_loop ?_
    unfold ac20_L1
    refine rc_seq ?_
    refine rc_region ?_
    refine rd_op (ov_bin rfl rfl i_lss) ?_
    refine rd_nil ?_
    refine pn_seq ?_
    refine rc_seq ?_
    refine rc_cond rfl (fun hc103 => ?_) (fun hc103 => ?_)
    · exfalso
      try simp only [Bool.or_eq_true, Bool.or_eq_false_iff, Bool.and_eq_true, Bool.and_eq_false_imp, decide_eq_true_eq, decide_eq_false_iff_not, Bool.not_eq_true', Bool.not_eq_false', Bool.not_eq_true, Bool.not_eq_false, Bool.not_true, Bool.not_false, ne_eq] at hc103
      omega
    · have hend := hres
      have hc103' := hc103
      try simp only [Bool.or_eq_true, Bool.or_eq_false_iff, Bool.and_eq_true, Bool.and_eq_false_imp, decide_eq_true_eq, decide_eq_false_iff_not, Bool.not_eq_true', Bool.not_eq_false', Bool.not_eq_true, Bool.not_eq_false, Bool.not_true, Bool.not_false, ne_eq] at hc103'
      refine rc_exit ?_
      refine px_seq ?_
      refine px_again ?_
      exact px_weak ((sub_cons rfl (sub_nil _))) (hK0 x5_ hres)
  | succ m ih =>
    intro x5_ x10_ hm1 hlo1 hres
    rw [access_first_L1] at hres
    refine rc_loop ?_
    unfold ac20_L1
    refine rc_seq ?_
    refine rc_region ?_
    refine rd_op (ov_bin rfl rfl i_lss) ?_
    refine rd_nil ?_
    refine pn_seq ?_
    refine rc_seq ?_
    refine rc_cond rfl (fun hc104 => ?_) (fun hc104 => ?_)
    · have hgo := hres
      have hc104' := hc104
      try simp only [Bool.or_eq_true, Bool.or_eq_false_iff, Bool.and_eq_true, Bool.and_eq_false_imp, decide_eq_true_eq, decide_eq_false_iff_not, Bool.not_eq_true', Bool.not_eq_false', Bool.not_eq_true, Bool.not_eq_false, Bool.not_true, Bool.not_false, ne_eq] at hc104'
      refine rc_skip ?_
      refine pn_seq ?_
      refine rc_seq ?_
      refine rc_block ?_
      refine rc_seq ?_
      refine rc_region ?_
      refine rd_op (ov_move rfl) ?_
      obtain ⟨v105, e105, r105⟩ := arr_idx (t := tI) r102 (i := x10_) (by omega) (by omega)
      have r105 : v105 = vi (ix y101 x10_) := r105; subst r105
      refine rd_op (ov_indexA rfl rfl e105) ?_
      refine rd_op (ov_move rfl) ?_
      refine rd_op (ov_move rfl) ?_
      refine rd_nil ?_
      refine pn_seq ?_
      refine rc_seq ?_
      refine rc_region ?_
      refine rd_op (ov_move rfl) ?_
      refine rd_op (ov_move rfl) ?_
      refine rd_op (ov_bin rfl rfl i_lss) ?_
      refine rd_nil ?_
      refine pn_seq ?_
      refine rc_cond rfl (fun hc106 => ?_) (fun hc106 => ?_)
      · replace hres := (ite_t hc106).symm.trans hres
        have hc106' := hc106
        try simp only [Bool.or_eq_true, Bool.or_eq_false_iff, Bool.and_eq_true, Bool.and_eq_false_imp, decide_eq_true_eq, decide_eq_false_iff_not, Bool.not_eq_true', Bool.not_eq_false', Bool.not_eq_true, Bool.not_eq_false, Bool.not_true, Bool.not_false, ne_eq] at hc106'
        refine rc_region ?_
        refine rd_op (ov_move rfl) ?_
        refine rd_op (ov_move rfl) ?_
        refine rd_op (ov_bin rfl rfl i_add) ?_
        refine rd_op (ov_move rfl) ?_
        refine rd_nil ?_
        refine pn_blk ?_
        refine pn_seq ?_
        refine rc_region ?_
        refine rd_op (ov_bin rfl rfl i_add) ?_
        refine rd_op (ov_move rfl) ?_
        refine rd_nil ?_
        refine pn_again ?_
        have hinc : wr (x10_ + 1) = x10_ + 1 := wr_of (by omega) (by omega)
        rw [hinc]
        refine rc_weak ?_ (ih (wr (x5_ + (ix y101 x10_))) (x10_ + 1)  (by omega) (by omega) hres)
        exact ((sub_cons rfl (sub_cons rfl (sub_cons rfl (sub_cons rfl (sub_nil _))))))
      · replace hres := (ite_f hc106).symm.trans hres
        have hc106' := hc106
        try simp only [Bool.or_eq_true, Bool.or_eq_false_iff, Bool.and_eq_true, Bool.and_eq_false_imp, decide_eq_true_eq, decide_eq_false_iff_not, Bool.not_eq_true', Bool.not_eq_false', Bool.not_eq_true, Bool.not_eq_false, Bool.not_true, Bool.not_false, ne_eq] at hc106'
        refine rc_skip ?_
        refine pn_blk ?_
        refine pn_seq ?_
        refine rc_region ?_
        refine rd_op (ov_bin rfl rfl i_add) ?_
        refine rd_op (ov_move rfl) ?_
        refine rd_nil ?_
        refine pn_again ?_
        have hinc : wr (x10_ + 1) = x10_ + 1 := wr_of (by omega) (by omega)
        rw [hinc]
        refine rc_weak ?_ (ih x5_ (x10_ + 1)  (by omega) (by omega) hres)
        exact ((sub_cons rfl (sub_cons rfl (sub_cons rfl (sub_cons rfl (sub_nil _))))))
    · exfalso
      try simp only [Bool.or_eq_true, Bool.or_eq_false_iff, Bool.and_eq_true, Bool.and_eq_false_imp, decide_eq_true_eq, decide_eq_false_iff_not, Bool.not_eq_true', Bool.not_eq_false', Bool.not_eq_true, Bool.not_eq_false, Bool.not_true, Bool.not_false, ne_eq] at hc104
      omega

theorem f20_ok {x0 : api_Program} {x1 : Int} {v0 : PV} (r0 : api_Program.t.R x0 v0) : FnR Try.prog 20 [v0, vi x1] (vi (access_first x0 x1)) := by
  obtain ⟨res, hres⟩ : ∃ res, access_first x0 x1 = res := ⟨_, rfl⟩
  suffices H : RC Try.prog ac20 [] (QR Try.prog [(4, none)] (RF20 res)) (argE 0 [v0, vi x1]) ⟨0, []⟩ by
    obtain ⟨r, h1, h2⟩ := fnE text20 (by simp) H
    rw [hres]
    have h2 : r = vi res := h2
    rw [← h2]; exact h1
  unfold access_first at hres
  unfold ac20
  refine rc_seq ?_
  refine rc_region ?_
  refine rd_op (ov_box rfl (TR.cnt api_Program.t r0)) ?_
  refine rd_op (v := vi 0) (ov_move rfl) ?_
  refine rd_nil ?_
  refine pn_seq ?_
  refine rc_seq ?_
  refine rc_region ?_
  refine rd_op (v := vi 0) (ov_move rfl) ?_
  refine rd_nil ?_
  refine pn_seq ?_
  refine rc_seq ?_
  refine rc_seq ?_
  refine rc_region ?_
  refine rd_op (ov_load rfl (TR.cnt api_Program.t r0) (TR.agg api_Program.t r0)) ?_
  obtain ⟨y101, hw101, hres⟩ := let_ex hres
  obtain ⟨v102, f101, r102⟩ := f30_ok  r0 
  rw [hw101] at r102
  refine rd_call (cv_fn rfl rfl (clL_cons (TR.clo api_Program.t r0) clL_nil) f101) ?_
  refine rd_op (v := vi 0) (ov_move rfl) ?_
  refine rd_nil ?_
  refine pn_seq ?_
  refine rc_block ?_
  refine rc_weak ?_ (access_first_L1_ok (x0 := x0) (x1 := x1) (y101 := y101) (v102 := v102)  (hw101 := hw101) (r102 := r102) ?_ (Int.toNat (4 - 0)) 0 0 rfl (by omega) hres)
  · exact ((sub_cons rfl (sub_cons rfl (sub_cons rfl (sub_cons rfl (sub_nil _))))))
  · intro x5_107 hres
    refine px_blk ?_
    refine pn_seq ?_
    refine rc_seq ?_
    refine rc_region ?_
    refine rd_op (ov_move rfl) ?_
    refine rd_op (ov_move rfl) ?_
    refine rd_nil ?_
    refine pn_seq ?_
    subst hres
    exact rc_retV (.tmp rfl .nil) (deep_closed rfl) rfl

/-- patchbay/access.cell -/
def RF19 (res : Int) (r : PV) : Prop := r = vi res
theorem f19_ok {x0 : api_Program} {x1 : Int} {x2 : Int} {v0 : PV} (r0 : api_Program.t.R x0 v0) (hk : 0 ≤ x1 ∧ x1 ≤ 3) : FnR Try.prog 19 [v0, vi x1, vi x2] (vi (access_cell x0 x1 x2)) := by
  obtain ⟨res, hres⟩ : ∃ res, access_cell x0 x1 x2 = res := ⟨_, rfl⟩
  suffices H : RC Try.prog ac19 [] (QR Try.prog [(6, none)] (RF19 res)) (argE 0 [v0, vi x1, vi x2]) ⟨0, []⟩ by
    obtain ⟨r, h1, h2⟩ := fnE text19 (by simp) H
    rw [hres]
    have h2 : r = vi res := h2
    rw [← h2]; exact h1
  unfold access_cell at hres
  unfold ac19
  refine rc_seq ?_
  refine rc_region ?_
  refine rd_op (ov_box rfl (TR.cnt api_Program.t r0)) ?_
  refine rd_op (v := vi 0) (ov_move rfl) ?_
  refine rd_nil ?_
  refine pn_seq ?_
  refine rc_seq ?_
  refine rc_seq ?_
  refine rc_region ?_
  refine rd_op (ov_move rfl) ?_
  refine rd_op (ov_bin rfl rfl i_lss) ?_
  refine rd_op (ov_move rfl) ?_
  refine rd_cut (d := 16) (v := vb ((decide (x2 < 0)) || (decide ((ix (access_counts x0) x1) ≤ x2)))) ?_ ?_
  · intro S Q r
    simp only [ac19_G1, List.cons_append, List.nil_append, List.append_assoc]
    cases hb101 : (decide (x2 < 0))
    · intro k
      have hb101' := hb101
      try simp only [Bool.or_eq_true, Bool.or_eq_false_iff, Bool.and_eq_true, Bool.and_eq_false_imp, decide_eq_true_eq, decide_eq_false_iff_not, Bool.not_eq_true', Bool.not_eq_false', Bool.not_eq_true, Bool.not_eq_false, Bool.not_true, Bool.not_false, ne_eq] at hb101'
      refine rd_yes rfl rfl (ov_move rfl) ?_
      refine rd_yes rfl rfl (ov_load rfl (TR.cnt api_Program.t r0) (TR.agg api_Program.t r0)) ?_
      obtain ⟨v103, f102, r103⟩ := f30_ok  r0 
      refine rd_ycall rfl rfl (cv_fn rfl rfl (clL_cons (TR.clo api_Program.t r0) clL_nil) f102) ?_
      refine rd_yes rfl rfl (ov_move rfl) ?_
      obtain ⟨v104, e104, r104⟩ := arr_idx (t := tI) r103 (i := x1) (by omega) (by omega)
      have r104 : v104 = vi (ix (access_counts x0) x1) := r104; subst r104
      refine rd_yes rfl rfl (ov_indexA rfl rfl e104) ?_
      refine rd_yes rfl rfl (ov_bin rfl rfl i_geq) ?_
      refine rd_op (v := vb (decide ((ix (access_counts x0) x1) ≤ x2))) (ov_pick rfl rfl rfl rfl) ?_
      exact rd_weak (sub_cons rfl (sub_skip rfl (sub_skip rfl (sub_skip rfl (sub_skip rfl (sub_skip rfl (sub_skip rfl (sub_skip rfl (sub_refl _))))))))) k
    · intro k
      refine rd_skip rfl rfl ?_
      refine rd_skip rfl rfl ?_
      refine rd_skip rfl rfl ?_
      refine rd_skip rfl rfl ?_
      refine rd_skip rfl rfl ?_
      refine rd_skip rfl rfl ?_
      refine rd_op (v := vb true) (ov_pick rfl rfl rfl rfl) ?_
      exact rd_weak (sub_cons rfl (sub_skip rfl (sub_skip rfl (sub_skip rfl (sub_skip rfl (sub_skip rfl (sub_skip rfl (sub_skip rfl (sub_refl _))))))))) k
  refine rd_nil ?_
  refine pn_seq ?_
  refine rc_cond rfl (fun hc105 => ?_) (fun hc105 => ?_)
  · replace hres := (ite_t hc105).symm.trans hres
    have hc105' := hc105
    try simp only [Bool.or_eq_true, Bool.or_eq_false_iff, Bool.and_eq_true, Bool.and_eq_false_imp, decide_eq_true_eq, decide_eq_false_iff_not, Bool.not_eq_true', Bool.not_eq_false', Bool.not_eq_true, Bool.not_eq_false, Bool.not_true, Bool.not_false, ne_eq] at hc105'
    refine rc_seq ?_
    refine rc_region ?_
    refine rd_op (v := vi (-1)) (ov_move rfl) ?_
    refine rd_nil ?_
    refine pn_seq ?_
    subst hres
    exact rc_retV (.tmp rfl .nil) (deep_closed rfl) rfl
  · replace hres := (ite_f hc105).symm.trans hres
    have hc105' := hc105
    try simp only [Bool.or_eq_true, Bool.or_eq_false_iff, Bool.and_eq_true, Bool.and_eq_false_imp, decide_eq_true_eq, decide_eq_false_iff_not, Bool.not_eq_true', Bool.not_eq_false', Bool.not_eq_true, Bool.not_eq_false, Bool.not_true, Bool.not_false, ne_eq] at hc105'
    refine rc_skip ?_
    refine pn_seq ?_
    refine rc_seq ?_
    refine rc_region ?_
    refine rd_op (ov_load rfl (TR.cnt api_Program.t r0) (TR.agg api_Program.t r0)) ?_
    refine rd_op (ov_move rfl) ?_
    obtain ⟨y106, hw106, hres⟩ := let_ex hres
    have f106 := f20_ok (x1 := x1) r0 
    rw [hw106] at f106
    refine rd_call (cv_fn rfl rfl (clL_cons (TR.clo api_Program.t r0) (clL_cons rfl clL_nil)) f106) ?_
    refine rd_op (ov_move rfl) ?_
    refine rd_op (ov_bin rfl rfl i_add) ?_
    refine rd_op (ov_move rfl) ?_
    refine rd_nil ?_
    refine pn_seq ?_
    subst hres
    exact rc_retV (.tmp rfl .nil) (deep_closed rfl) rfl

/-- patchbay/access.ValidCell -/
def RF6 (res : Int) (r : PV) : Prop := r = vi res
theorem f6_ok {x0 : api_Program} {x1 : Int} {v0 : PV} (r0 : api_Program.t.R x0 v0) : FnR Try.prog 6 [v0, vi x1] (vi (access_ValidCell x0 x1)) := by
  obtain ⟨res, hres⟩ : ∃ res, access_ValidCell x0 x1 = res := ⟨_, rfl⟩
  suffices H : RC Try.prog ac6 [] (QR Try.prog [(4, none)] (RF6 res)) (argE 0 [v0, vi x1]) ⟨0, []⟩ by
    obtain ⟨r, h1, h2⟩ := fnE text6 (by simp) H
    rw [hres]
    have h2 : r = vi res := h2
    rw [← h2]; exact h1
  unfold access_ValidCell at hres
  unfold ac6
  refine rc_seq ?_
  refine rc_region ?_
  refine rd_op (ov_box rfl (TR.cnt api_Program.t r0)) ?_
  refine rd_op (v := vi 0) (ov_move rfl) ?_
  refine rd_nil ?_
  refine pn_seq ?_
  refine rc_seq ?_
  refine rc_region ?_
  refine rd_op (ov_load rfl (TR.cnt api_Program.t r0) (TR.agg api_Program.t r0)) ?_
  refine rd_op (ov_move rfl) ?_
  obtain ⟨y101, hw101, hres⟩ := let_ex hres
  have f101 := f19_ok (x1 := 1) (x2 := x1) r0 (by first | assumption | omega | (rw [wr_of (by omega) (by omega)]; omega))
  rw [hw101] at f101
  refine rd_call (cv_fn rfl rfl (clL_cons (TR.clo api_Program.t r0) (clL_cons rfl (clL_cons rfl clL_nil))) f101) ?_
  refine rd_op (ov_move rfl) ?_
  refine rd_nil ?_
  refine pn_seq ?_
  subst hres
  exact rc_retV (.tmp rfl .nil) (deep_closed rfl) rfl

/-- patchbay/access.FieldCell -/
def RF7 (res : Int) (r : PV) : Prop := r = vi res
theorem access_FieldCell_L1_ok {S : List Fr} {res : Int} {x0 : api_Program} {x1 : api_FieldRef} {v112 : PV} (hc101 : (decide (x1.Header = (-1))) = false) (hc110 : ((((decide (x1.Header < 0)) || (decide ((x0.Headers.length : Int) ≤ x1.Header))) || (decide (x1.Field < 0))) || (decide ((((ix x0.Headers x1.Header).Fields).length : Int) ≤ x1.Field))) = false) (hl112 : ((sub x0.Headers 0 x1.Header).length : Int) = x1.Header - 0) (r112 : (tSl api_Header.t).R (sub x0.Headers 0 x1.Header) v112) {K0 : Int → Int}
    (hK0 : ∀ (x5_ : Int) (h : Heap) (M0 : Mem h []), K0 x5_ = res → PX Try.prog 0 S (QR Try.prog [(4, none)] (RF7 res)) [(5, vi x5_)] h) :
    ∀ (m : Nat) (x5_ : Int) (x52_ : Int) (hm1 : m = Int.toNat (((sub x0.Headers 0 x1.Header).length : Int) - x52_)) (hlo1 : 0 ≤ x52_) (h : Heap) (M0 : Mem h []), access_FieldCell_L1 x0 x1 K0 m x5_ x52_ = res → RC Try.prog (.loop ac7_L1) S (QR Try.prog [(4, none)] (RF7 res)) [(52, vi x52_), (51, vi ((sub x0.Headers 0 x1.Header).length : Int)), (50, v112), (5, vi x5_)] h := by
  have hc101' := hc101
  try simp only [Bool.or_eq_true, Bool.or_eq_false_iff, Bool.and_eq_true, Bool.and_eq_false_imp, decide_eq_true_eq, decide_eq_false_iff_not, Bool.not_eq_true', Bool.not_eq_false', Bool.not_eq_true, Bool.not_eq_false, Bool.not_true, Bool.not_false, ne_eq] at hc101'
  have hc110' := hc110
  try simp only [Bool.or_eq_true, Bool.or_eq_false_iff, Bool.and_eq_true, Bool.and_eq_false_imp, decide_eq_true_eq, decide_eq_false_iff_not, Bool.not_eq_true', Bool.not_eq_false', Bool.not_eq_true, Bool.not_eq_false, Bool.not_true, Bool.not_false, ne_eq] at hc110'
  intro m
  induction m with
  | zero =>
    intro x5_ x52_ hm1 hlo1 h M0 hres
    rw [access_FieldCell_L1] at hres
    refine rc_loop ?_
    unfold ac7_L1
    refine rc_seq ?_
    refine rc_region ?_
    refine rd_op (ov_bin rfl rfl i_lss) ?_
    refine rd_nil ?_
    refine pn_seq ?_
    refine rc_seq ?_
    refine rc_cond rfl (fun hc113 => ?_) (fun hc113 => ?_)
    · exfalso
      try simp only [Bool.or_eq_true, Bool.or_eq_false_iff, Bool.and_eq_true, Bool.and_eq_false_imp, decide_eq_true_eq, decide_eq_false_iff_not, Bool.not_eq_true', Bool.not_eq_false', Bool.not_eq_true, Bool.not_eq_false, Bool.not_true, Bool.not_false, ne_eq] at hc113
      omega
    · have hend := hres
      have hc113' := hc113
      try simp only [Bool.or_eq_true, Bool.or_eq_false_iff, Bool.and_eq_true, Bool.and_eq_false_imp, decide_eq_true_eq, decide_eq_false_iff_not, Bool.not_eq_true', Bool.not_eq_false', Bool.not_eq_true, Bool.not_eq_false, Bool.not_true, Bool.not_false, ne_eq] at hc113'
      refine rc_exit ?_
      refine px_seq ?_
      refine px_again ?_
      exact px_weak ((sub_cons rfl (sub_nil _))) (hK0 x5_ _ (Mem.sub M0 .slnil) hres)
  | succ m ih =>
    intro x5_ x52_ hm1 hlo1 h M0 hres
    rw [access_FieldCell_L1] at hres
    refine rc_loop ?_
    unfold ac7_L1
    refine rc_seq ?_
    refine rc_region ?_
    refine rd_op (ov_bin rfl rfl i_lss) ?_
    refine rd_nil ?_
    refine pn_seq ?_
    refine rc_seq ?_
    refine rc_cond rfl (fun hc114 => ?_) (fun hc114 => ?_)
    · have hgo := hres
      have hc114' := hc114
      try simp only [Bool.or_eq_true, Bool.or_eq_false_iff, Bool.and_eq_true, Bool.and_eq_false_imp, decide_eq_true_eq, decide_eq_false_iff_not, Bool.not_eq_true', Bool.not_eq_false', Bool.not_eq_true, Bool.not_eq_false, Bool.not_true, Bool.not_false, ne_eq] at hc114'
      refine rc_skip ?_
      refine pn_seq ?_
      refine rc_seq ?_
      refine rc_block ?_
      refine rc_seq ?_
      refine rc_region ?_
      obtain ⟨v115, e115, r115⟩ := sl_idx (i := x52_) r112 (by omega) (by omega)
      refine rd_op (ov_iaddr rfl rfl e115) ?_
      refine rd_op (ov_load rfl (TR.cnt api_Header.t r115) (TR.agg api_Header.t r115)) ?_
      refine rd_allocO (x := .agg [vs [], nilS]) M0 rfl rfl (fun i116 w116 h116 M116 => ?_)
      refine rd_storeO (k := 0) (v := v115) M116 rfl rfl rfl (TR.cnt api_Header.t r115) (fun h118 M118 => ?_)
      replace M118 : Mem h118 [⟨.op i116 w116 0, 36, 2, [v115]⟩] := M118
      refine rd_nil ?_
      refine pn_seq ?_
      refine rc_region ?_
      refine rd_op (ov_move rfl) ?_
      refine rd_op (ov_faddrO rfl) ?_
      obtain ⟨v119, e119, r119⟩ := api_Header.g_Fields r115
      refine rd_op (ov_loadf (k := 0) M118 rfl rfl e119) ?_
      refine rd_op (ov_bi rfl (sl_len r119 Try.underlying23 _)) ?_
      refine rd_op (ov_bin rfl rfl i_add) ?_
      refine rd_op (ov_move rfl) ?_
      refine rd_nil ?_
      refine pn_blk ?_
      refine pn_seq ?_
      refine rc_region ?_
      refine rd_op (ov_bin rfl rfl i_add) ?_
      refine rd_op (ov_move rfl) ?_
      refine rd_nil ?_
      refine pn_again ?_
      have hbd := sl_bound r112
      have hinc : wr (x52_ + 1) = x52_ + 1 := wr_of (by omega) (by omega)
      rw [hinc]
      refine rc_weak ?_ (ih (wr (x5_ + (((ix (sub x0.Headers 0 x1.Header) x52_).Fields).length : Int))) (x52_ + 1)  (by omega) (by omega) _ (Mem.sub M118 (.cons _ .slnil)) hres)
      exact ((sub_cons rfl (sub_cons rfl (sub_cons rfl (sub_cons rfl (sub_nil _))))))
    · exfalso
      try simp only [Bool.or_eq_true, Bool.or_eq_false_iff, Bool.and_eq_true, Bool.and_eq_false_imp, decide_eq_true_eq, decide_eq_false_iff_not, Bool.not_eq_true', Bool.not_eq_false', Bool.not_eq_true, Bool.not_eq_false, Bool.not_true, Bool.not_false, ne_eq] at hc114
      omega

theorem f7_ok {x0 : api_Program} {x1 : api_FieldRef} {v0 : PV} {v1 : PV} (r0 : api_Program.t.R x0 v0) (r1 : api_FieldRef.t.R x1 v1) : FnR Try.prog 7 [v0, v1] (vi (access_FieldCell x0 x1)) := by
  obtain ⟨res, hres⟩ : ∃ res, access_FieldCell x0 x1 = res := ⟨_, rfl⟩
  suffices H : RC Try.prog ac7 [] (QR Try.prog [(4, none)] (RF7 res)) (argE 0 [v0, v1]) ⟨0, []⟩ by
    obtain ⟨r, h1, h2⟩ := fnE text7 (by simp) H
    rw [hres]
    have h2 : r = vi res := h2
    rw [← h2]; exact h1
  unfold access_FieldCell at hres
  unfold ac7
  refine rc_seq ?_
  refine rc_region ?_
  refine rd_op (ov_box rfl (TR.cnt api_Program.t r0)) ?_
  refine rd_op (ov_box rfl (TR.cnt api_FieldRef.t r1)) ?_
  refine rd_op (v := vi 0) (ov_move rfl) ?_
  refine rd_nil ?_
  refine pn_seq ?_
  refine rc_seq ?_
  refine rc_seq ?_
  refine rc_region ?_
  refine rd_op (ov_faddr rfl (api_FieldRef.g_Header r1)) ?_
  refine rd_op (ov_load rfl rfl rfl) ?_
  refine rd_op (ov_bin rfl rfl i_eql) ?_
  refine rd_nil ?_
  refine pn_seq ?_
  refine rc_cond rfl (fun hc101 => ?_) (fun hc101 => ?_)
  · replace hres := (ite_t hc101).symm.trans hres
    have hc101' := hc101
    try simp only [Bool.or_eq_true, Bool.or_eq_false_iff, Bool.and_eq_true, Bool.and_eq_false_imp, decide_eq_true_eq, decide_eq_false_iff_not, Bool.not_eq_true', Bool.not_eq_false', Bool.not_eq_true, Bool.not_eq_false, Bool.not_true, Bool.not_false, ne_eq] at hc101'
    refine rc_seq ?_
    refine rc_region ?_
    refine rd_op (ov_load rfl (TR.cnt api_Program.t r0) (TR.agg api_Program.t r0)) ?_
    refine rd_op (ov_faddr rfl (api_FieldRef.g_Field r1)) ?_
    refine rd_op (ov_load rfl rfl rfl) ?_
    obtain ⟨y102, hw102, hres⟩ := let_ex hres
    have f102 := f19_ok (x1 := 2) (x2 := x1.Field) r0 (by first | assumption | omega | (rw [wr_of (by omega) (by omega)]; omega))
    rw [hw102] at f102
    refine rd_call (cv_fn rfl rfl (clL_cons (TR.clo api_Program.t r0) (clL_cons rfl (clL_cons rfl clL_nil))) f102) ?_
    refine rd_op (ov_move rfl) ?_
    refine rd_nil ?_
    refine pn_seq ?_
    subst hres
    exact rc_retV (.tmp rfl .nil) (deep_closed rfl) rfl
  · replace hres := (ite_f hc101).symm.trans hres
    have hc101' := hc101
    try simp only [Bool.or_eq_true, Bool.or_eq_false_iff, Bool.and_eq_true, Bool.and_eq_false_imp, decide_eq_true_eq, decide_eq_false_iff_not, Bool.not_eq_true', Bool.not_eq_false', Bool.not_eq_true, Bool.not_eq_false, Bool.not_true, Bool.not_false, ne_eq] at hc101'
    refine rc_skip ?_
    refine pn_seq ?_
    refine rc_seq ?_
    refine rc_seq ?_
    refine rc_region ?_
    refine rd_op (ov_faddr rfl (api_FieldRef.g_Header r1)) ?_
    refine rd_op (ov_load rfl rfl rfl) ?_
    refine rd_op (ov_bin rfl rfl i_lss) ?_
    refine rd_op (ov_move rfl) ?_
    refine rd_cut (d := 25) (v := vb ((decide (x1.Header < 0)) || (decide ((x0.Headers.length : Int) ≤ x1.Header)))) ?_ ?_
    · intro S Q r
      simp only [ac7_G1, List.cons_append, List.nil_append, List.append_assoc]
      cases hb103 : (decide (x1.Header < 0))
      · intro k
        have hb103' := hb103
        try simp only [Bool.or_eq_true, Bool.or_eq_false_iff, Bool.and_eq_true, Bool.and_eq_false_imp, decide_eq_true_eq, decide_eq_false_iff_not, Bool.not_eq_true', Bool.not_eq_false', Bool.not_eq_true, Bool.not_eq_false, Bool.not_true, Bool.not_false, ne_eq] at hb103'
        refine rd_yes rfl rfl (ov_faddr rfl (api_FieldRef.g_Header r1)) ?_
        refine rd_yes rfl rfl (ov_load rfl rfl rfl) ?_
        obtain ⟨v104, e104, r104⟩ := api_Program.g_Headers r0
        refine rd_yes rfl rfl (ov_faddr rfl e104) ?_
        refine rd_yes rfl rfl (ov_load rfl (TR.cnt (tSl api_Header.t) r104) (TR.agg (tSl api_Header.t) r104)) ?_
        refine rd_yes rfl rfl (ov_bi rfl (sl_len r104 Try.underlying22 _)) ?_
        refine rd_yes rfl rfl (ov_bin rfl rfl i_geq) ?_
        refine rd_op (v := vb (decide ((x0.Headers.length : Int) ≤ x1.Header))) (ov_pick rfl rfl rfl rfl) ?_
        exact rd_weak (sub_cons rfl (sub_skip rfl (sub_skip rfl (sub_skip rfl (sub_skip rfl (sub_skip rfl (sub_skip rfl (sub_skip rfl (sub_refl _))))))))) k
      · intro k
        refine rd_skip rfl rfl ?_
        refine rd_skip rfl rfl ?_
        refine rd_skip rfl rfl ?_
        refine rd_skip rfl rfl ?_
        refine rd_skip rfl rfl ?_
        refine rd_skip rfl rfl ?_
        refine rd_op (v := vb true) (ov_pick rfl rfl rfl rfl) ?_
        exact rd_weak (sub_cons rfl (sub_skip rfl (sub_skip rfl (sub_skip rfl (sub_skip rfl (sub_skip rfl (sub_skip rfl (sub_skip rfl (sub_refl _))))))))) k
    refine rd_op (ov_move rfl) ?_
    refine rd_cut (d := 30) (v := vb (((decide (x1.Header < 0)) || (decide ((x0.Headers.length : Int) ≤ x1.Header))) || (decide (x1.Field < 0)))) ?_ ?_
    · intro S Q r
      simp only [ac7_G2, List.cons_append, List.nil_append, List.append_assoc]
      cases hb105 : ((decide (x1.Header < 0)) || (decide ((x0.Headers.length : Int) ≤ x1.Header)))
      · intro k
        have hb105' := hb105
        try simp only [Bool.or_eq_true, Bool.or_eq_false_iff, Bool.and_eq_true, Bool.and_eq_false_imp, decide_eq_true_eq, decide_eq_false_iff_not, Bool.not_eq_true', Bool.not_eq_false', Bool.not_eq_true, Bool.not_eq_false, Bool.not_true, Bool.not_false, ne_eq] at hb105'
        refine rd_yes rfl rfl (ov_faddr rfl (api_FieldRef.g_Field r1)) ?_
        refine rd_yes rfl rfl (ov_load rfl rfl rfl) ?_
        refine rd_yes rfl rfl (ov_bin rfl rfl i_lss) ?_
        refine rd_op (v := vb (decide (x1.Field < 0))) (ov_pick rfl rfl rfl rfl) ?_
        exact rd_weak (sub_cons rfl (sub_skip rfl (sub_skip rfl (sub_skip rfl (sub_skip rfl (sub_refl _)))))) k
      · intro k
        refine rd_skip rfl rfl ?_
        refine rd_skip rfl rfl ?_
        refine rd_skip rfl rfl ?_
        refine rd_op (v := vb true) (ov_pick rfl rfl rfl rfl) ?_
        exact rd_weak (sub_cons rfl (sub_skip rfl (sub_skip rfl (sub_skip rfl (sub_skip rfl (sub_refl _)))))) k
    refine rd_op (ov_move rfl) ?_
    refine rd_cut (d := 43) (v := vb ((((decide (x1.Header < 0)) || (decide ((x0.Headers.length : Int) ≤ x1.Header))) || (decide (x1.Field < 0))) || (decide ((((ix x0.Headers x1.Header).Fields).length : Int) ≤ x1.Field)))) ?_ ?_
    · intro S Q r
      simp only [ac7_G3, List.cons_append, List.nil_append, List.append_assoc]
      cases hb106 : (((decide (x1.Header < 0)) || (decide ((x0.Headers.length : Int) ≤ x1.Header))) || (decide (x1.Field < 0)))
      · intro k
        have hb106' := hb106
        try simp only [Bool.or_eq_true, Bool.or_eq_false_iff, Bool.and_eq_true, Bool.and_eq_false_imp, decide_eq_true_eq, decide_eq_false_iff_not, Bool.not_eq_true', Bool.not_eq_false', Bool.not_eq_true, Bool.not_eq_false, Bool.not_true, Bool.not_false, ne_eq] at hb106'
        refine rd_yes rfl rfl (ov_faddr rfl (api_FieldRef.g_Field r1)) ?_
        refine rd_yes rfl rfl (ov_load rfl rfl rfl) ?_
        obtain ⟨v107, e107, r107⟩ := api_Program.g_Headers r0
        refine rd_yes rfl rfl (ov_faddr rfl e107) ?_
        refine rd_yes rfl rfl (ov_load rfl (TR.cnt (tSl api_Header.t) r107) (TR.agg (tSl api_Header.t) r107)) ?_
        refine rd_yes rfl rfl (ov_faddr rfl (api_FieldRef.g_Header r1)) ?_
        refine rd_yes rfl rfl (ov_load rfl rfl rfl) ?_
        obtain ⟨v108, e108, r108⟩ := sl_idx (i := x1.Header) r107 (by omega) (by omega)
        refine rd_yes rfl rfl (ov_iaddr rfl rfl e108) ?_
        obtain ⟨v109, e109, r109⟩ := api_Header.g_Fields r108
        refine rd_yes rfl rfl (ov_faddr rfl e109) ?_
        refine rd_yes rfl rfl (ov_load rfl (TR.cnt (tSl api_Field.t) r109) (TR.agg (tSl api_Field.t) r109)) ?_
        refine rd_yes rfl rfl (ov_bi rfl (sl_len r109 Try.underlying23 _)) ?_
        refine rd_yes rfl rfl (ov_bin rfl rfl i_geq) ?_
        refine rd_op (v := vb (decide ((((ix x0.Headers x1.Header).Fields).length : Int) ≤ x1.Field))) (ov_pick rfl rfl rfl rfl) ?_
        exact rd_weak (sub_cons rfl (sub_skip rfl (sub_skip rfl (sub_skip rfl (sub_skip rfl (sub_skip rfl (sub_skip rfl (sub_skip rfl (sub_skip rfl (sub_skip rfl (sub_skip rfl (sub_skip rfl (sub_skip rfl (sub_refl _)))))))))))))) k
      · intro k
        refine rd_skip rfl rfl ?_
        refine rd_skip rfl rfl ?_
        refine rd_skip rfl rfl ?_
        refine rd_skip rfl rfl ?_
        refine rd_skip rfl rfl ?_
        refine rd_skip rfl rfl ?_
        refine rd_skip rfl rfl ?_
        refine rd_skip rfl rfl ?_
        refine rd_skip rfl rfl ?_
        refine rd_skip rfl rfl ?_
        refine rd_skip rfl rfl ?_
        refine rd_op (v := vb true) (ov_pick rfl rfl rfl rfl) ?_
        exact rd_weak (sub_cons rfl (sub_skip rfl (sub_skip rfl (sub_skip rfl (sub_skip rfl (sub_skip rfl (sub_skip rfl (sub_skip rfl (sub_skip rfl (sub_skip rfl (sub_skip rfl (sub_skip rfl (sub_skip rfl (sub_refl _)))))))))))))) k
    refine rd_nil ?_
    refine pn_seq ?_
    refine rc_cond rfl (fun hc110 => ?_) (fun hc110 => ?_)
    · replace hres := (ite_t hc110).symm.trans hres
      have hc110' := hc110
      try simp only [Bool.or_eq_true, Bool.or_eq_false_iff, Bool.and_eq_true, Bool.and_eq_false_imp, decide_eq_true_eq, decide_eq_false_iff_not, Bool.not_eq_true', Bool.not_eq_false', Bool.not_eq_true, Bool.not_eq_false, Bool.not_true, Bool.not_false, ne_eq] at hc110'
      refine rc_seq ?_
      refine rc_region ?_
      refine rd_op (v := vi (-1)) (ov_move rfl) ?_
      refine rd_nil ?_
      refine pn_seq ?_
      subst hres
      exact rc_retV (.tmp rfl .nil) (deep_closed rfl) rfl
    · replace hres := (ite_f hc110).symm.trans hres
      have hc110' := hc110
      try simp only [Bool.or_eq_true, Bool.or_eq_false_iff, Bool.and_eq_true, Bool.and_eq_false_imp, decide_eq_true_eq, decide_eq_false_iff_not, Bool.not_eq_true', Bool.not_eq_false', Bool.not_eq_true, Bool.not_eq_false, Bool.not_true, Bool.not_false, ne_eq] at hc110'
      refine rc_skip ?_
      refine pn_seq ?_
      refine rc_seq ?_
      refine rc_region ?_
      refine rd_op (ov_faddr rfl (api_FieldRef.g_Field r1)) ?_
      refine rd_op (ov_load rfl rfl rfl) ?_
      refine rd_op (ov_move rfl) ?_
      refine rd_nil ?_
      refine pn_seq ?_
      refine rc_seq ?_
      refine rc_seq ?_
      refine rc_region ?_
      obtain ⟨v111, e111, r111⟩ := api_Program.g_Headers r0
      refine rd_op (ov_faddr rfl e111) ?_
      refine rd_op (ov_load rfl (TR.cnt (tSl api_Header.t) r111) (TR.agg (tSl api_Header.t) r111)) ?_
      refine rd_op (ov_faddr rfl (api_FieldRef.g_Header r1)) ?_
      refine rd_op (ov_load rfl rfl rfl) ?_
      obtain ⟨v112, e112, r112⟩ := sl_sub (P := Try.prog) (hf := false) (E := [(49, vi x1.Header), (48, .fp (vi x1.Header)), (47, v111), (46, .fp v111), (5, vi x1.Field), (45, vi x1.Field), (44, .fp (vi x1.Field)), (43, vb ((((decide (x1.Header < 0)) || (decide ((x0.Headers.length : Int) ≤ x1.Header))) || (decide (x1.Field < 0))) || (decide ((((ix x0.Headers x1.Header).Fields).length : Int) ≤ x1.Field)))), (31, vb (((decide (x1.Header < 0)) || (decide ((x0.Headers.length : Int) ≤ x1.Header))) || (decide (x1.Field < 0)))), (30, vb (((decide (x1.Header < 0)) || (decide ((x0.Headers.length : Int) ≤ x1.Header))) || (decide (x1.Field < 0)))), (26, vb ((decide (x1.Header < 0)) || (decide ((x0.Headers.length : Int) ≤ x1.Header)))), (25, vb ((decide (x1.Header < 0)) || (decide ((x0.Headers.length : Int) ≤ x1.Header)))), (18, vb (decide (x1.Header < 0))), (17, vb (decide (x1.Header < 0))), (16, vi x1.Header), (15, .fp (vi x1.Header)), (10, vb (decide (x1.Header = (-1)))), (9, vi x1.Header), (8, .fp (vi x1.Header)), (4, vi 0), (3, .fp v1), (2, .fp v0), (0, v0), (1, v1)]) (h := ⟨0, []⟩) (t := api_Header.t) (tt := 22) (x := (.tmp 47)) (lo := none) (hi := (some (.tmp 49))) (a := 0) (b := x1.Header) r111 rfl rfl rfl (show 0 ≤ 0 by omega) (show 0 ≤ x1.Header by omega) (show x1.Header ≤ (x0.Headers.length : Int) by omega) (fun ad => by kernel_rfl)
      have hl112 := sub_len (l := x0.Headers) (show 0 ≤ 0 by omega) (show 0 ≤ x1.Header by omega) (show x1.Header ≤ (x0.Headers.length : Int) by omega)
      refine rd_op (v := v112) (e112) ?_
      refine rd_op (ov_bi rfl (sl_len r112 Try.underlying22 _)) ?_
      refine rd_op (v := vi 0) (ov_move rfl) ?_
      refine rd_nil ?_
      refine pn_seq ?_
      refine rc_block ?_
      refine rc_weak ?_ (access_FieldCell_L1_ok (x0 := x0) (x1 := x1) (v112 := v112)  (hc101 := hc101) (hc110 := hc110) (hl112 := hl112) (r112 := r112) ?_ (Int.toNat (((sub x0.Headers 0 x1.Header).length : Int) - 0)) x1.Field 0 rfl (by omega) _ (Mem.sub (Mem.nil ⟨0, []⟩) .slnil) hres)
      · exact ((sub_cons rfl (sub_cons rfl (sub_cons rfl (sub_cons rfl (sub_nil _))))))
      · intro x5_120 h120 M120 hres
        refine px_blk ?_
        refine pn_seq ?_
        refine rc_seq ?_
        refine rc_region ?_
        refine rd_op (ov_move rfl) ?_
        refine rd_op (ov_move rfl) ?_
        refine rd_nil ?_
        refine pn_seq ?_
        subst hres
        exact rc_retV (.tmp rfl .nil) (deep_closed rfl) rfl

/-- patchbay/access.RegisterCell -/
def RF8 (res : Int) (r : PV) : Prop := r = vi res
theorem f8_ok {x0 : api_Program} {x1 : Int} {v0 : PV} (r0 : api_Program.t.R x0 v0) : FnR Try.prog 8 [v0, vi x1] (vi (access_RegisterCell x0 x1)) := by
  obtain ⟨res, hres⟩ : ∃ res, access_RegisterCell x0 x1 = res := ⟨_, rfl⟩
  suffices H : RC Try.prog ac8 [] (QR Try.prog [(4, none)] (RF8 res)) (argE 0 [v0, vi x1]) ⟨0, []⟩ by
    obtain ⟨r, h1, h2⟩ := fnE text8 (by simp) H
    rw [hres]
    have h2 : r = vi res := h2
    rw [← h2]; exact h1
  unfold access_RegisterCell at hres
  unfold ac8
  refine rc_seq ?_
  refine rc_region ?_
  refine rd_op (ov_box rfl (TR.cnt api_Program.t r0)) ?_
  refine rd_op (v := vi 0) (ov_move rfl) ?_
  refine rd_nil ?_
  refine pn_seq ?_
  refine rc_seq ?_
  refine rc_region ?_
  refine rd_op (ov_load rfl (TR.cnt api_Program.t r0) (TR.agg api_Program.t r0)) ?_
  refine rd_op (ov_move rfl) ?_
  obtain ⟨y101, hw101, hres⟩ := let_ex hres
  have f101 := f19_ok (x1 := 3) (x2 := x1) r0 (by first | assumption | omega | (rw [wr_of (by omega) (by omega)]; omega))
  rw [hw101] at f101
  refine rd_call (cv_fn rfl rfl (clL_cons (TR.clo api_Program.t r0) (clL_cons rfl (clL_cons rfl clL_nil))) f101) ?_
  refine rd_op (ov_move rfl) ?_
  refine rd_nil ?_
  refine pn_seq ?_
  subst hres
  exact rc_retV (.tmp rfl .nil) (deep_closed rfl) rfl

/-- patchbay/access.Cells -/
def RF9 (res : Int) (r : PV) : Prop := r = vi res
theorem f9_ok {x0 : api_Program} {v0 : PV} (r0 : api_Program.t.R x0 v0) : FnR Try.prog 9 [v0] (vi (access_Cells x0)) := by
  obtain ⟨res, hres⟩ : ∃ res, access_Cells x0 = res := ⟨_, rfl⟩
  suffices H : RC Try.prog ac9 [] (QR Try.prog [(2, none)] (RF9 res)) (argE 0 [v0]) ⟨0, []⟩ by
    obtain ⟨r, h1, h2⟩ := fnE text9 (by simp) H
    rw [hres]
    have h2 : r = vi res := h2
    rw [← h2]; exact h1
  unfold access_Cells at hres
  unfold ac9
  refine rc_seq ?_
  refine rc_region ?_
  refine rd_op (ov_box rfl (TR.cnt api_Program.t r0)) ?_
  refine rd_op (v := vi 0) (ov_move rfl) ?_
  refine rd_nil ?_
  refine pn_seq ?_
  refine rc_seq ?_
  refine rc_region ?_
  refine rd_op (ov_load rfl (TR.cnt api_Program.t r0) (TR.agg api_Program.t r0)) ?_
  obtain ⟨y101, hw101, hres⟩ := let_ex hres
  have f101 := f20_ok (x1 := 4) r0 
  rw [hw101] at f101
  refine rd_call (cv_fn rfl rfl (clL_cons (TR.clo api_Program.t r0) (clL_cons rfl clL_nil)) f101) ?_
  refine rd_op (ov_move rfl) ?_
  refine rd_nil ?_
  refine pn_seq ?_
  subst hres
  exact rc_retV (.tmp rfl .nil) (deep_closed rfl) rfl

/-- patchbay/patchbaylaw31.AccessDistinct -/
def RF3 (res : Bool) (r : PV) : Prop := r = vb res
theorem law31_AccessDistinct_L2_ok {S : List Fr} {res : Bool} {x0 : api_Program} {y101 : Bool} {x4_ : Int} {zE105 : List Int} {y110 : Int} {v0 : PV} {esE105 : List PV} {aE105 : PV} {nw112 : List PV} {a112 : PV} (r0 : api_Program.t.R x0 v0) (hw101 : law21_TooLarge x0 = y101) (hc102 : y101 = false) (nE105 : isL aE105 = true) (wrE105 : Wri aE105 esE105) (hlE105 : zE105.length ≤ 4611686018427387904) (hlo1 : 0 ≤ x4_) (iv1_0 : (zE105.length : Int) ≤ 21 * x4_) (iv1_1 : x4_ ≤ (x0.Headers.length : Int)) (hc109 : (decide (x4_ < (x0.Headers.length : Int))) = true) (hw110 : access_ValidCell x0 x4_ = y110) (ar112 : All2 tI.R ([y110] : List Int) nw112) (wr112 : Wri a112 (esE105 ++ nw112)) (hl112 : (zE105 ++ ([y110] : List Int)).length ≤ 4611686018427387904) (n112 : isL a112 = true) {K2 : (List Int) → Bool}
    (hK2 : ∀ (zE105n2 : List Int) (esE105n2 : List PV) (aE105n2 : PV) (qE105n2 : All2 tI.R zE105n2 esE105n2) (nE105n2 : isL aE105n2 = true) (wrE105n2 : Wri aE105n2 esE105n2) (hlE105n2 : zE105n2.length ≤ 4611686018427387904) (po0 : (zE105n2.length : Int) ≤ 21 * x4_ + 21) (h : Heap) (M0 : Mem h [⟨aE105n2, 3, 1, esE105n2⟩]), K2 zE105n2 = res → PX Try.prog 2 S (QR Try.prog [(2, none)] (RF3 res)) [(1, .fp v0), (3, aE105n2), (4, vi x4_)] h) :
    ∀ (m : Nat) (x5_ : Int) (zE105n2 : List Int) (esE105n2 : List PV) (aE105n2 : PV) (qE105n2 : All2 tI.R zE105n2 esE105n2) (nE105n2 : isL aE105n2 = true) (wrE105n2 : Wri aE105n2 esE105n2) (hlE105n2 : zE105n2.length ≤ 4611686018427387904) (hm2 : m = Int.toNat ((((ix x0.Headers x4_).Fields).length : Int) - x5_)) (hlo2 : 0 ≤ x5_) (iv2_0 : (zE105n2.length : Int) ≤ 21 * x4_ + 1 + x5_) (iv2_1 : x5_ ≤ (((ix x0.Headers x4_).Fields).length : Int)) (h : Heap) (M0 : Mem h [⟨aE105n2, 3, 1, esE105n2⟩]), law31_AccessDistinct_L2 x0 x4_ K2 m x5_ zE105n2 = res → RC Try.prog (.loop ac3_L2) S (QR Try.prog [(2, none)] (RF3 res)) [(5, vi x5_), (4, vi x4_), (3, aE105n2), (1, .fp v0)] h := by
  have hc102' := hc102
  try simp only [Bool.or_eq_true, Bool.or_eq_false_iff, Bool.and_eq_true, Bool.and_eq_false_imp, decide_eq_true_eq, decide_eq_false_iff_not, Bool.not_eq_true', Bool.not_eq_false', Bool.not_eq_true, Bool.not_eq_false, Bool.not_true, Bool.not_false, ne_eq] at hc102'
  have hc109' := hc109
  try simp only [Bool.or_eq_true, Bool.or_eq_false_iff, Bool.and_eq_true, Bool.and_eq_false_imp, decide_eq_true_eq, decide_eq_false_iff_not, Bool.not_eq_true', Bool.not_eq_false', Bool.not_eq_true, Bool.not_eq_false, Bool.not_true, Bool.not_false, ne_eq] at hc109'
  intro m
  induction m with
  | zero =>
    intro x5_ zE105n2 esE105n2 aE105n2 qE105n2 nE105n2 wrE105n2 hlE105n2 hm2 hlo2 iv2_0 iv2_1 h M0 hres
    rw [law31_AccessDistinct_L2] at hres
    refine rc_loop ?_
    unfold ac3_L2
    refine rc_seq ?_
    refine rc_seq ?_
    refine rc_region ?_
    refine rd_op (ov_move rfl) ?_
    obtain ⟨v113, e113, r113⟩ := api_Program.g_Headers r0
    refine rd_op (ov_faddr rfl e113) ?_
    refine rd_op (ov_load rfl (TR.cnt (tSl api_Header.t) r113) (TR.agg (tSl api_Header.t) r113)) ?_
    refine rd_op (ov_move rfl) ?_
    obtain ⟨v114, e114, r114⟩ := sl_idx (i := x4_) r113 (by omega) (by omega)
    refine rd_op (ov_iaddr rfl rfl e114) ?_
    obtain ⟨v115, e115, r115⟩ := api_Header.g_Fields r114
    refine rd_op (ov_faddr rfl e115) ?_
    refine rd_op (ov_load rfl (TR.cnt (tSl api_Field.t) r115) (TR.agg (tSl api_Field.t) r115)) ?_
    refine rd_op (ov_bi rfl (sl_len r115 Try.underlying23 _)) ?_
    refine rd_op (ov_bin rfl rfl i_lss) ?_
    refine rd_nil ?_
    refine pn_seq ?_
    refine rc_cond rfl (fun hc116 => ?_) (fun hc116 => ?_)
    · exfalso
      try simp only [Bool.or_eq_true, Bool.or_eq_false_iff, Bool.and_eq_true, Bool.and_eq_false_imp, decide_eq_true_eq, decide_eq_false_iff_not, Bool.not_eq_true', Bool.not_eq_false', Bool.not_eq_true, Bool.not_eq_false, Bool.not_true, Bool.not_false, ne_eq] at hc116
      omega
    · have hend := hres
      have hc116' := hc116
      try simp only [Bool.or_eq_true, Bool.or_eq_false_iff, Bool.and_eq_true, Bool.and_eq_false_imp, decide_eq_true_eq, decide_eq_false_iff_not, Bool.not_eq_true', Bool.not_eq_false', Bool.not_eq_true, Bool.not_eq_false, Bool.not_true, Bool.not_false, ne_eq] at hc116'
      refine rc_exit ?_
      refine px_seq ?_
      refine px_again ?_
      exact px_weak ((sub_cons rfl (sub_cons rfl (sub_cons rfl (sub_nil _))))) (hK2 zE105n2 esE105n2 aE105n2 qE105n2 nE105n2 wrE105n2 hlE105n2 (by (have hk := tl (by assumption) (by assumption); have hk2 := hk.2 x4_ (by omega) (by omega); omega)) _ (Mem.sub M0 (.cons_cons _ .slnil)) hres)
  | succ m ih =>
    intro x5_ zE105n2 esE105n2 aE105n2 qE105n2 nE105n2 wrE105n2 hlE105n2 hm2 hlo2 iv2_0 iv2_1 h M0 hres
    rw [law31_AccessDistinct_L2] at hres
    refine rc_loop ?_
    unfold ac3_L2
    refine rc_seq ?_
    refine rc_seq ?_
    refine rc_region ?_
    refine rd_op (ov_move rfl) ?_
    obtain ⟨v117, e117, r117⟩ := api_Program.g_Headers r0
    refine rd_op (ov_faddr rfl e117) ?_
    refine rd_op (ov_load rfl (TR.cnt (tSl api_Header.t) r117) (TR.agg (tSl api_Header.t) r117)) ?_
    refine rd_op (ov_move rfl) ?_
    obtain ⟨v118, e118, r118⟩ := sl_idx (i := x4_) r117 (by omega) (by omega)
    refine rd_op (ov_iaddr rfl rfl e118) ?_
    obtain ⟨v119, e119, r119⟩ := api_Header.g_Fields r118
    refine rd_op (ov_faddr rfl e119) ?_
    refine rd_op (ov_load rfl (TR.cnt (tSl api_Field.t) r119) (TR.agg (tSl api_Field.t) r119)) ?_
    refine rd_op (ov_bi rfl (sl_len r119 Try.underlying23 _)) ?_
    refine rd_op (ov_bin rfl rfl i_lss) ?_
    refine rd_nil ?_
    refine pn_seq ?_
    refine rc_cond rfl (fun hc120 => ?_) (fun hc120 => ?_)
    · have hgo := hres
      have hc120' := hc120
      try simp only [Bool.or_eq_true, Bool.or_eq_false_iff, Bool.and_eq_true, Bool.and_eq_false_imp, decide_eq_true_eq, decide_eq_false_iff_not, Bool.not_eq_true', Bool.not_eq_false', Bool.not_eq_true, Bool.not_eq_false, Bool.not_true, Bool.not_false, ne_eq] at hc120'
      refine rc_skip ?_
      refine pn_seq ?_
      refine rc_seq ?_
      refine rc_block ?_
      refine rc_region ?_
      refine rd_op (ov_move rfl) ?_
      refine rd_op (ov_load rfl (TR.cnt api_Program.t r0) (TR.agg api_Program.t r0)) ?_
      refine rd_op (ov_move rfl) ?_
      refine rd_op (ov_move rfl) ?_
      refine rd_op (v := .agg [vi x4_, vi x5_]) (ov_build (cs := [vi x4_, vi x5_]) rfl rfl) ?_
      obtain ⟨y121, hw121, hres⟩ := let_ex hres
      have f121 := f7_ok  r0 (show api_FieldRef.t.R ({ Header := x4_, Field := x5_ } : api_FieldRef) (.agg [vi x4_, vi x5_]) from rfl) 
      rw [hw121] at f121
      refine rd_call (cv_fn rfl rfl (clL_cons (TR.clo api_Program.t r0) (clL_cons (TR.clo api_FieldRef.t (show api_FieldRef.t.R ({ Header := x4_, Field := x5_ } : api_FieldRef) (.agg [vi x4_, vi x5_]) from rfl)) clL_nil)) f121) ?_
      refine rd_op (v := .fs true [vi y121]) (ov_bslice rfl (all_cons rfl all_nil)) ?_
      have r122 : (tSl tI).R ([y121] : List Int) (.fs true [vi y121]) := sl_fs ⟨rfl, trivial⟩ (by simp)
      obtain ⟨nw123, sr123, ar123⟩ := src_of (t := tI) (h := h) r122
      have f123 : fits (esE105n2.length + nw123.length) 8 = true := by rw [All2.length_eq qE105n2, All2.length_eq ar123]; (try simp only [List.length_cons, List.length_nil]); exact fits_of (by first | omega | (simp only [List.length_append, List.length_cons, List.length_nil] at *; omega) | ((try simp only [List.length_append, List.length_cons, List.length_nil]); (have hk := tl (by assumption) (by assumption); omega)) | ((try simp only [List.length_append, List.length_cons, List.length_nil]); (have hk := tl (by assumption) (by assumption); have hk2 := hk.2 x4_ (by omega) (by omega); omega))) (by first | omega | (simp only [List.length_append, List.length_cons, List.length_nil] at *; omega) | ((try simp only [List.length_append, List.length_cons, List.length_nil]); (have hk := tl (by assumption) (by assumption); omega)) | ((try simp only [List.length_append, List.length_cons, List.length_nil]); (have hk := tl (by assumption) (by assumption); have hk2 := hk.2 x4_ (by omega) (by omega); omega)))
      refine rd_appW (k := 0) (es := esE105n2) (news := nw123) M0 rfl rfl rfl nE105n2 wrE105n2 sr123 f123 (fun a123 h123 n123 wr123 M123 => ?_)
      have q123 : All2 tI.R (zE105n2 ++ ([y121] : List Int)) (esE105n2 ++ nw123) := All2.app qE105n2 ar123
      have hl123 : (zE105n2 ++ ([y121] : List Int)).length ≤ 4611686018427387904 := by rw [← All2.length_eq q123, List.length_append]; exact fits_len f123
      refine rd_op (ov_move rfl) ?_
      refine rd_nil ?_
      refine pn_blk ?_
      refine pn_seq ?_
      refine rc_region ?_
      refine rd_op (ov_move rfl) ?_
      refine rd_op (ov_bin rfl rfl i_add) ?_
      refine rd_op (ov_move rfl) ?_
      refine rd_nil ?_
      refine pn_again ?_
      have hbd := sl_bound r119
      have hinc : wr (x5_ + 1) = x5_ + 1 := wr_of (by omega) (by omega)
      rw [hinc]
      refine rc_weak ?_ (ih (x5_ + 1) (zE105n2 ++ ([y121] : List Int)) (esE105n2 ++ nw123) a123 q123 n123 wr123 hl123 (by omega) (by omega) (by first | omega | (simp only [List.length_append, List.length_cons, List.length_nil]; omega) | (have hk := tl (by assumption) (by assumption); omega) | (simp only [List.length_append, List.length_cons, List.length_nil]; have hk := tl (by assumption) (by assumption); omega) | (simp; done)) (by first | omega | (simp only [List.length_append, List.length_cons, List.length_nil]; omega) | (have hk := tl (by assumption) (by assumption); omega) | (simp only [List.length_append, List.length_cons, List.length_nil]; have hk := tl (by assumption) (by assumption); omega) | (simp; done)) _ (Mem.sub M123 (.cons_cons _ .slnil)) hres)
      exact ((sub_cons rfl (sub_cons rfl (sub_cons rfl (sub_cons rfl (sub_nil _))))))
    · exfalso
      try simp only [Bool.or_eq_true, Bool.or_eq_false_iff, Bool.and_eq_true, Bool.and_eq_false_imp, decide_eq_true_eq, decide_eq_false_iff_not, Bool.not_eq_true', Bool.not_eq_false', Bool.not_eq_true, Bool.not_eq_false, Bool.not_true, Bool.not_false, ne_eq] at hc120
      omega

theorem law31_AccessDistinct_L1_ok {S : List Fr} {res : Bool} {x0 : api_Program} {y101 : Bool} {v0 : PV} (r0 : api_Program.t.R x0 v0) (hw101 : law21_TooLarge x0 = y101) (hc102 : y101 = false) {K0 : (List Int) → Bool}
    (hK0 : ∀ (zE105 : List Int) (esE105 : List PV) (aE105 : PV) (qE105 : All2 tI.R zE105 esE105) (nE105 : isL aE105 = true) (wrE105 : Wri aE105 esE105) (hlE105 : zE105.length ≤ 4611686018427387904) (po0 : (zE105.length : Int) ≤ 336) (h : Heap) (M0 : Mem h [⟨aE105, 3, 1, esE105⟩]), K0 zE105 = res → PX Try.prog 0 S (QR Try.prog [(2, none)] (RF3 res)) [(1, .fp v0), (3, aE105)] h) :
    ∀ (m : Nat) (x4_ : Int) (zE105 : List Int) (esE105 : List PV) (aE105 : PV) (qE105 : All2 tI.R zE105 esE105) (nE105 : isL aE105 = true) (wrE105 : Wri aE105 esE105) (hlE105 : zE105.length ≤ 4611686018427387904) (hm1 : m = Int.toNat ((x0.Headers.length : Int) - x4_)) (hlo1 : 0 ≤ x4_) (iv1_0 : (zE105.length : Int) ≤ 21 * x4_) (iv1_1 : x4_ ≤ (x0.Headers.length : Int)) (h : Heap) (M0 : Mem h [⟨aE105, 3, 1, esE105⟩]), law31_AccessDistinct_L1 x0 K0 m x4_ zE105 = res → RC Try.prog (.loop ac3_L1) S (QR Try.prog [(2, none)] (RF3 res)) [(4, vi x4_), (3, aE105), (1, .fp v0)] h := by
  have hc102' := hc102
  try simp only [Bool.or_eq_true, Bool.or_eq_false_iff, Bool.and_eq_true, Bool.and_eq_false_imp, decide_eq_true_eq, decide_eq_false_iff_not, Bool.not_eq_true', Bool.not_eq_false', Bool.not_eq_true, Bool.not_eq_false, Bool.not_true, Bool.not_false, ne_eq] at hc102'
  intro m
  induction m with
  | zero =>
    intro x4_ zE105 esE105 aE105 qE105 nE105 wrE105 hlE105 hm1 hlo1 iv1_0 iv1_1 h M0 hres
    rw [law31_AccessDistinct_L1] at hres
    refine rc_loop ?_
    unfold ac3_L1
    refine rc_seq ?_
    refine rc_seq ?_
    refine rc_region ?_
    refine rd_op (ov_move rfl) ?_
    obtain ⟨v106, e106, r106⟩ := api_Program.g_Headers r0
    refine rd_op (ov_faddr rfl e106) ?_
    refine rd_op (ov_load rfl (TR.cnt (tSl api_Header.t) r106) (TR.agg (tSl api_Header.t) r106)) ?_
    refine rd_op (ov_bi rfl (sl_len r106 Try.underlying22 _)) ?_
    refine rd_op (ov_bin rfl rfl i_lss) ?_
    refine rd_nil ?_
    refine pn_seq ?_
    refine rc_cond rfl (fun hc107 => ?_) (fun hc107 => ?_)
    · exfalso
      try simp only [Bool.or_eq_true, Bool.or_eq_false_iff, Bool.and_eq_true, Bool.and_eq_false_imp, decide_eq_true_eq, decide_eq_false_iff_not, Bool.not_eq_true', Bool.not_eq_false', Bool.not_eq_true, Bool.not_eq_false, Bool.not_true, Bool.not_false, ne_eq] at hc107
      omega
    · have hend := hres
      have hc107' := hc107
      try simp only [Bool.or_eq_true, Bool.or_eq_false_iff, Bool.and_eq_true, Bool.and_eq_false_imp, decide_eq_true_eq, decide_eq_false_iff_not, Bool.not_eq_true', Bool.not_eq_false', Bool.not_eq_true, Bool.not_eq_false, Bool.not_true, Bool.not_false, ne_eq] at hc107'
      refine rc_exit ?_
      refine px_seq ?_
      refine px_again ?_
      exact px_weak ((sub_cons rfl (sub_cons rfl (sub_nil _)))) (hK0 zE105 esE105 aE105 qE105 nE105 wrE105 hlE105 (by (have hk := tl (by assumption) (by assumption); omega)) _ (Mem.sub M0 (.cons_cons _ .slnil)) hres)
  | succ m ih =>
    intro x4_ zE105 esE105 aE105 qE105 nE105 wrE105 hlE105 hm1 hlo1 iv1_0 iv1_1 h M0 hres
    rw [law31_AccessDistinct_L1] at hres
    refine rc_loop ?_
    unfold ac3_L1
    refine rc_seq ?_
    refine rc_seq ?_
    refine rc_region ?_
    refine rd_op (ov_move rfl) ?_
    obtain ⟨v108, e108, r108⟩ := api_Program.g_Headers r0
    refine rd_op (ov_faddr rfl e108) ?_
    refine rd_op (ov_load rfl (TR.cnt (tSl api_Header.t) r108) (TR.agg (tSl api_Header.t) r108)) ?_
    refine rd_op (ov_bi rfl (sl_len r108 Try.underlying22 _)) ?_
    refine rd_op (ov_bin rfl rfl i_lss) ?_
    refine rd_nil ?_
    refine pn_seq ?_
    refine rc_cond rfl (fun hc109 => ?_) (fun hc109 => ?_)
    · have hgo := hres
      have hc109' := hc109
      try simp only [Bool.or_eq_true, Bool.or_eq_false_iff, Bool.and_eq_true, Bool.and_eq_false_imp, decide_eq_true_eq, decide_eq_false_iff_not, Bool.not_eq_true', Bool.not_eq_false', Bool.not_eq_true, Bool.not_eq_false, Bool.not_true, Bool.not_false, ne_eq] at hc109'
      refine rc_skip ?_
      refine pn_seq ?_
      refine rc_seq ?_
      refine rc_block ?_
      refine rc_seq ?_
      refine rc_region ?_
      refine rd_op (ov_move rfl) ?_
      refine rd_op (ov_load rfl (TR.cnt api_Program.t r0) (TR.agg api_Program.t r0)) ?_
      refine rd_op (ov_move rfl) ?_
      obtain ⟨y110, hw110, hres⟩ := let_ex hres
      have f110 := f6_ok (x1 := x4_) r0 
      rw [hw110] at f110
      refine rd_call (cv_fn rfl rfl (clL_cons (TR.clo api_Program.t r0) (clL_cons rfl clL_nil)) f110) ?_
      refine rd_op (v := .fs true [vi y110]) (ov_bslice rfl (all_cons rfl all_nil)) ?_
      have r111 : (tSl tI).R ([y110] : List Int) (.fs true [vi y110]) := sl_fs ⟨rfl, trivial⟩ (by simp)
      obtain ⟨nw112, sr112, ar112⟩ := src_of (t := tI) (h := h) r111
      have f112 : fits (esE105.length + nw112.length) 8 = true := by rw [All2.length_eq qE105, All2.length_eq ar112]; (try simp only [List.length_cons, List.length_nil]); exact fits_of (by first | omega | (simp only [List.length_append, List.length_cons, List.length_nil] at *; omega) | ((try simp only [List.length_append, List.length_cons, List.length_nil]); (have hk := tl (by assumption) (by assumption); omega)) | ((try simp only [List.length_append, List.length_cons, List.length_nil]); (have hk := tl (by assumption) (by assumption); have hk2 := hk.2 x4_ (by omega) (by omega); omega))) (by first | omega | (simp only [List.length_append, List.length_cons, List.length_nil] at *; omega) | ((try simp only [List.length_append, List.length_cons, List.length_nil]); (have hk := tl (by assumption) (by assumption); omega)) | ((try simp only [List.length_append, List.length_cons, List.length_nil]); (have hk := tl (by assumption) (by assumption); have hk2 := hk.2 x4_ (by omega) (by omega); omega)))
      refine rd_appW (k := 0) (es := esE105) (news := nw112) M0 rfl rfl rfl nE105 wrE105 sr112 f112 (fun a112 h112 n112 wr112 M112 => ?_)
      have q112 : All2 tI.R (zE105 ++ ([y110] : List Int)) (esE105 ++ nw112) := All2.app qE105 ar112
      have hl112 : (zE105 ++ ([y110] : List Int)).length ≤ 4611686018427387904 := by rw [← All2.length_eq q112, List.length_append]; exact fits_len f112
      refine rd_op (ov_move rfl) ?_
      refine rd_nil ?_
      refine pn_seq ?_
      refine rc_seq ?_
      refine rc_region ?_
      refine rd_op (v := vi 0) (ov_move rfl) ?_
      refine rd_nil ?_
      refine pn_seq ?_
      refine rc_block ?_
      refine rc_weak ?_ (law31_AccessDistinct_L2_ok (x0 := x0) (y101 := y101) (x4_ := x4_) (zE105 := zE105) (y110 := y110) (v0 := v0) (esE105 := esE105) (aE105 := aE105) (nw112 := nw112) (a112 := a112)  (r0 := r0) (hw101 := hw101) (hc102 := hc102) (nE105 := nE105) (wrE105 := wrE105) (hlE105 := hlE105) (hlo1 := hlo1) (iv1_0 := iv1_0) (iv1_1 := iv1_1) (hc109 := hc109) (hw110 := hw110) (ar112 := ar112) (wr112 := wr112) (hl112 := hl112) (n112 := n112) ?_ (Int.toNat ((((ix x0.Headers x4_).Fields).length : Int) - 0)) 0 (zE105 ++ ([y110] : List Int)) (esE105 ++ nw112) a112 q112 n112 wr112 hl112 rfl (by omega) (by first | omega | (simp only [List.length_append, List.length_cons, List.length_nil]; omega) | (have hk := tl (by assumption) (by assumption); omega) | (simp only [List.length_append, List.length_cons, List.length_nil]; have hk := tl (by assumption) (by assumption); omega) | (simp; done)) (by first | omega | (simp only [List.length_append, List.length_cons, List.length_nil]; omega) | (have hk := tl (by assumption) (by assumption); omega) | (simp only [List.length_append, List.length_cons, List.length_nil]; have hk := tl (by assumption) (by assumption); omega) | (simp; done)) _ (Mem.sub M112 (.cons_cons _ .slnil)) hres)
      · exact ((sub_cons rfl (sub_cons rfl (sub_cons rfl (sub_cons rfl (sub_nil _))))))
      · intro zE105n2_124 es124E105 a124E105 q124E105 n124E105 wr124E105 hl124E105 po124_0 h124 M124 hres
        refine px_blk ?_
        refine pn_blk ?_
        refine pn_seq ?_
        refine rc_region ?_
        refine rd_op (ov_move rfl) ?_
        refine rd_op (ov_bin rfl rfl i_add) ?_
        refine rd_op (ov_move rfl) ?_
        refine rd_nil ?_
        refine pn_again ?_
        have hbd := sl_bound r108
        have hinc : wr (x4_ + 1) = x4_ + 1 := wr_of (by omega) (by omega)
        rw [hinc]
        refine rc_weak ?_ (ih (x4_ + 1) zE105n2_124 es124E105 a124E105 q124E105 n124E105 wr124E105 hl124E105 (by omega) (by omega) (by first | omega | (simp only [List.length_append, List.length_cons, List.length_nil]; omega) | (have hk := tl (by assumption) (by assumption); omega) | (simp only [List.length_append, List.length_cons, List.length_nil]; have hk := tl (by assumption) (by assumption); omega) | (simp; done)) (by first | omega | (simp only [List.length_append, List.length_cons, List.length_nil]; omega) | (have hk := tl (by assumption) (by assumption); omega) | (simp only [List.length_append, List.length_cons, List.length_nil]; have hk := tl (by assumption) (by assumption); omega) | (simp; done)) _ (Mem.sub M124 (.cons_cons _ .slnil)) hres)
        exact ((sub_cons rfl (sub_cons rfl (sub_cons rfl (sub_nil _)))))
    · exfalso
      try simp only [Bool.or_eq_true, Bool.or_eq_false_iff, Bool.and_eq_true, Bool.and_eq_false_imp, decide_eq_true_eq, decide_eq_false_iff_not, Bool.not_eq_true', Bool.not_eq_false', Bool.not_eq_true, Bool.not_eq_false, Bool.not_true, Bool.not_false, ne_eq] at hc109
      omega

theorem law31_AccessDistinct_L3_ok {S : List Fr} {res : Bool} {x0 : api_Program} {y101 : Bool} {zE105_125 : List Int} {v0 : PV} {es125E105 : List PV} {a125E105 : PV} (r0 : api_Program.t.R x0 v0) (hw101 : law21_TooLarge x0 = y101) (hc102 : y101 = false) (n125E105 : isL a125E105 = true) (wr125E105 : Wri a125E105 es125E105) (hl125E105 : zE105_125.length ≤ 4611686018427387904) (po125_0 : (zE105_125.length : Int) ≤ 336) {K4 : (List Int) → Bool}
    (hK4 : ∀ (zE105 : List Int) (esE105 : List PV) (aE105 : PV) (qE105 : All2 tI.R zE105 esE105) (nE105 : isL aE105 = true) (wrE105 : Wri aE105 esE105) (hlE105 : zE105.length ≤ 4611686018427387904) (po0 : (zE105.length : Int) ≤ 356) (h : Heap) (M0 : Mem h [⟨aE105, 3, 1, esE105⟩]), K4 zE105 = res → PX Try.prog 4 S (QR Try.prog [(2, none)] (RF3 res)) [(1, .fp v0), (3, aE105)] h) :
    ∀ (m : Nat) (x6_ : Int) (zE105 : List Int) (esE105 : List PV) (aE105 : PV) (qE105 : All2 tI.R zE105 esE105) (nE105 : isL aE105 = true) (wrE105 : Wri aE105 esE105) (hlE105 : zE105.length ≤ 4611686018427387904) (hm3 : m = Int.toNat ((x0.Metadata.length : Int) - x6_)) (hlo3 : 0 ≤ x6_) (iv3_0 : (zE105.length : Int) ≤ 336 + x6_) (iv3_1 : x6_ ≤ (x0.Metadata.length : Int)) (h : Heap) (M0 : Mem h [⟨aE105, 3, 1, esE105⟩]), law31_AccessDistinct_L3 x0 K4 m x6_ zE105 = res → RC Try.prog (.loop ac3_L3) S (QR Try.prog [(2, none)] (RF3 res)) [(6, vi x6_), (3, aE105), (1, .fp v0)] h := by
  have hc102' := hc102
  try simp only [Bool.or_eq_true, Bool.or_eq_false_iff, Bool.and_eq_true, Bool.and_eq_false_imp, decide_eq_true_eq, decide_eq_false_iff_not, Bool.not_eq_true', Bool.not_eq_false', Bool.not_eq_true, Bool.not_eq_false, Bool.not_true, Bool.not_false, ne_eq] at hc102'
  intro m
  induction m with
  | zero =>
    intro x6_ zE105 esE105 aE105 qE105 nE105 wrE105 hlE105 hm3 hlo3 iv3_0 iv3_1 h M0 hres
    rw [law31_AccessDistinct_L3] at hres
    refine rc_loop ?_
    unfold ac3_L3
    refine rc_seq ?_
    refine rc_seq ?_
    refine rc_region ?_
    refine rd_op (ov_move rfl) ?_
    obtain ⟨v126, e126, r126⟩ := api_Program.g_Metadata r0
    refine rd_op (ov_faddr rfl e126) ?_
    refine rd_op (ov_load rfl (TR.cnt (tSl api_Field.t) r126) (TR.agg (tSl api_Field.t) r126)) ?_
    refine rd_op (ov_bi rfl (sl_len r126 Try.underlying23 _)) ?_
    refine rd_op (ov_bin rfl rfl i_lss) ?_
    refine rd_nil ?_
    refine pn_seq ?_
    refine rc_cond rfl (fun hc127 => ?_) (fun hc127 => ?_)
    · exfalso
      try simp only [Bool.or_eq_true, Bool.or_eq_false_iff, Bool.and_eq_true, Bool.and_eq_false_imp, decide_eq_true_eq, decide_eq_false_iff_not, Bool.not_eq_true', Bool.not_eq_false', Bool.not_eq_true, Bool.not_eq_false, Bool.not_true, Bool.not_false, ne_eq] at hc127
      omega
    · have hend := hres
      have hc127' := hc127
      try simp only [Bool.or_eq_true, Bool.or_eq_false_iff, Bool.and_eq_true, Bool.and_eq_false_imp, decide_eq_true_eq, decide_eq_false_iff_not, Bool.not_eq_true', Bool.not_eq_false', Bool.not_eq_true, Bool.not_eq_false, Bool.not_true, Bool.not_false, ne_eq] at hc127'
      refine rc_exit ?_
      refine px_seq ?_
      refine px_again ?_
      exact px_weak ((sub_cons rfl (sub_cons rfl (sub_nil _)))) (hK4 zE105 esE105 aE105 qE105 nE105 wrE105 hlE105 (by (have hk := tl (by assumption) (by assumption); omega)) _ (Mem.sub M0 (.cons_cons _ .slnil)) hres)
  | succ m ih =>
    intro x6_ zE105 esE105 aE105 qE105 nE105 wrE105 hlE105 hm3 hlo3 iv3_0 iv3_1 h M0 hres
    rw [law31_AccessDistinct_L3] at hres
    refine rc_loop ?_
    unfold ac3_L3
    refine rc_seq ?_
    refine rc_seq ?_
    refine rc_region ?_
    refine rd_op (ov_move rfl) ?_
    obtain ⟨v128, e128, r128⟩ := api_Program.g_Metadata r0
    refine rd_op (ov_faddr rfl e128) ?_
    refine rd_op (ov_load rfl (TR.cnt (tSl api_Field.t) r128) (TR.agg (tSl api_Field.t) r128)) ?_
    refine rd_op (ov_bi rfl (sl_len r128 Try.underlying23 _)) ?_
    refine rd_op (ov_bin rfl rfl i_lss) ?_
    refine rd_nil ?_
    refine pn_seq ?_
    refine rc_cond rfl (fun hc129 => ?_) (fun hc129 => ?_)
    · have hgo := hres
      have hc129' := hc129
      try simp only [Bool.or_eq_true, Bool.or_eq_false_iff, Bool.and_eq_true, Bool.and_eq_false_imp, decide_eq_true_eq, decide_eq_false_iff_not, Bool.not_eq_true', Bool.not_eq_false', Bool.not_eq_true, Bool.not_eq_false, Bool.not_true, Bool.not_false, ne_eq] at hc129'
      refine rc_skip ?_
      refine pn_seq ?_
      refine rc_seq ?_
      refine rc_block ?_
      refine rc_region ?_
      refine rd_op (ov_move rfl) ?_
      refine rd_op (ov_load rfl (TR.cnt api_Program.t r0) (TR.agg api_Program.t r0)) ?_
      refine rd_op (ov_move rfl) ?_
      refine rd_op (v := .agg [vi (-1), vi x6_]) (ov_build (cs := [vi (-1), vi x6_]) rfl rfl) ?_
      obtain ⟨y130, hw130, hres⟩ := let_ex hres
      have f130 := f7_ok  r0 (show api_FieldRef.t.R ({ Header := (-1), Field := x6_ } : api_FieldRef) (.agg [vi (-1), vi x6_]) from rfl) 
      rw [hw130] at f130
      refine rd_call (cv_fn rfl rfl (clL_cons (TR.clo api_Program.t r0) (clL_cons (TR.clo api_FieldRef.t (show api_FieldRef.t.R ({ Header := (-1), Field := x6_ } : api_FieldRef) (.agg [vi (-1), vi x6_]) from rfl)) clL_nil)) f130) ?_
      refine rd_op (v := .fs true [vi y130]) (ov_bslice rfl (all_cons rfl all_nil)) ?_
      have r131 : (tSl tI).R ([y130] : List Int) (.fs true [vi y130]) := sl_fs ⟨rfl, trivial⟩ (by simp)
      obtain ⟨nw132, sr132, ar132⟩ := src_of (t := tI) (h := h) r131
      have f132 : fits (esE105.length + nw132.length) 8 = true := by rw [All2.length_eq qE105, All2.length_eq ar132]; (try simp only [List.length_cons, List.length_nil]); exact fits_of (by first | omega | (simp only [List.length_append, List.length_cons, List.length_nil] at *; omega) | ((try simp only [List.length_append, List.length_cons, List.length_nil]); (have hk := tl (by assumption) (by assumption); omega)) | ((try simp only [List.length_append, List.length_cons, List.length_nil]); (have hk := tl (by assumption) (by assumption); have hk2 := hk.2 x4_ (by omega) (by omega); omega))) (by first | omega | (simp only [List.length_append, List.length_cons, List.length_nil] at *; omega) | ((try simp only [List.length_append, List.length_cons, List.length_nil]); (have hk := tl (by assumption) (by assumption); omega)) | ((try simp only [List.length_append, List.length_cons, List.length_nil]); (have hk := tl (by assumption) (by assumption); have hk2 := hk.2 x4_ (by omega) (by omega); omega)))
      refine rd_appW (k := 0) (es := esE105) (news := nw132) M0 rfl rfl rfl nE105 wrE105 sr132 f132 (fun a132 h132 n132 wr132 M132 => ?_)
      have q132 : All2 tI.R (zE105 ++ ([y130] : List Int)) (esE105 ++ nw132) := All2.app qE105 ar132
      have hl132 : (zE105 ++ ([y130] : List Int)).length ≤ 4611686018427387904 := by rw [← All2.length_eq q132, List.length_append]; exact fits_len f132
      refine rd_op (ov_move rfl) ?_
      refine rd_nil ?_
      refine pn_blk ?_
      refine pn_seq ?_
      refine rc_region ?_
      refine rd_op (ov_move rfl) ?_
      refine rd_op (ov_bin rfl rfl i_add) ?_
      refine rd_op (ov_move rfl) ?_
      refine rd_nil ?_
      refine pn_again ?_
      have hbd := sl_bound r128
      have hinc : wr (x6_ + 1) = x6_ + 1 := wr_of (by omega) (by omega)
      rw [hinc]
      refine rc_weak ?_ (ih (x6_ + 1) (zE105 ++ ([y130] : List Int)) (esE105 ++ nw132) a132 q132 n132 wr132 hl132 (by omega) (by omega) (by first | omega | (simp only [List.length_append, List.length_cons, List.length_nil]; omega) | (have hk := tl (by assumption) (by assumption); omega) | (simp only [List.length_append, List.length_cons, List.length_nil]; have hk := tl (by assumption) (by assumption); omega) | (simp; done)) (by first | omega | (simp only [List.length_append, List.length_cons, List.length_nil]; omega) | (have hk := tl (by assumption) (by assumption); omega) | (simp only [List.length_append, List.length_cons, List.length_nil]; have hk := tl (by assumption) (by assumption); omega) | (simp; done)) _ (Mem.sub M132 (.cons_cons _ .slnil)) hres)
      exact ((sub_cons rfl (sub_cons rfl (sub_cons rfl (sub_nil _)))))
    · exfalso
      try simp only [Bool.or_eq_true, Bool.or_eq_false_iff, Bool.and_eq_true, Bool.and_eq_false_imp, decide_eq_true_eq, decide_eq_false_iff_not, Bool.not_eq_true', Bool.not_eq_false', Bool.not_eq_true, Bool.not_eq_false, Bool.not_true, Bool.not_false, ne_eq] at hc129
      omega

theorem law31_AccessDistinct_L4_ok {S : List Fr} {res : Bool} {x0 : api_Program} {y101 : Bool} {zE105_125 : List Int} {zE105_133 : List Int} {v0 : PV} {es125E105 : List PV} {a125E105 : PV} {es133E105 : List PV} {a133E105 : PV} (r0 : api_Program.t.R x0 v0) (hw101 : law21_TooLarge x0 = y101) (hc102 : y101 = false) (n125E105 : isL a125E105 = true) (wr125E105 : Wri a125E105 es125E105) (hl125E105 : zE105_125.length ≤ 4611686018427387904) (po125_0 : (zE105_125.length : Int) ≤ 336) (n133E105 : isL a133E105 = true) (wr133E105 : Wri a133E105 es133E105) (hl133E105 : zE105_133.length ≤ 4611686018427387904) (po133_0 : (zE105_133.length : Int) ≤ 356) {K6 : (List Int) → Bool}
    (hK6 : ∀ (zE105 : List Int) (esE105 : List PV) (aE105 : PV) (qE105 : All2 tI.R zE105 esE105) (nE105 : isL aE105 = true) (wrE105 : Wri aE105 esE105) (hlE105 : zE105.length ≤ 4611686018427387904) (po0 : (zE105.length : Int) ≤ 364) (h : Heap) (M0 : Mem h [⟨aE105, 3, 1, esE105⟩]), K6 zE105 = res → PX Try.prog 6 S (QR Try.prog [(2, none)] (RF3 res)) [(1, .fp v0), (3, aE105)] h) :
    ∀ (m : Nat) (x7_ : Int) (zE105 : List Int) (esE105 : List PV) (aE105 : PV) (qE105 : All2 tI.R zE105 esE105) (nE105 : isL aE105 = true) (wrE105 : Wri aE105 esE105) (hlE105 : zE105.length ≤ 4611686018427387904) (hm4 : m = Int.toNat ((x0.Registers.length : Int) - x7_)) (hlo4 : 0 ≤ x7_) (iv4_0 : (zE105.length : Int) ≤ 356 + x7_) (iv4_1 : x7_ ≤ (x0.Registers.length : Int)) (h : Heap) (M0 : Mem h [⟨aE105, 3, 1, esE105⟩]), law31_AccessDistinct_L4 x0 K6 m x7_ zE105 = res → RC Try.prog (.loop ac3_L4) S (QR Try.prog [(2, none)] (RF3 res)) [(7, vi x7_), (3, aE105), (1, .fp v0)] h := by
  have hc102' := hc102
  try simp only [Bool.or_eq_true, Bool.or_eq_false_iff, Bool.and_eq_true, Bool.and_eq_false_imp, decide_eq_true_eq, decide_eq_false_iff_not, Bool.not_eq_true', Bool.not_eq_false', Bool.not_eq_true, Bool.not_eq_false, Bool.not_true, Bool.not_false, ne_eq] at hc102'
  intro m
  induction m with
  | zero =>
    intro x7_ zE105 esE105 aE105 qE105 nE105 wrE105 hlE105 hm4 hlo4 iv4_0 iv4_1 h M0 hres
    rw [law31_AccessDistinct_L4] at hres
    refine rc_loop ?_
    unfold ac3_L4
    refine rc_seq ?_
    refine rc_seq ?_
    refine rc_region ?_
    refine rd_op (ov_move rfl) ?_
    obtain ⟨v134, e134, r134⟩ := api_Program.g_Registers r0
    refine rd_op (ov_faddr rfl e134) ?_
    refine rd_op (ov_load rfl (TR.cnt (tSl api_Register.t) r134) (TR.agg (tSl api_Register.t) r134)) ?_
    refine rd_op (ov_bi rfl (sl_len r134 Try.underlying24 _)) ?_
    refine rd_op (ov_bin rfl rfl i_lss) ?_
    refine rd_nil ?_
    refine pn_seq ?_
    refine rc_cond rfl (fun hc135 => ?_) (fun hc135 => ?_)
    · exfalso
      try simp only [Bool.or_eq_true, Bool.or_eq_false_iff, Bool.and_eq_true, Bool.and_eq_false_imp, decide_eq_true_eq, decide_eq_false_iff_not, Bool.not_eq_true', Bool.not_eq_false', Bool.not_eq_true, Bool.not_eq_false, Bool.not_true, Bool.not_false, ne_eq] at hc135
      omega
    · have hend := hres
      have hc135' := hc135
      try simp only [Bool.or_eq_true, Bool.or_eq_false_iff, Bool.and_eq_true, Bool.and_eq_false_imp, decide_eq_true_eq, decide_eq_false_iff_not, Bool.not_eq_true', Bool.not_eq_false', Bool.not_eq_true, Bool.not_eq_false, Bool.not_true, Bool.not_false, ne_eq] at hc135'
      refine rc_exit ?_
      refine px_seq ?_
      refine px_again ?_
      exact px_weak ((sub_cons rfl (sub_cons rfl (sub_nil _)))) (hK6 zE105 esE105 aE105 qE105 nE105 wrE105 hlE105 (by (have hk := tl (by assumption) (by assumption); omega)) _ (Mem.sub M0 (.cons_cons _ .slnil)) hres)
  | succ m ih =>
    intro x7_ zE105 esE105 aE105 qE105 nE105 wrE105 hlE105 hm4 hlo4 iv4_0 iv4_1 h M0 hres
    rw [law31_AccessDistinct_L4] at hres
    refine rc_loop ?_
    unfold ac3_L4
    refine rc_seq ?_
    refine rc_seq ?_
    refine rc_region ?_
    refine rd_op (ov_move rfl) ?_
    obtain ⟨v136, e136, r136⟩ := api_Program.g_Registers r0
    refine rd_op (ov_faddr rfl e136) ?_
    refine rd_op (ov_load rfl (TR.cnt (tSl api_Register.t) r136) (TR.agg (tSl api_Register.t) r136)) ?_
    refine rd_op (ov_bi rfl (sl_len r136 Try.underlying24 _)) ?_
    refine rd_op (ov_bin rfl rfl i_lss) ?_
    refine rd_nil ?_
    refine pn_seq ?_
    refine rc_cond rfl (fun hc137 => ?_) (fun hc137 => ?_)
    · have hgo := hres
      have hc137' := hc137
      try simp only [Bool.or_eq_true, Bool.or_eq_false_iff, Bool.and_eq_true, Bool.and_eq_false_imp, decide_eq_true_eq, decide_eq_false_iff_not, Bool.not_eq_true', Bool.not_eq_false', Bool.not_eq_true, Bool.not_eq_false, Bool.not_true, Bool.not_false, ne_eq] at hc137'
      refine rc_skip ?_
      refine pn_seq ?_
      refine rc_seq ?_
      refine rc_block ?_
      refine rc_region ?_
      refine rd_op (ov_move rfl) ?_
      refine rd_op (ov_load rfl (TR.cnt api_Program.t r0) (TR.agg api_Program.t r0)) ?_
      refine rd_op (ov_move rfl) ?_
      obtain ⟨y138, hw138, hres⟩ := let_ex hres
      have f138 := f8_ok (x1 := x7_) r0 
      rw [hw138] at f138
      refine rd_call (cv_fn rfl rfl (clL_cons (TR.clo api_Program.t r0) (clL_cons rfl clL_nil)) f138) ?_
      refine rd_op (v := .fs true [vi y138]) (ov_bslice rfl (all_cons rfl all_nil)) ?_
      have r139 : (tSl tI).R ([y138] : List Int) (.fs true [vi y138]) := sl_fs ⟨rfl, trivial⟩ (by simp)
      obtain ⟨nw140, sr140, ar140⟩ := src_of (t := tI) (h := h) r139
      have f140 : fits (esE105.length + nw140.length) 8 = true := by rw [All2.length_eq qE105, All2.length_eq ar140]; (try simp only [List.length_cons, List.length_nil]); exact fits_of (by first | omega | (simp only [List.length_append, List.length_cons, List.length_nil] at *; omega) | ((try simp only [List.length_append, List.length_cons, List.length_nil]); (have hk := tl (by assumption) (by assumption); omega)) | ((try simp only [List.length_append, List.length_cons, List.length_nil]); (have hk := tl (by assumption) (by assumption); have hk2 := hk.2 x4_ (by omega) (by omega); omega))) (by first | omega | (simp only [List.length_append, List.length_cons, List.length_nil] at *; omega) | ((try simp only [List.length_append, List.length_cons, List.length_nil]); (have hk := tl (by assumption) (by assumption); omega)) | ((try simp only [List.length_append, List.length_cons, List.length_nil]); (have hk := tl (by assumption) (by assumption); have hk2 := hk.2 x4_ (by omega) (by omega); omega)))
      refine rd_appW (k := 0) (es := esE105) (news := nw140) M0 rfl rfl rfl nE105 wrE105 sr140 f140 (fun a140 h140 n140 wr140 M140 => ?_)
      have q140 : All2 tI.R (zE105 ++ ([y138] : List Int)) (esE105 ++ nw140) := All2.app qE105 ar140
      have hl140 : (zE105 ++ ([y138] : List Int)).length ≤ 4611686018427387904 := by rw [← All2.length_eq q140, List.length_append]; exact fits_len f140
      refine rd_op (ov_move rfl) ?_
      refine rd_nil ?_
      refine pn_blk ?_
      refine pn_seq ?_
      refine rc_region ?_
      refine rd_op (ov_move rfl) ?_
      refine rd_op (ov_bin rfl rfl i_add) ?_
      refine rd_op (ov_move rfl) ?_
      refine rd_nil ?_
      refine pn_again ?_
      have hbd := sl_bound r136
      have hinc : wr (x7_ + 1) = x7_ + 1 := wr_of (by omega) (by omega)
      rw [hinc]
      refine rc_weak ?_ (ih (x7_ + 1) (zE105 ++ ([y138] : List Int)) (esE105 ++ nw140) a140 q140 n140 wr140 hl140 (by omega) (by omega) (by first | omega | (simp only [List.length_append, List.length_cons, List.length_nil]; omega) | (have hk := tl (by assumption) (by assumption); omega) | (simp only [List.length_append, List.length_cons, List.length_nil]; have hk := tl (by assumption) (by assumption); omega) | (simp; done)) (by first | omega | (simp only [List.length_append, List.length_cons, List.length_nil]; omega) | (have hk := tl (by assumption) (by assumption); omega) | (simp only [List.length_append, List.length_cons, List.length_nil]; have hk := tl (by assumption) (by assumption); omega) | (simp; done)) _ (Mem.sub M140 (.cons_cons _ .slnil)) hres)
      exact ((sub_cons rfl (sub_cons rfl (sub_cons rfl (sub_nil _)))))
    · exfalso
      try simp only [Bool.or_eq_true, Bool.or_eq_false_iff, Bool.and_eq_true, Bool.and_eq_false_imp, decide_eq_true_eq, decide_eq_false_iff_not, Bool.not_eq_true', Bool.not_eq_false', Bool.not_eq_true, Bool.not_eq_false, Bool.not_true, Bool.not_false, ne_eq] at hc137
      omega

theorem law31_AccessDistinct_L5_ok {S : List Fr} {res : Bool} {x0 : api_Program} {y101 : Bool} {zE105_125 : List Int} {zE105_133 : List Int} {zE105_141 : List Int} {y142 : Int} {es125E105 : List PV} {a125E105 : PV} {es133E105 : List PV} {a133E105 : PV} {es141E105 : List PV} {a141E105 : PV} {i144 : Nat} {w144 : Nat} (hw101 : law21_TooLarge x0 = y101) (hc102 : y101 = false) (n125E105 : isL a125E105 = true) (wr125E105 : Wri a125E105 es125E105) (hl125E105 : zE105_125.length ≤ 4611686018427387904) (po125_0 : (zE105_125.length : Int) ≤ 336) (n133E105 : isL a133E105 = true) (wr133E105 : Wri a133E105 es133E105) (hl133E105 : zE105_133.length ≤ 4611686018427387904) (po133_0 : (zE105_133.length : Int) ≤ 356) (q141E105 : All2 tI.R zE105_141 es141E105) (n141E105 : isL a141E105 = true) (wr141E105 : Wri a141E105 es141E105) (hl141E105 : zE105_141.length ≤ 4611686018427387904) (po141_0 : (zE105_141.length : Int) ≤ 364) (hw142 : access_Cells x0 = y142) (hc143 : (!decide ((zE105_141.length : Int) = y142)) = false) (hn144 : (List.replicate y142.toNat false).length = y142.toNat) (hl144 : (List.replicate y142.toNat false).length ≤ 4611686018427387904) {K8 : (List Bool) → Bool}
    (hK8 : ∀ (zE145 : List Bool) (esE145 : List PV) (qE145 : All2 tB.R zE145 esE145) (hnE145 : zE145.length = y142.toNat) (hlE145 : zE145.length ≤ 4611686018427387904) (h : Heap) (M0 : Mem h [⟨.os i144 w144 0 y142.toNat, 4, 1, esE145⟩, ⟨a141E105, 3, 1, es141E105⟩]), K8 zE145 = res → PX Try.prog 8 S (QR Try.prog [(2, none)] (RF3 res)) [] h) :
    ∀ (m : Nat) (x10_ : Int) (zE145 : List Bool) (esE145 : List PV) (qE145 : All2 tB.R zE145 esE145) (hnE145 : zE145.length = y142.toNat) (hlE145 : zE145.length ≤ 4611686018427387904) (hm5 : m = Int.toNat (y142 - x10_)) (hlo5 : 0 ≤ x10_) (h : Heap) (M0 : Mem h [⟨.os i144 w144 0 y142.toNat, 4, 1, esE145⟩, ⟨a141E105, 3, 1, es141E105⟩]), law31_AccessDistinct_L5 zE105_141 y142 K8 m x10_ zE145 = res → RC Try.prog (.loop ac3_L5) S (QR Try.prog [(2, none)] (RF3 res)) [(10, vi x10_), (9, .os i144 w144 0 y142.toNat), (8, vi y142), (3, a141E105)] h := by
  have hc102' := hc102
  try simp only [Bool.or_eq_true, Bool.or_eq_false_iff, Bool.and_eq_true, Bool.and_eq_false_imp, decide_eq_true_eq, decide_eq_false_iff_not, Bool.not_eq_true', Bool.not_eq_false', Bool.not_eq_true, Bool.not_eq_false, Bool.not_true, Bool.not_false, ne_eq] at hc102'
  have hc143' := hc143
  try simp only [Bool.or_eq_true, Bool.or_eq_false_iff, Bool.and_eq_true, Bool.and_eq_false_imp, decide_eq_true_eq, decide_eq_false_iff_not, Bool.not_eq_true', Bool.not_eq_false', Bool.not_eq_true, Bool.not_eq_false, Bool.not_true, Bool.not_false, ne_eq] at hc143'
  intro m
  induction m with
  | zero =>
    intro x10_ zE145 esE145 qE145 hnE145 hlE145 hm5 hlo5 h M0 hres
    rw [law31_AccessDistinct_L5] at hres
    refine rc_loop ?_
    unfold ac3_L5
    refine rc_seq ?_
    refine rc_seq ?_
    refine rc_region ?_
    refine rd_op (ov_move rfl) ?_
    refine rd_op (ov_move rfl) ?_
    refine rd_op (ov_bin rfl rfl i_lss) ?_
    refine rd_nil ?_
    refine pn_seq ?_
    refine rc_cond rfl (fun hc146 => ?_) (fun hc146 => ?_)
    · exfalso
      try simp only [Bool.or_eq_true, Bool.or_eq_false_iff, Bool.and_eq_true, Bool.and_eq_false_imp, decide_eq_true_eq, decide_eq_false_iff_not, Bool.not_eq_true', Bool.not_eq_false', Bool.not_eq_true, Bool.not_eq_false, Bool.not_true, Bool.not_false, ne_eq] at hc146
      omega
    · have hend := hres
      have hc146' := hc146
      try simp only [Bool.or_eq_true, Bool.or_eq_false_iff, Bool.and_eq_true, Bool.and_eq_false_imp, decide_eq_true_eq, decide_eq_false_iff_not, Bool.not_eq_true', Bool.not_eq_false', Bool.not_eq_true, Bool.not_eq_false, Bool.not_true, Bool.not_false, ne_eq] at hc146'
      refine rc_exit ?_
      refine px_seq ?_
      refine px_again ?_
      exact px_weak ((sub_nil _)) (hK8 zE145 esE145 qE145 hnE145 hlE145 _ (Mem.sub M0 (.cons_cons _ (.cons_cons _ .slnil))) hres)
  | succ m ih =>
    intro x10_ zE145 esE145 qE145 hnE145 hlE145 hm5 hlo5 h M0 hres
    rw [law31_AccessDistinct_L5] at hres
    refine rc_loop ?_
    unfold ac3_L5
    refine rc_seq ?_
    refine rc_seq ?_
    refine rc_region ?_
    refine rd_op (ov_move rfl) ?_
    refine rd_op (ov_move rfl) ?_
    refine rd_op (ov_bin rfl rfl i_lss) ?_
    refine rd_nil ?_
    refine pn_seq ?_
    refine rc_cond rfl (fun hc147 => ?_) (fun hc147 => ?_)
    · have hgo := hres
      have hc147' := hc147
      try simp only [Bool.or_eq_true, Bool.or_eq_false_iff, Bool.and_eq_true, Bool.and_eq_false_imp, decide_eq_true_eq, decide_eq_false_iff_not, Bool.not_eq_true', Bool.not_eq_false', Bool.not_eq_true, Bool.not_eq_false, Bool.not_true, Bool.not_false, ne_eq] at hc147'
      refine rc_skip ?_
      refine pn_seq ?_
      refine rc_seq ?_
      refine rc_block ?_
      refine rc_seq ?_
      refine rc_seq ?_
      refine rc_region ?_
      refine rd_op (ov_move rfl) ?_
      refine rd_op (ov_move rfl) ?_
      obtain ⟨i148, w148, m148, ha148⟩ := wri_os (i := x10_) wr141E105 q141E105 (by omega) (by omega)
      subst ha148
      have hn148 : zE105_141.length = m148 := by rw [mem_osn M0 (k := 1) rfl, All2.length_eq q141E105]
      have h0_149 : 0 ≤ x10_ := (by omega)
      have h1_149 : x10_ < (zE105_141.length : Int) := (by omega)
      refine rd_op (ov_iaddr rfl rfl (n_idx 1 h0_149 (by omega))) ?_
      obtain ⟨v150, e150, r150⟩ := elem_at (i := x10_) q141E105 h0_149 h1_149
      have r150 : v150 = vi (ix zE105_141 x10_) := r150; subst r150
      refine rd_op (ov_elem (k := 1) M0 rfl rfl e150 rfl) ?_
      refine rd_op (ov_bin rfl rfl i_lss) ?_
      refine rd_op (ov_move rfl) ?_
      refine rd_cut (d := 98) (v := vb ((decide ((ix zE105_141 x10_) < 0)) || (decide (y142 ≤ (ix zE105_141 x10_))))) ?_ ?_
      · intro S Q r
        simp only [ac3_G1, List.cons_append, List.nil_append, List.append_assoc]
        cases hb151 : (decide ((ix zE105_141 x10_) < 0))
        · intro k
          have hb151' := hb151
          try simp only [Bool.or_eq_true, Bool.or_eq_false_iff, Bool.and_eq_true, Bool.and_eq_false_imp, decide_eq_true_eq, decide_eq_false_iff_not, Bool.not_eq_true', Bool.not_eq_false', Bool.not_eq_true, Bool.not_eq_false, Bool.not_true, Bool.not_false, ne_eq] at hb151'
          refine rd_yes rfl rfl (ov_move rfl) ?_
          refine rd_yes rfl rfl (ov_move rfl) ?_
          have h0_152 : 0 ≤ x10_ := (by omega)
          have h1_152 : x10_ < (zE105_141.length : Int) := (by omega)
          refine rd_yes rfl rfl (ov_iaddr rfl rfl (n_idx 1 h0_152 (by omega))) ?_
          obtain ⟨v153, e153, r153⟩ := elem_at (i := x10_) q141E105 h0_152 h1_152
          have r153 : v153 = vi (ix zE105_141 x10_) := r153; subst r153
          refine rd_yes rfl rfl (ov_elem (k := 1) M0 rfl rfl e153 rfl) ?_
          refine rd_yes rfl rfl (ov_move rfl) ?_
          refine rd_yes rfl rfl (ov_bin rfl rfl i_geq) ?_
          refine rd_op (v := vb (decide (y142 ≤ (ix zE105_141 x10_)))) (ov_pick rfl rfl rfl rfl) ?_
          exact rd_weak (sub_cons rfl (sub_skip rfl (sub_skip rfl (sub_skip rfl (sub_skip rfl (sub_skip rfl (sub_skip rfl (sub_skip rfl (sub_refl _))))))))) k
        · intro k
          refine rd_skip rfl rfl ?_
          refine rd_skip rfl rfl ?_
          refine rd_skip rfl rfl ?_
          refine rd_skip rfl rfl ?_
          refine rd_skip rfl rfl ?_
          refine rd_skip rfl rfl ?_
          refine rd_op (v := vb true) (ov_pick rfl rfl rfl rfl) ?_
          exact rd_weak (sub_cons rfl (sub_skip rfl (sub_skip rfl (sub_skip rfl (sub_skip rfl (sub_skip rfl (sub_skip rfl (sub_skip rfl (sub_refl _))))))))) k
      refine rd_op (ov_move rfl) ?_
      refine rd_cut (d := 107) (v := vb (((decide ((ix zE105_141 x10_) < 0)) || (decide (y142 ≤ (ix zE105_141 x10_)))) || (ix zE145 (ix zE105_141 x10_)))) ?_ ?_
      · intro S Q r
        simp only [ac3_G2, List.cons_append, List.nil_append, List.append_assoc]
        cases hb154 : ((decide ((ix zE105_141 x10_) < 0)) || (decide (y142 ≤ (ix zE105_141 x10_))))
        · intro k
          have hb154' := hb154
          try simp only [Bool.or_eq_true, Bool.or_eq_false_iff, Bool.and_eq_true, Bool.and_eq_false_imp, decide_eq_true_eq, decide_eq_false_iff_not, Bool.not_eq_true', Bool.not_eq_false', Bool.not_eq_true, Bool.not_eq_false, Bool.not_true, Bool.not_false, ne_eq] at hb154'
          refine rd_yes rfl rfl (ov_move rfl) ?_
          refine rd_yes rfl rfl (ov_move rfl) ?_
          refine rd_yes rfl rfl (ov_move rfl) ?_
          have h0_155 : 0 ≤ x10_ := (by omega)
          have h1_155 : x10_ < (zE105_141.length : Int) := (by omega)
          refine rd_yes rfl rfl (ov_iaddr rfl rfl (n_idx 1 h0_155 (by omega))) ?_
          obtain ⟨v156, e156, r156⟩ := elem_at (i := x10_) q141E105 h0_155 h1_155
          have r156 : v156 = vi (ix zE105_141 x10_) := r156; subst r156
          refine rd_yes rfl rfl (ov_elem (k := 1) M0 rfl rfl e156 rfl) ?_
          have h0_157 : 0 ≤ (ix zE105_141 x10_) := (by omega)
          have h1_157 : (ix zE105_141 x10_) < (zE145.length : Int) := (by omega)
          refine rd_yes rfl rfl (ov_iaddr rfl rfl (n_idx 1 h0_157 (by omega))) ?_
          obtain ⟨v158, e158, r158⟩ := elem_at (i := (ix zE105_141 x10_)) qE145 h0_157 h1_157
          have r158 : v158 = vb (ix zE145 (ix zE105_141 x10_)) := r158; subst r158
          refine rd_yes rfl rfl (ov_elem (k := 0) M0 rfl rfl e158 rfl) ?_
          refine rd_op (v := vb (ix zE145 (ix zE105_141 x10_))) (ov_pick rfl rfl rfl rfl) ?_
          exact rd_weak (sub_cons rfl (sub_skip rfl (sub_skip rfl (sub_skip rfl (sub_skip rfl (sub_skip rfl (sub_skip rfl (sub_skip rfl (sub_skip rfl (sub_refl _)))))))))) k
        · intro k
          refine rd_skip rfl rfl ?_
          refine rd_skip rfl rfl ?_
          refine rd_skip rfl rfl ?_
          refine rd_skip rfl rfl ?_
          refine rd_skip rfl rfl ?_
          refine rd_skip rfl rfl ?_
          refine rd_skip rfl rfl ?_
          refine rd_op (v := vb true) (ov_pick rfl rfl rfl rfl) ?_
          exact rd_weak (sub_cons rfl (sub_skip rfl (sub_skip rfl (sub_skip rfl (sub_skip rfl (sub_skip rfl (sub_skip rfl (sub_skip rfl (sub_skip rfl (sub_refl _)))))))))) k
      refine rd_nil ?_
      refine pn_seq ?_
      refine rc_cond rfl (fun hc159 => ?_) (fun hc159 => ?_)
      · replace hres := (ite_t hc159).symm.trans hres
        have hc159' := hc159
        try simp only [Bool.or_eq_true, Bool.or_eq_false_iff, Bool.and_eq_true, Bool.and_eq_false_imp, decide_eq_true_eq, decide_eq_false_iff_not, Bool.not_eq_true', Bool.not_eq_false', Bool.not_eq_true, Bool.not_eq_false, Bool.not_true, Bool.not_false, ne_eq] at hc159'
        refine rc_seq ?_
        refine rc_region ?_
        refine rd_op (v := vb false) (ov_move rfl) ?_
        refine rd_nil ?_
        refine pn_seq ?_
        subst hres
        exact rc_retV (.tmp rfl .nil) (deep_closed rfl) rfl
      · replace hres := (ite_f hc159).symm.trans hres
        have hc159' := hc159
        try simp only [Bool.or_eq_true, Bool.or_eq_false_iff, Bool.and_eq_true, Bool.and_eq_false_imp, decide_eq_true_eq, decide_eq_false_iff_not, Bool.not_eq_true', Bool.not_eq_false', Bool.not_eq_true, Bool.not_eq_false, Bool.not_true, Bool.not_false, ne_eq] at hc159'
        refine rc_skip ?_
        refine pn_seq ?_
        refine rc_region ?_
        refine rd_op (ov_move rfl) ?_
        refine rd_op (ov_move rfl) ?_
        refine rd_op (ov_move rfl) ?_
        have h0_160 : 0 ≤ x10_ := (by omega)
        have h1_160 : x10_ < (zE105_141.length : Int) := (by omega)
        refine rd_op (ov_iaddr rfl rfl (n_idx 1 h0_160 (by omega))) ?_
        obtain ⟨v161, e161, r161⟩ := elem_at (i := x10_) q141E105 h0_160 h1_160
        have r161 : v161 = vi (ix zE105_141 x10_) := r161; subst r161
        refine rd_op (ov_elem (k := 1) M0 rfl rfl e161 rfl) ?_
        have h0_162 : 0 ≤ (ix zE105_141 x10_) := (by omega)
        have h1_162 : (ix zE105_141 x10_) < (zE145.length : Int) := (by omega)
        refine rd_op (ov_iaddr rfl rfl (n_idx 1 h0_162 (by omega))) ?_
        refine rd_setO (k := 0) (v := vb true) M0 rfl rfl rfl (by rw [All2.length_eq qE145]; omega) rfl (fun h163 M163 => ?_)
        have q163 := All2.set (i := ((ix zE105_141 x10_)).toNat) qE145 (show tB.R true (vb true) from rfl)
        have hl163 : (zE145.set ((ix zE105_141 x10_)).toNat true).length ≤ 4611686018427387904 := by simp only [List.length_set]; exact hlE145
        have hn163 : (zE145.set ((ix zE105_141 x10_)).toNat true).length = y142.toNat := by simp only [List.length_set]; exact hnE145
        refine rd_nil ?_
        refine pn_blk ?_
        refine pn_seq ?_
        refine rc_region ?_
        refine rd_op (ov_move rfl) ?_
        refine rd_op (ov_bin rfl rfl i_add) ?_
        refine rd_op (ov_move rfl) ?_
        refine rd_nil ?_
        refine pn_again ?_
        have hinc : wr (x10_ + 1) = x10_ + 1 := wr_of (by omega) (by omega)
        rw [hinc]
        refine rc_weak ?_ (ih (x10_ + 1) (zE145.set ((ix zE105_141 x10_)).toNat true) (esE145.set ((ix zE105_141 x10_)).toNat (vb true)) q163 hn163 hl163 (by omega) (by omega) _ (Mem.sub M163 (.cons_cons _ (.cons_cons _ .slnil))) hres)
        exact ((sub_cons rfl (sub_cons rfl (sub_cons rfl (sub_cons rfl (sub_nil _))))))
    · exfalso
      try simp only [Bool.or_eq_true, Bool.or_eq_false_iff, Bool.and_eq_true, Bool.and_eq_false_imp, decide_eq_true_eq, decide_eq_false_iff_not, Bool.not_eq_true', Bool.not_eq_false', Bool.not_eq_true, Bool.not_eq_false, Bool.not_true, Bool.not_false, ne_eq] at hc147
      omega

theorem f3_ok {x0 : api_Program} {v0 : PV} (r0 : api_Program.t.R x0 v0) : FnR Try.prog 3 [v0] (vb (law31_AccessDistinct x0)) := by
  obtain ⟨res, hres⟩ : ∃ res, law31_AccessDistinct x0 = res := ⟨_, rfl⟩
  suffices H : RC Try.prog ac3 [] (QR Try.prog [(2, none)] (RF3 res)) (argE 0 [v0]) ⟨0, []⟩ by
    obtain ⟨r, h1, h2⟩ := fnE text3 (by simp) H
    rw [hres]
    have h2 : r = vb res := h2
    rw [← h2]; exact h1
  unfold law31_AccessDistinct at hres
  unfold ac3
  refine rc_seq ?_
  refine rc_region ?_
  refine rd_op (ov_box rfl (TR.cnt api_Program.t r0)) ?_
  refine rd_op (v := vb false) (ov_move rfl) ?_
  refine rd_nil ?_
  refine pn_seq ?_
  refine rc_seq ?_
  refine rc_seq ?_
  refine rc_region ?_
  refine rd_op (ov_load rfl (TR.cnt api_Program.t r0) (TR.agg api_Program.t r0)) ?_
  obtain ⟨y101, hw101, hres⟩ := let_ex hres
  have f101 := f4_ok  r0 
  rw [hw101] at f101
  refine rd_call (cv_fn rfl rfl (clL_cons (TR.clo api_Program.t r0) clL_nil) f101) ?_
  refine rd_nil ?_
  refine pn_seq ?_
  refine rc_cond rfl (fun hc102 => ?_) (fun hc102 => ?_)
  · replace hres := (ite_t hc102).symm.trans hres
    have hc102' := hc102
    try simp only [Bool.or_eq_true, Bool.or_eq_false_iff, Bool.and_eq_true, Bool.and_eq_false_imp, decide_eq_true_eq, decide_eq_false_iff_not, Bool.not_eq_true', Bool.not_eq_false', Bool.not_eq_true, Bool.not_eq_false, Bool.not_true, Bool.not_false, ne_eq] at hc102'
    refine rc_seq ?_
    refine rc_region ?_
    obtain ⟨y103, hw103, hres⟩ := let_ex hres
    have f103 := f5_ok   
    rw [hw103] at f103
    refine rd_call (cv_fn rfl rfl clL_nil f103) ?_
    refine rd_op (ov_move rfl) ?_
    refine rd_nil ?_
    refine pn_seq ?_
    subst hres
    exact rc_retV (.tmp rfl .nil) (deep_closed rfl) rfl
  · replace hres := (ite_f hc102).symm.trans hres
    have hc102' := hc102
    try simp only [Bool.or_eq_true, Bool.or_eq_false_iff, Bool.and_eq_true, Bool.and_eq_false_imp, decide_eq_true_eq, decide_eq_false_iff_not, Bool.not_eq_true', Bool.not_eq_false', Bool.not_eq_true, Bool.not_eq_false, Bool.not_true, Bool.not_false, ne_eq] at hc102'
    refine rc_skip ?_
    refine pn_seq ?_
    refine rc_seq ?_
    refine rc_region ?_
    refine rd_op (v := nilS) (ov_move rfl) ?_
    refine rd_nil ?_
    refine pn_seq ?_
    refine rc_seq ?_
    refine rc_seq ?_
    refine rc_region ?_
    refine rd_op (v := vi 0) (ov_move rfl) ?_
    refine rd_nil ?_
    refine pn_seq ?_
    refine rc_block ?_
    have M104 := mem_acc (sz := 1) (es := []) (Mem.nil ⟨0, []⟩) 3 (.inl ⟨none, rfl, rfl⟩) (by simp)
    refine rc_weak ?_ (law31_AccessDistinct_L1_ok (x0 := x0) (y101 := y101) (v0 := v0)  (r0 := r0) (hw101 := hw101) (hc102 := hc102) ?_ (Int.toNat ((x0.Headers.length : Int) - 0)) 0 ([] : List Int) ([] : List PV) nilS (show All2 tI.R ([] : List Int) [] from trivial) rfl (.inl rfl) (by decide) rfl (by omega) (by first | omega | (simp only [List.length_append, List.length_cons, List.length_nil]; omega) | (have hk := tl (by assumption) (by assumption); omega) | (simp only [List.length_append, List.length_cons, List.length_nil]; have hk := tl (by assumption) (by assumption); omega) | (simp; done)) (by first | omega | (simp only [List.length_append, List.length_cons, List.length_nil]; omega) | (have hk := tl (by assumption) (by assumption); omega) | (simp only [List.length_append, List.length_cons, List.length_nil]; have hk := tl (by assumption) (by assumption); omega) | (simp; done)) _ (Mem.sub M104 (.cons_cons _ .slnil)) hres)
    · exact ((sub_cons rfl (sub_cons rfl (sub_cons rfl (sub_nil _)))))
    · intro zE105_125 es125E105 a125E105 q125E105 n125E105 wr125E105 hl125E105 po125_0 h125 M125 hres
      refine px_blk ?_
      refine pn_seq ?_
      refine rc_seq ?_
      refine rc_seq ?_
      refine rc_region ?_
      refine rd_op (v := vi 0) (ov_move rfl) ?_
      refine rd_nil ?_
      refine pn_seq ?_
      refine rc_block ?_
      refine rc_weak ?_ (law31_AccessDistinct_L3_ok (x0 := x0) (y101 := y101) (zE105_125 := zE105_125) (v0 := v0) (es125E105 := es125E105) (a125E105 := a125E105)  (r0 := r0) (hw101 := hw101) (hc102 := hc102) (n125E105 := n125E105) (wr125E105 := wr125E105) (hl125E105 := hl125E105) (po125_0 := po125_0) ?_ (Int.toNat ((x0.Metadata.length : Int) - 0)) 0 zE105_125 es125E105 a125E105 q125E105 n125E105 wr125E105 hl125E105 rfl (by omega) (by first | omega | (simp only [List.length_append, List.length_cons, List.length_nil]; omega) | (have hk := tl (by assumption) (by assumption); omega) | (simp only [List.length_append, List.length_cons, List.length_nil]; have hk := tl (by assumption) (by assumption); omega) | (simp; done)) (by first | omega | (simp only [List.length_append, List.length_cons, List.length_nil]; omega) | (have hk := tl (by assumption) (by assumption); omega) | (simp only [List.length_append, List.length_cons, List.length_nil]; have hk := tl (by assumption) (by assumption); omega) | (simp; done)) _ (Mem.sub M125 (.cons_cons _ .slnil)) hres)
      · exact ((sub_cons rfl (sub_cons rfl (sub_cons rfl (sub_nil _)))))
      · intro zE105_133 es133E105 a133E105 q133E105 n133E105 wr133E105 hl133E105 po133_0 h133 M133 hres
        refine px_blk ?_
        refine pn_seq ?_
        refine rc_seq ?_
        refine rc_seq ?_
        refine rc_region ?_
        refine rd_op (v := vi 0) (ov_move rfl) ?_
        refine rd_nil ?_
        refine pn_seq ?_
        refine rc_block ?_
        refine rc_weak ?_ (law31_AccessDistinct_L4_ok (x0 := x0) (y101 := y101) (zE105_125 := zE105_125) (zE105_133 := zE105_133) (v0 := v0) (es125E105 := es125E105) (a125E105 := a125E105) (es133E105 := es133E105) (a133E105 := a133E105)  (r0 := r0) (hw101 := hw101) (hc102 := hc102) (n125E105 := n125E105) (wr125E105 := wr125E105) (hl125E105 := hl125E105) (po125_0 := po125_0) (n133E105 := n133E105) (wr133E105 := wr133E105) (hl133E105 := hl133E105) (po133_0 := po133_0) ?_ (Int.toNat ((x0.Registers.length : Int) - 0)) 0 zE105_133 es133E105 a133E105 q133E105 n133E105 wr133E105 hl133E105 rfl (by omega) (by first | omega | (simp only [List.length_append, List.length_cons, List.length_nil]; omega) | (have hk := tl (by assumption) (by assumption); omega) | (simp only [List.length_append, List.length_cons, List.length_nil]; have hk := tl (by assumption) (by assumption); omega) | (simp; done)) (by first | omega | (simp only [List.length_append, List.length_cons, List.length_nil]; omega) | (have hk := tl (by assumption) (by assumption); omega) | (simp only [List.length_append, List.length_cons, List.length_nil]; have hk := tl (by assumption) (by assumption); omega) | (simp; done)) _ (Mem.sub M133 (.cons_cons _ .slnil)) hres)
        · exact ((sub_cons rfl (sub_cons rfl (sub_cons rfl (sub_nil _)))))
        · intro zE105_141 es141E105 a141E105 q141E105 n141E105 wr141E105 hl141E105 po141_0 h141 M141 hres
          refine px_blk ?_
          refine pn_seq ?_
          refine rc_seq ?_
          refine rc_region ?_
          refine rd_op (ov_load rfl (TR.cnt api_Program.t r0) (TR.agg api_Program.t r0)) ?_
          obtain ⟨y142, hw142, hres⟩ := let_ex hres
          have f142 := f9_ok  r0 
          rw [hw142] at f142
          refine rd_call (cv_fn rfl rfl (clL_cons (TR.clo api_Program.t r0) clL_nil) f142) ?_
          refine rd_op (ov_move rfl) ?_
          refine rd_nil ?_
          refine pn_seq ?_
          refine rc_seq ?_
          refine rc_seq ?_
          refine rc_region ?_
          refine rd_op (ov_move rfl) ?_
          refine rd_op (ov_bi rfl (own_len (k := 0) M141 rfl Try.underlying29 n141E105 q141E105 _)) ?_
          refine rd_op (ov_move rfl) ?_
          refine rd_op (ov_bin rfl rfl i_neq) ?_
          refine rd_nil ?_
          refine pn_seq ?_
          refine rc_cond rfl (fun hc143 => ?_) (fun hc143 => ?_)
          · replace hres := (ite_t hc143).symm.trans hres
            have hc143' := hc143
            try simp only [Bool.or_eq_true, Bool.or_eq_false_iff, Bool.and_eq_true, Bool.and_eq_false_imp, decide_eq_true_eq, decide_eq_false_iff_not, Bool.not_eq_true', Bool.not_eq_false', Bool.not_eq_true, Bool.not_eq_false, Bool.not_true, Bool.not_false, ne_eq] at hc143'
            refine rc_seq ?_
            refine rc_region ?_
            refine rd_op (v := vb false) (ov_move rfl) ?_
            refine rd_nil ?_
            refine pn_seq ?_
            subst hres
            exact rc_retV (.tmp rfl .nil) (deep_closed rfl) rfl
          · replace hres := (ite_f hc143).symm.trans hres
            have hc143' := hc143
            try simp only [Bool.or_eq_true, Bool.or_eq_false_iff, Bool.and_eq_true, Bool.and_eq_false_imp, decide_eq_true_eq, decide_eq_false_iff_not, Bool.not_eq_true', Bool.not_eq_false', Bool.not_eq_true, Bool.not_eq_false, Bool.not_true, Bool.not_false, ne_eq] at hc143'
            refine rc_skip ?_
            refine pn_seq ?_
            refine rc_seq ?_
            refine rc_region ?_
            refine rd_op (ov_move rfl) ?_
            have f144 : fits (y142.toNat) 1 = true := fits_of (by first | omega | (simp only [List.length_append, List.length_cons, List.length_nil] at *; omega) | ((try simp only [List.length_append, List.length_cons, List.length_nil]); (have hk := tl (by assumption) (by assumption); omega)) | ((try simp only [List.length_append, List.length_cons, List.length_nil]); (have hk := tl (by assumption) (by assumption); have hk2 := hk.2 x4_ (by omega) (by omega); omega))) (by first | omega | (simp only [List.length_append, List.length_cons, List.length_nil] at *; omega) | ((try simp only [List.length_append, List.length_cons, List.length_nil]); (have hk := tl (by assumption) (by assumption); omega)) | ((try simp only [List.length_append, List.length_cons, List.length_nil]); (have hk := tl (by assumption) (by assumption); have hk2 := hk.2 x4_ (by omega) (by omega); omega)))
            refine rd_makeOI (sz := 1) (ty := 4) (m := y142) (zz := vb false) M141 (by omega) rfl rfl rfl rfl rfl f144 (fun i144 w144 h144 M144 => ?_)
            have q144 : All2 tB.R (List.replicate y142.toNat false) (List.replicate y142.toNat (vb false)) := All2.rep (show tB.R false (vb false) from rfl) _
            have hn144 : (List.replicate y142.toNat false).length = y142.toNat := List.length_replicate
            have hl144 : (List.replicate y142.toNat false).length ≤ 4611686018427387904 := by rw [hn144]; exact fits_len f144
            refine rd_op (ov_move rfl) ?_
            refine rd_nil ?_
            refine pn_seq ?_
            refine rc_seq ?_
            refine rc_seq ?_
            refine rc_region ?_
            refine rd_op (v := vi 0) (ov_move rfl) ?_
            refine rd_nil ?_
            refine pn_seq ?_
            refine rc_block ?_
            refine rc_weak ?_ (law31_AccessDistinct_L5_ok (x0 := x0) (y101 := y101) (zE105_125 := zE105_125) (zE105_133 := zE105_133) (zE105_141 := zE105_141) (y142 := y142) (es125E105 := es125E105) (a125E105 := a125E105) (es133E105 := es133E105) (a133E105 := a133E105) (es141E105 := es141E105) (a141E105 := a141E105) (i144 := i144) (w144 := w144) (hw101 := hw101) (hc102 := hc102) (n125E105 := n125E105) (wr125E105 := wr125E105) (hl125E105 := hl125E105) (po125_0 := po125_0) (n133E105 := n133E105) (wr133E105 := wr133E105) (hl133E105 := hl133E105) (po133_0 := po133_0) (q141E105 := q141E105) (n141E105 := n141E105) (wr141E105 := wr141E105) (hl141E105 := hl141E105) (po141_0 := po141_0) (hw142 := hw142) (hc143 := hc143) (hn144 := hn144) (hl144 := hl144) ?_ (Int.toNat (y142 - 0)) 0 (List.replicate y142.toNat false) (List.replicate y142.toNat (vb false)) q144 hn144 hl144 rfl (by omega) _ (Mem.sub M144 (.cons_cons _ (.cons_cons _ .slnil))) hres)
            · exact ((sub_cons rfl (sub_cons rfl (sub_cons rfl (sub_cons rfl (sub_nil _))))))
            · intro zE145_164 es164E145 q164E145 hn164E145 hl164E145 h164 M164 hres
              refine px_blk ?_
              refine pn_seq ?_
              refine rc_seq ?_
              refine rc_region ?_
              obtain ⟨y165, hw165, hres⟩ := let_ex hres
              have f165 := f5_ok   
              rw [hw165] at f165
              refine rd_call (cv_fn rfl rfl clL_nil f165) ?_
              refine rd_op (ov_move rfl) ?_
              refine rd_nil ?_
              refine pn_seq ?_
              subst hres
              exact rc_retV (.tmp rfl .nil) (deep_closed rfl) rfl

end Go.Proofs.Ytepkgeppmjmkjaa
