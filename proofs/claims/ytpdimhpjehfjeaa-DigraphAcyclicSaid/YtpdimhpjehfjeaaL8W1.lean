/-
  The code of each function does what its plain program says.
-/
import Derived.Test.YtpdimhpjehfjeaaL8W0
set_option linter.unusedVariables false
set_option linter.unusedSimpArgs false
set_option maxRecDepth 100000
namespace Go.Proofs.Ytpdimhpjehfjeaa
open Go Go.Pb Go.RowKit
def RF36 (res : (List Int)) (r : PV) : Prop := (tSl tI).R res r
theorem digraph_descend_L2_ok {S : List Fr} {res : (List Int)} {x0 : List (List Int)} {x1 : List Int} {x2 a9 : Int} {b0 : List Int} {v0 v1 b8 c3 : PV} (r1 : (tSl tI).R x1 v1) (hg : Gd x0.length x0) (hn : x0.length ≤ 1000) (hx : x1.length = x0.length) (ww : WB x1 100000) (h2 : 0 ≤ x2 ∧ x2 < (x0.length : Int)) (d3 : isL b8 = true) (c7 : b0.length ≤ 4611686018427387904) (d1 : 0 ≤ a9 ∧ a9 < (x0.length : Int)) (d2 : (b0.length : Int) + ix x1 a9 ≤ 100001) (c5 : (decide (0 < (ix x1 a9))) = true) (b5 : (tSl tI).R (ix x0 a9) c3) {K1 : Int → (List Int) → (List Int)} {K2 : (List Int) → (List Int)}
    (d4 : ∀ {a3 : Int} {a0 : List Int} {a1 : List PV} {a2 : PV} (a5 : All2 tI.R a0 a1) (a7 : isL a2 = true) (a6 : a0.length ≤ 4611686018427387904) (d9 : 0 ≤ a3 ∧ a3 < (x0.length : Int)) (d8 : ix x1 a3 = ix x1 a9 - 1) (e0 : (a0.length : Int) = b0.length + 1) {h : Heap} (M0 : Mem h [⟨a2, 3, 1, a1⟩]), K1 a3 a0 = res → PX Try.prog 1 S (QR Try.prog [(6, none)] (RF36 res)) [(0, v0), (1, v1), (2, vi a3), (7, a2)] h)
    (d6 : ∀ {a0 : List Int} {a1 : List PV} {a2 : PV} (a5 : All2 tI.R a0 a1) (a7 : isL a2 = true) (a6 : a0.length ≤ 4611686018427387904) {h : Heap} (M0 : Mem h [⟨a2, 3, 1, a1⟩]), K2 a0 = res → PX Try.prog 2 S (QR Try.prog [(6, none)] (RF36 res)) [(7, a2)] h) :
    ∀ {m : Nat} {a3 a4 : Int} {a0 : List Int} {a1 : List PV} {a2 : PV} (a5 : All2 tI.R a0 a1) (a7 : isL a2 = true) (a6 : a0.length ≤ 4611686018427387904) (d0 : m = Int.toNat (((ix x0 a9).length : Int) - a4)) (c4 : 0 ≤ a4) (a8 : a3 = a9) (b3 : a0.length = b0.length) {h : Heap} (M0 : Mem h [⟨a2, 3, 1, a1⟩]), digraph_descend_L2 x0 x1 a9 K1 K2 m a3 a4 a0 = res → RC Try.prog (.loop ac36_L2) S (QR Try.prog [(6, none)] (RF36 res)) [(22, vi a4), (21, vi ((ix x0 a9).length : Int)), (20, c3), (7, a2), (2, vi a3), (1, v1), (0, v0)] h := by
  have b4 := c5
  try simp only [qa, qaD] at b4
  intro m
  induction m with
  | zero =>
    intro a3 a4 a0 a1 a2 a5 a7 a6 d0 c4 a8 b3 h M0 hres
    rw [digraph_descend_L2] at hres
    refine rc_loop ?_
    refine sR ?_
    refine bN i_lss rfl rfl ?_
    refine nS ?_
    refine rc_seq ?_
    refine rc_cond rfl ?_ ?_ <;> intro c <;> try simp only [qa, qaD] at c
    · omega
    refine rc_exit ?_
    refine px_seq ?_
    refine px_again ?_
    exact wP (d6 a5 a7 a6 (Mem.sub M0 (.cons_cons _ .slnil)) hres) rfl
  | succ m ih =>
    intro a3 a4 a0 a1 a2 a5 a7 a6 d0 c4 a8 b3 h M0 hres
    rw [digraph_descend_L2] at hres
    refine rc_loop ?_
    refine sR ?_
    refine bN i_lss rfl rfl ?_
    refine nS ?_
    refine rc_seq ?_
    refine rc_cond rfl ?_ ?_ <;> intro c <;> try simp only [qa, qaD] at c
    rotate_left
    · omega
    refine rc_skip ?_
    refine pn_seq ?_
    refine rc_seq ?_
    refine rc_block ?_
    refine sR ?_
    refine rd_op (ov_iaddr rfl rfl (slI b5 (by first | omega | first | (have hk := hg.at (k := a9) (i := a4) (by omega) (by omega) (by omega) (by omega); omega) | (have e := a8; omega)) (by first | omega | first | (have hk := hg.at (k := a9) (i := a4) (by omega) (by omega) (by omega) (by omega); omega) | (have e := a8; omega)))) ?_
    refine lR rfl rfl rfl ?_
    refine mV rfl ?_
    refine nR ?_
    refine mV rfl ?_
    refine mV rfl ?_
    refine rd_op (ov_iaddr rfl rfl (slI r1 (by first | omega | first | (have hk := hg.at (k := a9) (i := a4) (by omega) (by omega) (by omega) (by omega); omega) | (have e := a8; omega)) (by first | omega | first | (have hk := hg.at (k := a9) (i := a4) (by omega) (by omega) (by omega) (by omega); omega) | (have e := a8; omega)))) ?_
    refine lR rfl rfl rfl ?_
    refine mV rfl ?_
    refine mV rfl ?_
    refine rd_op (ov_iaddr rfl rfl (slI r1 (by first | omega | first | (have hk := hg.at (k := a9) (i := a4) (by omega) (by omega) (by omega) (by omega); omega) | (have e := a8; omega)) (by first | omega | first | (have hk := hg.at (k := a9) (i := a4) (by omega) (by omega) (by omega) (by omega); omega) | (have e := a8; omega)))) ?_
    refine lR rfl rfl rfl ?_
    refine bN i_sub rfl rfl ?_
    refine bN i_eql rfl rfl ?_
    refine nS ?_
    refine rc_br hres rfl ?_ ?_ <;> clear hres <;> intro c hres <;> try simp only [qa, qaD] at c
    · refine sR ?_
      refine mV rfl ?_
      refine mV rfl ?_
      refine nR ?_
      refine mV rfl ?_
      refine mV rfl ?_
      refine rd_op (v := .fs true [vi (ix (ix x0 a9) a4)]) (ov_bslice rfl (all_cons rfl all_nil)) ?_
      have c9 : (tSl tI).R ([(ix (ix x0 a9) a4)] : List Int) (.fs true [vi (ix (ix x0 a9) a4)]) := sl_fs ⟨rfl, trivial⟩ (by simp)
      obtain ⟨b1, c2, b2⟩ := src_of (t := tI) (h := h) c9
      have b6 : fits (a1.length + b1.length) 8 = true := by rw [All2.length_eq a5, All2.length_eq b2]; (try simp only [List.length_cons, List.length_nil]); exact fits_of (by first | omega | (simp only [List.length_append, List.length_cons, List.length_nil]; omega)) (by first | omega | (simp only [List.length_append, List.length_cons, List.length_nil]; omega))
      refine rd_appO (k := 0) (es := a1) (news := b1) M0 rfl rfl rfl a7 c2 b6 (fun d7 d5 c6 c8 => ?_)
      have b9 : All2 tI.R (a0 ++ ([(ix (ix x0 a9) a4)] : List Int)) (a1 ++ b1) := All2.app a5 b2
      have b7 : (a0 ++ ([(ix (ix x0 a9) a4)] : List Int)).length ≤ 4611686018427387904 := by rw [← All2.length_eq b9, List.length_append]; exact fits_len b6
      refine mV rfl ?_
      refine nS ?_
      refine rc_exit ?_
      refine px_ne rfl ?_
      refine px_seq ?_
      refine px_again ?_
      exact wP (d4 b9 c6 b7 (by first | omega | (have hk := hg.at (k := a9) (i := a4) (by omega) (by omega) (by omega) (by omega); have ej : ix x1 a3 = ix x1 a9 := (by rw [a8]); have hq := ww.at_dec (k := a3) (by omega) (by omega) (by omega); first | omega | (simp only [List.length_append, List.length_cons, List.length_nil]; omega))) (by first | omega | (have hk := hg.at (k := a9) (i := a4) (by omega) (by omega) (by omega) (by omega); have ej : ix x1 a3 = ix x1 a9 := (by rw [a8]); have hq := ww.at_dec (k := a3) (by omega) (by omega) (by omega); first | omega | (simp only [List.length_append, List.length_cons, List.length_nil]; omega))) (by first | omega | (have hk := hg.at (k := a9) (i := a4) (by omega) (by omega) (by omega) (by omega); have ej : ix x1 a3 = ix x1 a9 := (by rw [a8]); have hq := ww.at_dec (k := a3) (by omega) (by omega) (by omega); first | omega | (simp only [List.length_append, List.length_cons, List.length_nil]; omega))) (Mem.sub c8 (.cons_cons _ .slnil)) hres) rfl
    · refine rc_skip ?_
      refine pn_blk ?_
      refine pn_seq ?_
      refine rc_region ?_
      refine bN i_add rfl rfl ?_
      refine mV rfl ?_
      refine rd_nil ?_
      refine pn_again ?_
      have hbd := sl_bound b5
      have hinc : wr (a4 + 1) = a4 + 1 := wr_of (by omega) (by omega)
      erw [hinc]
      exact wC (ih  a5 a7 a6 (by omega) (by omega) (by first | omega | (simp; done) | (simp only [List.length_append, List.length_cons, List.length_nil, List.length_set]; omega)) (by first | omega | (simp; done) | (simp only [List.length_append, List.length_cons, List.length_nil, List.length_set]; omega)) (Mem.sub M0 (.cons_cons _ .slnil)) hres) rfl

theorem digraph_descend_L1_ok {S : List Fr} {res : (List Int)} {x0 : List (List Int)} {x1 : List Int} {x2 : Int} {v0 v1 : PV} (r0 : (tSl (tSl tI)).R x0 v0) (r1 : (tSl tI).R x1 v1) (hg : Gd x0.length x0) (hn : x0.length ≤ 1000) (hx : x1.length = x0.length) (ww : WB x1 100000) (h2 : 0 ≤ x2 ∧ x2 < (x0.length : Int)) {K0 : (List Int) → (List Int)}
    (d1 : ∀ {a0 : List Int} {a1 : List PV} {a3 : PV} (a5 : All2 tI.R a0 a1) (a4 : isL a3 = true) (a2 : a0.length ≤ 4611686018427387904) {h : Heap} (M0 : Mem h [⟨a3, 3, 1, a1⟩]), K0 a0 = res → PX Try.prog 0 S (QR Try.prog [(6, none)] (RF36 res)) [(7, a3)] h) :
    ∀ {m : Nat} {a6 : Int} {a0 : List Int} {a1 : List PV} {a3 : PV} (a5 : All2 tI.R a0 a1) (a4 : isL a3 = true) (a2 : a0.length ≤ 4611686018427387904) (d4 : ix x1 a6 ≤ (m : Int)) (a9 : 0 ≤ a6 ∧ a6 < (x0.length : Int)) (b2 : (a0.length : Int) + ix x1 a6 ≤ 100001) {h : Heap} (M0 : Mem h [⟨a3, 3, 1, a1⟩]), digraph_descend_L1 x0 x1 K0 m a6 a0 = res → RC Try.prog (.loop ac36_L1) S (QR Try.prog [(6, none)] (RF36 res)) [(7, a3), (2, vi a6), (1, v1), (0, v0)] h := by
  intro m
  induction m with
  | zero =>
    intro a6 a0 a1 a3 a5 a4 a2 d4 a9 b2 h M0 hres
    rw [digraph_descend_L1] at hres
    refine rc_loop ?_
    refine rc_seq ?_
    refine sR ?_
    refine mV rfl ?_
    refine mV rfl ?_
    refine rd_op (ov_iaddr rfl rfl (slI r1 (by first | omega | first | (have hk := hg.at (k := a6) (i := x22_) (by omega) (by omega) (by omega) (by omega); omega) | (have e := iv2_0; omega)) (by first | omega | first | (have hk := hg.at (k := a6) (i := x22_) (by omega) (by omega) (by omega) (by omega); omega) | (have e := iv2_0; omega)))) ?_
    refine lR rfl rfl rfl ?_
    refine bN i_gtr rfl rfl ?_
    refine nS ?_
    refine rc_cond rfl ?_ ?_ <;> intro c <;> try simp only [qa, qaD] at c
    · omega
    refine rc_exit ?_
    refine px_seq ?_
    refine px_again ?_
    exact wP (d1 a5 a4 a2 (Mem.sub M0 (.cons_cons _ .slnil)) hres) rfl
  | succ m ih =>
    intro a6 a0 a1 a3 a5 a4 a2 d4 a9 b2 h M0 hres
    rw [digraph_descend_L1] at hres
    refine rc_loop ?_
    refine rc_seq ?_
    refine sR ?_
    refine mV rfl ?_
    refine mV rfl ?_
    refine rd_op (ov_iaddr rfl rfl (slI r1 (by first | omega | first | (have hk := hg.at (k := a6) (i := x22_) (by omega) (by omega) (by omega) (by omega); omega) | (have e := iv2_0; omega)) (by first | omega | first | (have hk := hg.at (k := a6) (i := x22_) (by omega) (by omega) (by omega) (by omega); omega) | (have e := iv2_0; omega)))) ?_
    refine lR rfl rfl rfl ?_
    refine bN i_gtr rfl rfl ?_
    refine nS ?_
    refine rc_br hres rfl ?_ ?_ <;> clear hres <;> intro b7 hres <;> have b9 := b7 <;> try simp only [qa, qaD] at b9
    · refine rc_skip ?_
      refine pn_seq ?_
      refine rc_block ?_
      refine rc_seq ?_
      refine sR ?_
      refine mV rfl ?_
      refine mV rfl ?_
      obtain ⟨d7, d0, b8⟩ := sl_idx (i := a6) r0 (by first | omega | first | (have hk := hg.at (k := a6) (i := x22_) (by omega) (by omega) (by omega) (by omega); omega) | (have e := iv2_0; omega)) (by first | omega | first | (have hk := hg.at (k := a6) (i := x22_) (by omega) (by omega) (by omega) (by omega); omega) | (have e := iv2_0; omega))
      refine rd_op (ov_iaddr rfl rfl d0) ?_
      refine lD b8 rfl rfl rfl ?_
      refine rd_op (ov_bi rfl (sl_len b8 Try.underlying31 _)) ?_
      refine mI rfl ?_
      refine nS ?_
      refine rc_block ?_
      refine wC (digraph_descend_L2_ok r1 hg hn hx ww h2 a4 a2 a9 b2 b7 b8 ?_ ?_  a5 a4 a2 rfl (by omega) (by first | omega | (simp; done) | (simp only [List.length_append, List.length_cons, List.length_nil, List.length_set]; omega)) (by first | omega | (simp; done) | (simp only [List.length_append, List.length_cons, List.length_nil, List.length_set]; omega)) (Mem.sub M0 (.cons_cons _ .slnil)) hres) rfl
      · intro c2 b6 c3 c5 b3 b4 a7 c7 c9 c8 d6 d2 hres
        refine px_ne rfl ?_
        refine px_seq ?_
        refine px_blk ?_
        refine pn_again ?_
        exact wC (ih  b3 b4 a7 (by omega) (by first | omega | (simp; done) | (simp only [List.length_append, List.length_cons, List.length_nil, List.length_set]; omega)) (by first | omega | (simp; done) | (simp only [List.length_append, List.length_cons, List.length_nil, List.length_set]; omega)) (Mem.sub d2 (.cons_cons _ .slnil)) hres) rfl
      · intro b5 c4 c6 b0 b1 a8 d5 d3 hres
        refine px_blk ?_
        refine pn_seq ?_
        refine rc_exit ?_
        refine px_ne rfl ?_
        refine px_again ?_
        exact wP (d1 b0 b1 a8 (Mem.sub d3 (.cons_cons _ .slnil)) hres) rfl
    · refine rc_exit ?_
      refine px_seq ?_
      refine px_again ?_
      exact wP (d1 a5 a4 a2 (Mem.sub M0 (.cons_cons _ .slnil)) hres) rfl

theorem f36_ok {x0 : List (List Int)} {x1 : List Int} {x2 : Int} {v0 v1 : PV} (r0 : (tSl (tSl tI)).R x0 v0) (r1 : (tSl tI).R x1 v1) (hg : Gd x0.length x0) (hn : x0.length ≤ 1000) (hx : x1.length = x0.length) (ww : WB x1 100000) (h2 : 0 ≤ x2 ∧ x2 < (x0.length : Int)) : ∃ r, FnR Try.prog 36 [v0, v1, vi x2] r ∧ (tSl tI).R (digraph_descend x0 x1 x2) r := by
  refine fnT (R := RF36) text36 rfl fun res hres => ?_
  unfold digraph_descend at hres
  refine sR ?_
  refine rd_op (v := nilS) (ov_move rfl) ?_
  refine nS ?_
  refine rc_scope ?_
  refine sR ?_
  refine mV rfl ?_
  refine rd_op (v := .fs true [vi x2]) (ov_bslice rfl (all_cons rfl all_nil)) ?_
  have a8 : (tSl tI).R ([x2] : List Int) (.fs true [vi x2]) := sl_fs ⟨rfl, trivial⟩ (by simp)
  refine mV rfl ?_
  refine nS ?_
  refine rc_seq ?_
  refine rc_skip ?_
  refine pn_seq ?_
  refine rc_seq ?_
  refine rc_block ?_
  have a7 := a8
  have a6 : All2 tI.R ([x2] : List Int) [vi x2] := sl_all2 a7
  have b2 := mem_acc (sz := 1) (es := [vi x2]) (Mem.nil ⟨0, []⟩) 3 (.inr rfl) (All2.cnt (t := tI) a6)
  refine wC (digraph_descend_L1_ok r0 r1 hg hn hx ww h2 ?_  a6 rfl (by simp only [List.length_cons, List.length_nil]; decide) (by omega) (by first | omega | (have hq := ww.at_dec (k := x2) (by omega) (by omega) (by omega); simp only [List.length_cons, List.length_nil]; omega)) (by first | omega | (have hq := ww.at_dec (k := x2) (by omega) (by omega) (by omega); simp only [List.length_cons, List.length_nil]; omega)) (Mem.sub b2 (.cons_cons _ .slnil)) hres) rfl
  · intro a3 a4 a5 a2 a1 a0 b3 b0 hres
    refine px_blk ?_
    refine pn_seq ?_
    refine sR ?_
    refine mV rfl ?_
    refine mV rfl ?_
    refine nS ?_
    obtain ⟨b4, b1, a9⟩ := own_sl (P := Try.prog) (k := 0) (t := tI) b0 rfl a1 a2 (Nat.le_trans a0 (by decide))
    subst hres
    exact rc_retV (.tmp rfl .nil) b1 a9

def RF17 (res : (List Int) × Bool) (r : PV) : Prop := ∃ c0, r = .tup [c0, vb res.2] ∧ (tSl tI).R res.1 c0
theorem f17_ok {x0 : List (List Int)} {x1 x2 : Int} {v0 : PV} (r0 : (tSl (tSl tI)).R x0 v0) (hs : Sm x0) : ∃ c0, FnR Try.prog 17 [v0, vi x1, vi x2] (.tup [c0, vb ((digraph_ShortestPath x0 x1 x2).2)]) ∧ (tSl tI).R (digraph_ShortestPath x0 x1 x2).1 c0 := by
  obtain ⟨res, hres⟩ : ∃ res, digraph_ShortestPath x0 x1 x2 = res := ⟨_, rfl⟩
  suffices H : RC Try.prog ac17 [] (QR Try.prog [(6, none), (7, none)] (RF17 res)) (argE 0 [v0, vi x1, vi x2]) ⟨0, []⟩ by
    rw [hres]
    obtain ⟨r, h1, c0, rfl, d0⟩ := fnE text17 (by simp) H
    exact ⟨c0, h1, d0⟩
  unfold digraph_ShortestPath at hres
  have hn : x0.length ≤ 24 := hs.n
  refine sR ?_
  refine rd_op (v := nilS) (ov_move rfl) ?_
  refine mB rfl ?_
  refine nS ?_
  refine rc_seq ?_
  refine sR ?_
  refine mV rfl ?_
  refine mV rfl ?_
  obtain ⟨b1, a6, hres⟩ := let_ex hres
  have b5 := f33_ok (x1 := x1) r0 
  rw [a6] at b5
  have a0 := node_use a6
  refine cL b5 rfl rfl (clL_cons (TR.clo (tSl (tSl tI)) r0) (clL_cons rfl clL_nil)) ?_
  refine rd_op (ov_not rfl) ?_
  refine mV rfl ?_
  refine rd_cutn 5 (d := 18) (v := vb ((!b1) || (!(digraph_node x0 x2)))) ?_ ?_
  · intro S Q r
    cases b7 : (!b1)
    · intro k
      have a8 := b7
      try simp only [qa, qaD] at a8
      refine rd_yes rfl rfl (ov_move rfl) ?_
      refine rd_yes rfl rfl (ov_move rfl) ?_
      have c6 := f33_ok (x1 := x2) r0 
      refine rd_ycall rfl rfl (cv_fn rfl rfl (clL_cons (TR.clo (tSl (tSl tI)) r0) (clL_cons rfl clL_nil)) c6) ?_
      refine rd_yes rfl rfl (ov_not rfl) ?_
      exact gK rfl rfl rfl rfl rfl k
    · exact gN 4 rfl rfl rfl rfl rfl rfl
  refine nS ?_
  refine rc_br hres rfl ?_ ?_ <;> clear hres <;> intro c hres <;> try simp only [qa, qaD] at c
  · refine sR ?_
    refine rd_op (v := nilS) (ov_move rfl) ?_
    refine mB rfl ?_
    refine nS ?_
    subst hres
    exact rc_retV (.tmp rfl (.tmp rfl .nil)) (deep_closed (show closed (.tup _) = true from (clL_cons (TR.clo (tSl tI) sl_nil) (clL_cons rfl clL_nil)))) ⟨nilS, rfl, sl_nil⟩
  · refine rc_skip ?_
    refine pn_seq ?_
    refine sR ?_
    refine mV rfl ?_
    obtain ⟨b8, a4, hres⟩ := let_ex hres
    obtain ⟨d1, c8, a7⟩ := f29_ok  r0 (by first | assumption | omega)
    rw [a4] at a7
    have b2 : Gd x0.length b8 := rev_gd hs a4
    have b9 : b8.length = x0.length := b2.len
    refine cL c8 rfl rfl (clL_cons (TR.clo (tSl (tSl tI)) r0) clL_nil) ?_
    refine mV rfl ?_
    obtain ⟨b4, a3, hres⟩ := let_ex hres
    obtain ⟨d3, c4, a2⟩ := f34_ok (x1 := x2) a7 (by first | assumption | omega)
    rw [a3] at a2
    have a1 : b4.length = x0.length ∧ WB b4 1000 := (by have := dist_use (by omega) a3; rw [b9] at this; exact this)
    refine cL c4 rfl rfl (clL_cons (TR.clo (tSl (tSl tI)) a7) (clL_cons rfl clL_nil)) ?_
    refine mV rfl ?_
    refine nS ?_
    refine rc_seq ?_
    refine sR ?_
    refine mV rfl ?_
    refine mV rfl ?_
    refine rd_op (ov_iaddr rfl rfl (slI a2 (by first | omega | (have hk := a0 (by first | assumption | exact And.left (by assumption)); omega)) (by first | omega | (have hk := a0 (by first | assumption | exact And.left (by assumption)); omega)))) ?_
    refine lR rfl rfl rfl ?_
    refine bN i_lss rfl rfl ?_
    refine nS ?_
    refine rc_br hres rfl ?_ ?_ <;> clear hres <;> intro c hres <;> try simp only [qa, qaD] at c
    · refine sR ?_
      refine rd_op (v := nilS) (ov_move rfl) ?_
      refine mB rfl ?_
      refine nS ?_
      subst hres
      exact rc_retV (.tmp rfl (.tmp rfl .nil)) (deep_closed (show closed (.tup _) = true from (clL_cons (TR.clo (tSl tI) sl_nil) (clL_cons rfl clL_nil)))) ⟨nilS, rfl, sl_nil⟩
    · refine rc_skip ?_
      refine pn_seq ?_
      refine sR ?_
      refine mV rfl ?_
      obtain ⟨b6, a5, hres⟩ := let_ex hres
      obtain ⟨d2, c7, a9⟩ := f37_ok  r0 (by first | assumption | omega)
      rw [a5] at a9
      have c2 : Gd x0.length b6 := clean_gd hs a5
      have c9 : b6.length = x0.length := c2.len
      refine cL c7 rfl rfl (clL_cons (TR.clo (tSl (tSl tI)) r0) clL_nil) ?_
      refine mV rfl ?_
      refine mV rfl ?_
      obtain ⟨d4, b3, hres⟩ := let_ex hres
      obtain ⟨c3, c5, b0⟩ := f36_ok (x2 := x1) a9 a2 (by first | omega | exact Gd.self (by assumption) | exact WB.mono a1.2 (by omega) | (have hk := a0 (by first | assumption | exact And.left (by assumption)); omega)) (by first | omega | exact Gd.self (by assumption) | exact WB.mono a1.2 (by omega) | (have hk := a0 (by first | assumption | exact And.left (by assumption)); omega)) (by first | omega | exact Gd.self (by assumption) | exact WB.mono a1.2 (by omega) | (have hk := a0 (by first | assumption | exact And.left (by assumption)); omega)) (by first | omega | exact Gd.self (by assumption) | exact WB.mono a1.2 (by omega) | (have hk := a0 (by first | assumption | exact And.left (by assumption)); omega)) (by first | omega | exact Gd.self (by assumption) | exact WB.mono a1.2 (by omega) | (have hk := a0 (by first | assumption | exact And.left (by assumption)); omega))
      rw [b3] at b0
      refine cL c5 rfl rfl (clL_cons (TR.clo (tSl (tSl tI)) a9) (clL_cons (TR.clo (tSl tI) a2) (clL_cons rfl clL_nil))) ?_
      refine mV rfl ?_
      refine mB rfl ?_
      refine nS ?_
      subst hres
      exact rc_retV (.tmp rfl (.tmp rfl .nil)) (deep_closed (show closed (.tup _) = true from (clL_cons (TR.clo (tSl tI) b0) (clL_cons rfl clL_nil)))) ⟨c3, rfl, b0⟩

def RF68 (res : Bool) (r : PV) : Prop := r = vb res
theorem f68_ok {x0 : Int} : FnR Try.prog 68 [vi x0] (vb (cmp_isNaN_int x0)) := by
  refine fnS (R := RF68) text68 (fun _ h => h) rfl fun res hres => ?_
  unfold cmp_isNaN_int at hres
  refine sR ?_
  refine mB rfl ?_
  refine nR ?_
  refine mV rfl ?_
  refine mV rfl ?_
  refine bN i_neq rfl rfl ?_
  refine mV rfl ?_
  refine nS ?_
  exact rR hres rfl rfl rfl

def RF53 (res : Bool) (r : PV) : Prop := r = vb res
theorem f53_ok {x0 x1 : Int} : FnR Try.prog 53 [vi x0, vi x1] (vb (cmp_Less_int x0 x1)) := by
  refine fnS (R := RF53) text53 (fun _ h => h) rfl fun res hres => ?_
  unfold cmp_Less_int at hres
  refine sR ?_
  refine mB rfl ?_
  refine nR ?_
  refine mV rfl ?_
  obtain ⟨a0, a5, hres⟩ := let_ex hres
  have a6 := f68_ok (x0 := x0)  
  rw [a5] at a6
  refine cL a6 rfl rfl (clL_cons rfl clL_nil) ?_
  refine mV rfl ?_
  refine rd_cutn 4 (d := 11) (v := vb (a0 && (!(cmp_isNaN_int x1)))) ?_ ?_
  · intro S Q r
    cases a4 : a0
    · exact gN 3 rfl rfl rfl rfl rfl rfl
    · intro k
      have a1 := a4
      try simp only [qa, qaD] at a1
      refine rd_yes rfl rfl (ov_move rfl) ?_
      have a7 := f68_ok (x0 := x1)  
      refine rd_ycall rfl rfl (cv_fn rfl rfl (clL_cons rfl clL_nil) a7) ?_
      refine rd_yes rfl rfl (ov_not rfl) ?_
      exact gK rfl rfl rfl rfl rfl k
  refine mV rfl ?_
  refine rd_cutn 4 (d := 16) (v := vb ((a0 && (!(cmp_isNaN_int x1))) || (decide (x0 < x1)))) ?_ ?_
  · intro S Q r
    cases a3 : (a0 && (!(cmp_isNaN_int x1)))
    · intro k
      have a2 := a3
      try simp only [qa, qaD] at a2
      refine rd_yes rfl rfl (ov_move rfl) ?_
      refine rd_yes rfl rfl (ov_move rfl) ?_
      refine rd_yes rfl rfl (ov_bin rfl rfl i_lss) ?_
      exact gK rfl rfl rfl rfl rfl k
    · exact gN 3 rfl rfl rfl rfl rfl rfl
  refine mV rfl ?_
  refine nS ?_
  exact rR hres rfl rfl rfl

def RF54 (res : Bool) (r : PV) : Prop := r = vb res
theorem f54_ok {x0 : Int} : FnR Try.prog 54 [vi x0] (vb (slices_isNaN_int x0)) := by
  refine fnS (R := RF54) text54 (fun _ h => h) rfl fun res hres => ?_
  unfold slices_isNaN_int at hres
  refine sR ?_
  refine mB rfl ?_
  refine nR ?_
  refine mV rfl ?_
  refine mV rfl ?_
  refine bN i_neq rfl rfl ?_
  refine mV rfl ?_
  refine nS ?_
  exact rR hres rfl rfl rfl

def RF47 (res : Int × Bool) (r : PV) : Prop := r = .tup [vi res.1, vb res.2]
theorem slices_BinarySearch__int_int__L1_ok {S : List Fr} {res : Int × Bool} {x0 : List Int} {x1 : Int} {v0 : PV} (r0 : (tSl tI).R x0 v0) (hl : x0.length ≤ 1000000) {K0 : Int → (Int × Bool)}
    (a7 : ∀ {a1 : Int} (b0 : 0 ≤ a1), K0 a1 = res → PX Try.prog 0 S (QR Try.prog [(4, none), (5, none)] (RF47 res)) [(0, v0), (1, vi x1), (6, vi (x0.length : Int)), (7, vi a1)] ⟨0, []⟩) :
    ∀ {m : Nat} {a1 a2 : Int} (a8 : a2 - a1 ≤ (m : Int)) (a0 : 0 ≤ a1) (a4 : a1 ≤ a2) (a3 : a2 ≤ (x0.length : Int)), slices_BinarySearch__int_int__L1 x0 x1 K0 m a1 a2 = res → RC Try.prog (.loop ac47_L1) S (QR Try.prog [(4, none), (5, none)] (RF47 res)) [(8, vi a2), (7, vi a1), (6, vi (x0.length : Int)), (1, vi x1), (0, v0)] ⟨0, []⟩ := by
  intro m
  induction m with
  | zero =>
    intro a1 a2 a8 a0 a4 a3 hres
    rw [slices_BinarySearch__int_int__L1] at hres
    refine rc_loop ?_
    refine rc_seq ?_
    refine sR ?_
    refine mV rfl ?_
    refine mV rfl ?_
    refine bN i_lss rfl rfl ?_
    refine nS ?_
    refine rc_cond rfl ?_ ?_ <;> intro c <;> try simp only [qa, qaD] at c
    · omega
    refine rc_exit ?_
    refine px_seq ?_
    refine px_again ?_
    exact wP (a7 (by omega) hres) rfl
  | succ m ih =>
    intro a1 a2 a8 a0 a4 a3 hres
    rw [slices_BinarySearch__int_int__L1] at hres
    refine rc_loop ?_
    refine rc_seq ?_
    refine sR ?_
    refine mV rfl ?_
    refine mV rfl ?_
    refine bN i_lss rfl rfl ?_
    refine nS ?_
    refine rc_br hres rfl ?_ ?_ <;> clear hres <;> intro c hres <;> try simp only [qa, qaD] at c
    · refine rc_skip ?_
      refine pn_seq ?_
      refine rc_block ?_
      refine sR ?_
      refine mV rfl ?_
      refine mV rfl ?_
      refine bN i_add rfl rfl ?_
      refine rd_op (ov_conv (a := vi (wr (a1 + a2))) rfl (c_id Try.underlying3 Try.underlying58)) ?_
      refine rd_op (v := vu64 ((BitVec.ofInt 64 (wr (a1 + a2))) >>> (1#64).toNat)) (ov_bin (a := vu64 (BitVec.ofInt 64 (wr (a1 + a2)))) (b := vu64 1#64) rfl rfl (d_shr (by decide))) ?_
      refine rd_op (ov_conv (a := vu64 ((BitVec.ofInt 64 (wr (a1 + a2))) >>> (1#64).toNat)) rfl (c_di Try.underlying58 Try.underlying3)) ?_
      refine mV rfl ?_
      refine nR ?_
      refine mV rfl ?_
      refine mV rfl ?_
      refine rd_op (ov_iaddr rfl rfl (slI r0 (by first | omega | (have hk := bmid a0 (show a1 < a2 by omega) (by omega); omega)) (by first | omega | (have hk := bmid a0 (show a1 < a2 by omega) (by omega); omega)))) ?_
      refine lR rfl rfl rfl ?_
      refine mV rfl ?_
      obtain ⟨a9, a6, hres⟩ := let_ex hres
      have a5 := f53_ok (x0 := (ix x0 (wr (((BitVec.ofInt 64 (wr (a1 + a2))) >>> (1#64).toNat).toNat : Int)))) (x1 := x1)  
      rw [a6] at a5
      refine cL a5 rfl rfl (clL_cons rfl (clL_cons rfl clL_nil)) ?_
      refine nS ?_
      refine rc_br hres rfl ?_ ?_ <;> clear hres <;> intro c hres <;> try simp only [qa, qaD] at c
      · refine rc_region ?_
        refine mV rfl ?_
        refine bN i_add rfl rfl ?_
        refine mV rfl ?_
        refine rd_nil ?_
        refine pn_blk ?_
        refine pn_again ?_
        exact wC (ih   (by first | omega | (have hk := bmid a0 (show a1 < a2 by omega) (by omega); omega)) (by first | omega | (have hk := bmid a0 (show a1 < a2 by omega) (by omega); omega)) (by first | omega | (have hk := bmid a0 (show a1 < a2 by omega) (by omega); omega)) (by first | omega | (have hk := bmid a0 (show a1 < a2 by omega) (by omega); omega)) hres) rfl
      · refine rc_region ?_
        refine mV rfl ?_
        refine mV rfl ?_
        refine rd_nil ?_
        refine pn_blk ?_
        refine pn_again ?_
        exact wC (ih   (by first | omega | (have hk := bmid a0 (show a1 < a2 by omega) (by omega); omega)) (by first | omega | (have hk := bmid a0 (show a1 < a2 by omega) (by omega); omega)) (by first | omega | (have hk := bmid a0 (show a1 < a2 by omega) (by omega); omega)) (by first | omega | (have hk := bmid a0 (show a1 < a2 by omega) (by omega); omega)) hres) rfl
    · refine rc_exit ?_
      refine px_seq ?_
      refine px_again ?_
      exact wP (a7 (by omega) hres) rfl

theorem f47_ok {x0 : List Int} {x1 : Int} {v0 : PV} (r0 : (tSl tI).R x0 v0) (hl : x0.length ≤ 1000000) : FnR Try.prog 47 [v0, vi x1] (.tup [vi ((slices_BinarySearch__int_int_ x0 x1).1), vb ((slices_BinarySearch__int_int_ x0 x1).2)]) := by
  refine fnS (R := RF47) text47 (fun _ h => h) rfl fun res hres => ?_
  unfold slices_BinarySearch__int_int_ at hres
  refine sR ?_
  refine mI rfl ?_
  refine mB rfl ?_
  refine nR ?_
  refine mV rfl ?_
  refine rd_op (ov_bi rfl (sl_len r0 Try.underlying31 _)) ?_
  refine mV rfl ?_
  refine nR ?_
  refine mV rfl ?_
  refine mI rfl ?_
  refine mV rfl ?_
  refine nS ?_
  refine rc_seq ?_
  refine rc_block ?_
  refine wC (slices_BinarySearch__int_int__L1_ok r0 hl ?_  (by omega) (by first | omega | (simp; done) | (simp only [List.length_append, List.length_cons, List.length_nil, List.length_set]; omega)) (by first | omega | (simp; done) | (simp only [List.length_append, List.length_cons, List.length_nil, List.length_set]; omega)) (by first | omega | (simp; done) | (simp only [List.length_append, List.length_cons, List.length_nil, List.length_set]; omega)) hres) rfl
  · intro a0 a7 hres
    refine px_blk ?_
    refine pn_seq ?_
    refine sR ?_
    refine mV rfl ?_
    refine mV rfl ?_
    refine mV rfl ?_
    refine bN i_lss rfl rfl ?_
    refine mV rfl ?_
    refine rd_cutn 18 (d := 53) (v := vb ((decide (a0 < (x0.length : Int))) && ((decide ((ix x0 a0) = x1)) || ((slices_isNaN_int (ix x0 a0)) && (slices_isNaN_int x1))))) ?_ ?_
    · intro S Q r
      cases a5 : (decide (a0 < (x0.length : Int)))
      · exact gN 17 rfl rfl rfl rfl rfl rfl
      · intro k
        have a3 := a5
        try simp only [qa, qaD] at a3
        refine rd_yes rfl rfl (ov_move rfl) ?_
        refine rd_yes rfl rfl (ov_move rfl) ?_
        refine rd_yes rfl rfl (ov_iaddr rfl rfl (slI r0 (by first | omega | (have hk := bmid iv1_0 (show x7_ < x8_ by omega) (by omega); omega)) (by first | omega | (have hk := bmid iv1_0 (show x7_ < x8_ by omega) (by omega); omega)))) ?_
        refine rd_yes rfl rfl (ov_load rfl rfl rfl) ?_
        refine rd_yes rfl rfl (ov_move rfl) ?_
        refine rd_yes rfl rfl (ov_bin rfl rfl i_eql) ?_
        refine rd_yes rfl rfl (ov_move rfl) ?_
        refine rd_cutn 10 (d := 52) (v := vb ((decide ((ix x0 a0) = x1)) || ((slices_isNaN_int (ix x0 a0)) && (slices_isNaN_int x1)))) ?_ ?_
        · intro S Q r
          cases a6 : (decide ((ix x0 a0) = x1))
          · intro k
            have a1 := a6
            try simp only [qa, qaD] at a1
            refine rd_yes rfl rfl (ov_move rfl) ?_
            refine rd_yes rfl rfl (ov_move rfl) ?_
            refine rd_yes rfl rfl (ov_iaddr rfl rfl (slI r0 (by first | omega | (have hk := bmid iv1_0 (show x7_ < x8_ by omega) (by omega); omega)) (by first | omega | (have hk := bmid iv1_0 (show x7_ < x8_ by omega) (by omega); omega)))) ?_
            refine rd_yes rfl rfl (ov_load rfl rfl rfl) ?_
            have a8 := f54_ok (x0 := (ix x0 a0))  
            refine rd_ycall rfl rfl (cv_fn rfl rfl (clL_cons rfl clL_nil) a8) ?_
            refine rd_yes rfl rfl (ov_move rfl) ?_
            refine rd_cutn 3 (d := 51) (v := vb ((slices_isNaN_int (ix x0 a0)) && (slices_isNaN_int x1))) ?_ ?_
            · intro S Q r
              cases a4 : (slices_isNaN_int (ix x0 a0))
              · intro k
                refine rd_skip rfl rfl ?_
                refine rd_skip rfl rfl ?_
                refine rd_yes (v := vb false) rfl rfl (ov_pick rfl rfl rfl rfl) ?_
                exact wD k rfl
              · intro k
                have a2 := a4
                try simp only [qa, qaD] at a2
                refine rd_yes rfl rfl (ov_move rfl) ?_
                have a9 := f54_ok (x0 := x1)  
                refine rd_ycall rfl rfl (cv_fn rfl rfl (clL_cons rfl clL_nil) a9) ?_
                refine rd_yes (v := vb (slices_isNaN_int x1)) rfl rfl (ov_pick rfl rfl rfl rfl) ?_
                exact wD k rfl
            refine rd_yes (v := vb ((slices_isNaN_int (ix x0 a0)) && (slices_isNaN_int x1))) rfl rfl (ov_pick rfl rfl rfl rfl) ?_
            exact wD k rfl
          · intro k
            refine rd_skip rfl rfl ?_
            refine rd_skip rfl rfl ?_
            refine rd_skip rfl rfl ?_
            refine rd_skip rfl rfl ?_
            refine rd_skip rfl rfl ?_
            refine rd_skip rfl rfl ?_
            refine rd_skipU rfl ?_
            refine rd_skipU rfl ?_
            refine rd_skip rfl rfl ?_
            refine rd_yes (v := vb true) rfl rfl (ov_pick rfl rfl rfl rfl) ?_
            exact wD k rfl
        exact gK rfl rfl rfl rfl rfl k
    refine mV rfl ?_
    refine mV rfl ?_
    refine nS ?_
    exact rT hres rfl rfl rfl rfl rfl

def RF48 (R_ : List Ent) (res : List Int) (r : PV) (h : Heap) : Prop := RFi R_ res r h
theorem f48_ok {x0 : List Int} {x1 : Int} {x2 : List Int} {a0 a2 : PV} {a1 a3 : List PV} {R_ : List Ent} {h_ : Heap} (q0 : All2 tI.R x0 a1) (a5 : isL a0 = true) (a7 : x0.length ≤ 4611686018427387904) (w0 : Wri a0 a1) (q2 : All2 tI.R x2 a3) (a6 : isL a2 = true) (a8 : x2.length ≤ 4611686018427387904) (w2 : Wri a2 a3) (M : Mem h_ (⟨a0, 3, 1, a1⟩ :: ⟨a2, 3, 1, a3⟩ :: R_)) (hp : x2.length = 1 ∧ 0 ≤ x1 ∧ x1 ≤ x0.length ∧ x0.length < 1000000) : ∃ r a4, FnX Try.prog 48 [a0, vi x1, a2] h_ r a4 ∧ RF48 R_ (slices_Insert__int_int_ x0 x1 x2) r a4 := f48_ins q0 a5 a7 w0 q2 a6 a8 w2 M hp

def RF46 (i1_ w1_ : Nat) (R_ : List Ent) (res : (List Int)) (r : PV) (h : Heap) : Prop := ∃ aF0_0 : PV, ∃ esF0_0 : List PV, Mem h (⟨.op i1_ w1_ 0, 31, 1, [aF0_0]⟩ :: ⟨aF0_0, 3, 1, esF0_0⟩ :: R_) ∧ (All2 tI.R res esF0_0) ∧ (isL aF0_0 = true) ∧ (res.length ≤ 4611686018427387904) ∧ (Wri aF0_0 esF0_0) ∧ r = .tup []
theorem f46_ok {x0 : Int} {c0 : List Int} {a1 : PV} {a2 : List PV} {R_ : List Ent} {h_ : Heap} {b4 b2 : Nat} (a8 : All2 tI.R c0 a2) (a3 : isL a1 = true) (a7 : c0.length ≤ 4611686018427387904) (b8 : Wri a1 a2) (M_ : Mem h_ (⟨.op b4 b2 0, 31, 1, [a1]⟩ :: ⟨a1, 3, 1, a2⟩ :: R_)) (hq : c0.length < 1000) : ∃ r d7, FnX Try.prog 46 [vi x0, .op b4 b2 0] h_ r d7 ∧ RF46 b4 b2 R_ (digraph_order_1 x0 c0) r d7 := by
  refine fnXX (R := RF46 b4 b2 R_) text46 rfl fun res hres => ?_
  unfold digraph_order_1 at hres
  refine sR ?_
  refine rd_op (ov_load0 (k := 0) M_ rfl rfl (mem_one (k := 1) M_ rfl a3).2) ?_
  refine mV rfl ?_
  obtain ⟨e1, d4, d2⟩ := own_sl (P := Try.prog) (k := 1) (t := tI) M_ rfl a3 a8 (Nat.le_trans a7 (by decide))
  obtain ⟨d6, b5, hres⟩ := let_ex hres
  have c6 := f47_ok (x1 := x0) d2 (by first | assumption | omega)
  rw [b5] at c6
  have d8 := bs_use (x0 := c0) (by omega) b5
  refine rd_call (cv_lend rfl rfl (dl_cons d4 (dl_cons (deep_closed rfl) dl_nil)) c6 rfl) ?_
  refine mV rfl ?_
  refine xT rfl rfl ?_
  refine xT rfl rfl ?_
  refine mV rfl ?_
  refine mV rfl ?_
  refine nS ?_
  refine rc_regionS ?_
  refine rs_step ?_
  refine rd_op (ov_load0 (k := 0) M_ rfl rfl (mem_one (k := 1) M_ rfl a3).2) ?_
  refine rs_back ?_
  refine rs_step ?_
  refine mV rfl ?_
  refine rs_back ?_
  refine rs_step ?_
  refine mV rfl ?_
  refine rs_back ?_
  refine rs_step ?_
  refine rd_bslO (vs := [vi x0]) M_ rfl (all_cons rfl all_nil) (fun c4 b9 d1 b6 => ?_)
  have d3 : All2 tI.R ([x0] : List Int) [vi x0] := ⟨rfl, trivial⟩
  have c8 : ([x0] : List Int).length = 1 := rfl
  have d0 : ([x0] : List Int).length ≤ 4611686018427387904 := by rw [c8]; decide
  replace b6 : Mem d1 (⟨.os c4 b9 0 1, 3, 1, [vi x0]⟩ :: ⟨.op b4 b2 0, 31, 1, [a1]⟩ :: ⟨a1, 3, 1, a2⟩ :: R_) := b6
  refine rs_back ?_
  have d5 : Mem d1 (⟨a1, 3, 1, a2⟩ :: ⟨.os c4 b9 0 1, 3, 1, [vi x0]⟩ :: ⟨.op b4 b2 0, 31, 1, [a1]⟩ :: R_) := (Mem.front (k := 2) (Mem.front (k := 0) b6 rfl) rfl)
  obtain ⟨e2, c5, hres⟩ := let_ex hres
  obtain ⟨d9, e0, c9, b3⟩ := f48_ok (x0 := c0) (x1 := d6.1) (x2 := ([x0] : List Int)) a8 a3 a7 b8 d3 rfl d0 (.inr ⟨_, _, _, rfl⟩) d5 (by (refine ⟨rfl, ?_, ?_, ?_⟩ <;> omega))
  rw [c5] at b3
  obtain ⟨a0, a4, c3, b1, a5, b0, a9, a6⟩ := b3
  replace a6 := a6.symm; subst a6
  refine rs_callXc rfl rfl c9 ?_
  refine rs_step ?_
  refine rd_storeO (k := 1) (v := a0) c3 rfl rfl rfl (mem_cnt1 (k := 0) c3 rfl a5) (fun c2 b7 => ?_)
  replace b7 : Mem c2 (⟨a0, 3, 1, a4⟩ :: ⟨.op b4 b2 0, 31, 1, [a0]⟩ :: R_) := b7
  refine rs_back ?_
  refine rs_nil ?_
  have c7 : Mem c2 (⟨.op b4 b2 0, 31, 1, [a0]⟩ :: ⟨a0, 3, 1, a4⟩ :: R_) := (Mem.front (k := 1) (Mem.front (k := 0) b7 rfl) rfl)
  subst hres
  exact pn_endX .nil ⟨a0, a4, Mem.sub c7 (.cons_cons _ (.cons_cons _ (List.Sublist.refl R_))), b1, a5, b0, a9, rfl⟩

def RF49 (R_ : List Ent) (res : List Int) (r : PV) (h : Heap) : Prop := RFi R_ res r h
theorem f49_ok {x0 : List Int} {x1 x2 : Int} {a0 : PV} {a1 : List PV} {R_ : List Ent} {h_ : Heap} (q0 : All2 tI.R x0 a1) (a4 : isL a0 = true) (a3 : x0.length ≤ 4611686018427387904) (w0 : Wri a0 a1) (M : Mem h_ (⟨a0, 3, 1, a1⟩ :: R_)) (hp : x1 = 0 ∧ x2 = 1 ∧ 0 < x0.length) : ∃ r a2, FnX Try.prog 49 [a0, vi x1, vi x2] h_ r a2 ∧ RF49 R_ (slices_Delete__int_int_ x0 x1 x2) r a2 := by
  obtain ⟨rfl, rfl, h0⟩ := hp
  exact f49_del q0 a4 a3 w0 M h0

def RF39 (res : (List Int)) (r : PV) : Prop := (tSl tI).R res r
theorem digraph_order_L2_ok {S : List Fr} {res : (List Int)} {x0 : List (List Int)} {a1 : Int} {a8 : List Int} {v0 b9 : PV} {b0 a9 : Nat} (hg : Gd x0.length x0) (hn : x0.length ≤ 24) (d6 : (List.replicate x0.length (0 : Int)).length = x0.length) (d3 : (List.replicate x0.length (0 : Int)).length ≤ 4611686018427387904) (c9 : a8.length = x0.length) (c6 : a8.length ≤ 4611686018427387904) (d8 : 0 ≤ a1) (d4 : a1 ≤ (x0.length : Int)) (d5 : WB a8 (40 * a1)) (c3 : (decide (a1 < (x0.length : Int))) = true) (c4 : (tSl tI).R (ix x0 a1) b9) {K2 : (List Int) → (List Int)}
    (d9 : ∀ {a0 : List Int} {a3 : List PV} (a4 : All2 tI.R a0 a3) (a5 : a0.length = x0.length) (a6 : a0.length ≤ 4611686018427387904) (e0 : WB a0 (40 * a1 + 40)) {h : Heap} (M0 : Mem h [⟨.os b0 a9 0 x0.length, 3, 1, a3⟩]), K2 a0 = res → PX Try.prog 2 S (QR Try.prog [(2, none)] (RF39 res)) [(0, v0), (3, .os b0 a9 0 x0.length), (19, v0), (20, vi (x0.length : Int)), (21, vi a1)] h) :
    ∀ {m : Nat} {a2 : Int} {a0 : List Int} {a3 : List PV} (a4 : All2 tI.R a0 a3) (a5 : a0.length = x0.length) (a6 : a0.length ≤ 4611686018427387904) (d2 : m = Int.toNat (((ix x0 a1).length : Int) - a2)) (c2 : 0 ≤ a2) (b1 : a2 ≤ ((ix x0 a1).length : Int)) (b2 : WB a0 (40 * a1 + a2)) {h : Heap} (M0 : Mem h [⟨.os b0 a9 0 x0.length, 3, 1, a3⟩]), digraph_order_L2 x0 a1 K2 m a2 a0 = res → RC Try.prog (.loop ac39_L2) S (QR Try.prog [(2, none)] (RF39 res)) [(27, vi a2), (26, vi ((ix x0 a1).length : Int)), (25, b9), (21, vi a1), (20, vi (x0.length : Int)), (19, v0), (3, .os b0 a9 0 x0.length), (0, v0)] h := by
  have b6 := c3
  try simp only [qa, qaD] at b6
  intro m
  induction m with
  | zero =>
    intro a2 a0 a3 a4 a5 a6 d2 c2 b1 b2 h M0 hres
    rw [digraph_order_L2] at hres
    refine rc_loop ?_
    refine sR ?_
    refine bN i_lss rfl rfl ?_
    refine nS ?_
    refine rc_seq ?_
    refine rc_cond rfl ?_ ?_ <;> intro c <;> try simp only [qa, qaD] at c
    · omega
    refine rc_exit ?_
    refine px_seq ?_
    refine px_again ?_
    exact wP (d9 a4 a5 a6 (by (have hr := hg.r a1 (by omega) (by omega); exact WB.mono (by assumption) (by omega))) (Mem.sub M0 (.cons_cons _ .slnil)) hres) rfl
  | succ m ih =>
    intro a2 a0 a3 a4 a5 a6 d2 c2 b1 b2 h M0 hres
    rw [digraph_order_L2] at hres
    refine rc_loop ?_
    refine sR ?_
    refine bN i_lss rfl rfl ?_
    refine nS ?_
    refine rc_seq ?_
    refine rc_cond rfl ?_ ?_ <;> intro c <;> try simp only [qa, qaD] at c
    rotate_left
    · omega
    refine rc_skip ?_
    refine pn_seq ?_
    refine rc_seq ?_
    refine rc_block ?_
    refine sR ?_
    refine rd_op (ov_iaddr rfl rfl (slI c4 (by first | omega | first | (have hk := hg.at (k := a1) (i := a2) (by omega) (by omega) (by omega) (by omega); omega) | (have hk := hg.at (k := ix zE117 (0 : Int)) (i := x70_) (by omega) (by omega) (by omega) (by omega); omega)) (by first | omega | first | (have hk := hg.at (k := a1) (i := a2) (by omega) (by omega) (by omega) (by omega); omega) | (have hk := hg.at (k := ix zE117 (0 : Int)) (i := x70_) (by omega) (by omega) (by omega) (by omega); omega)))) ?_
    refine lR rfl rfl rfl ?_
    refine mV rfl ?_
    refine nS ?_
    refine rc_region ?_
    refine mV rfl ?_
    refine mV rfl ?_
    have a7 : 0 ≤ (ix (ix x0 a1) a2) := (by first | omega | first | (have hk := hg.at (k := a1) (i := a2) (by omega) (by omega) (by omega) (by omega); omega) | (have hk := hg.at (k := ix zE117 (0 : Int)) (i := x70_) (by omega) (by omega) (by omega) (by omega); omega))
    have b5 : (ix (ix x0 a1) a2) < (a0.length : Int) := (by first | omega | first | (have hk := hg.at (k := a1) (i := a2) (by omega) (by omega) (by omega) (by omega); omega) | (have hk := hg.at (k := ix zE117 (0 : Int)) (i := x70_) (by omega) (by omega) (by omega) (by omega); omega))
    refine rd_op (ov_iaddr rfl rfl (n_idx 1 a7 (by omega))) ?_
    obtain ⟨c5, d0, b3⟩ := elem_at (i := (ix (ix x0 a1) a2)) a4 a7 b5
    have b3 : c5 = vi (ix a0 (ix (ix x0 a1) a2)) := b3; subst b3
    refine rd_op (ov_elem (k := 0) M0 rfl rfl d0 rfl) ?_
    refine bN i_add rfl rfl ?_
    have b4 : 0 ≤ (ix (ix x0 a1) a2) := (by first | omega | first | (have hk := hg.at (k := a1) (i := a2) (by omega) (by omega) (by omega) (by omega); omega) | (have hk := hg.at (k := ix zE117 (0 : Int)) (i := x70_) (by omega) (by omega) (by omega) (by omega); omega))
    have d1 : (ix (ix x0 a1) a2) < (a0.length : Int) := (by first | omega | first | (have hk := hg.at (k := a1) (i := a2) (by omega) (by omega) (by omega) (by omega); omega) | (have hk := hg.at (k := ix zE117 (0 : Int)) (i := x70_) (by omega) (by omega) (by omega) (by omega); omega))
    refine rd_op (ov_iaddr rfl rfl (n_idx 1 b4 (by omega))) ?_
    refine rd_setO (k := 0) (v := vi (wr ((ix a0 (ix (ix x0 a1) a2)) + 1))) M0 rfl rfl rfl (by rw [All2.length_eq a4]; omega) rfl (fun d7 c7 => ?_)
    have c8 := All2.set (i := ((ix (ix x0 a1) a2)).toNat) a4 (show tI.R (wr ((ix a0 (ix (ix x0 a1) a2)) + 1)) (vi (wr ((ix a0 (ix (ix x0 a1) a2)) + 1))) from rfl)
    have b7 : (a0.set ((ix (ix x0 a1) a2)).toNat (wr ((ix a0 (ix (ix x0 a1) a2)) + 1))).length ≤ 4611686018427387904 := by simp only [List.length_set]; exact a6
    have b8 : (a0.set ((ix (ix x0 a1) a2)).toNat (wr ((ix a0 (ix (ix x0 a1) a2)) + 1))).length = x0.length := by simp only [List.length_set]; exact a5
    refine rd_nil ?_
    refine pn_blk ?_
    refine pn_seq ?_
    refine rc_region ?_
    refine bN i_add rfl rfl ?_
    refine mV rfl ?_
    refine rd_nil ?_
    refine pn_again ?_
    have hbd := sl_bound c4
    have hinc : wr (a2 + 1) = a2 + 1 := wr_of (by omega) (by omega)
    erw [hinc]
    exact wC (ih  c8 b8 b7 (by omega) (by omega) (by first | omega | (have hk := hg.at (k := a1) (i := a2) (by omega) (by omega) (by omega) (by omega); have hr := hg.r a1 (by omega) (by omega); exact WB.mono (WB.inc (by assumption) (by omega) (by omega) (by omega)) (by omega))) (by first | omega | (have hk := hg.at (k := a1) (i := a2) (by omega) (by omega) (by omega) (by omega); have hr := hg.r a1 (by omega) (by omega); exact WB.mono (WB.inc (by assumption) (by omega) (by omega) (by omega)) (by omega))) (Mem.sub c7 (.cons_cons _ .slnil)) hres) rfl

theorem digraph_order_L1_ok {S : List Fr} {res : (List Int)} {x0 : List (List Int)} {v0 : PV} {b3 b2 : Nat} (r0 : (tSl (tSl tI)).R x0 v0) (hg : Gd x0.length x0) (hn : x0.length ≤ 24) (c2 : (List.replicate x0.length (0 : Int)).length = x0.length) (b9 : (List.replicate x0.length (0 : Int)).length ≤ 4611686018427387904) {K0 : (List Int) → (List Int)}
    (c8 : ∀ {a0 : List Int} {a1 : List PV} (a5 : All2 tI.R a0 a1) (a4 : a0.length = x0.length) (a3 : a0.length ≤ 4611686018427387904) (d0 : WB a0 960) {h : Heap} (M0 : Mem h [⟨.os b3 b2 0 x0.length, 3, 1, a1⟩]), K0 a0 = res → PX Try.prog 0 S (QR Try.prog [(2, none)] (RF39 res)) [(0, v0), (3, .os b3 b2 0 x0.length)] h) :
    ∀ {m : Nat} {a2 : Int} {a0 : List Int} {a1 : List PV} (a5 : All2 tI.R a0 a1) (a4 : a0.length = x0.length) (a3 : a0.length ≤ 4611686018427387904) (c6 : m = Int.toNat ((x0.length : Int) - a2)) (b5 : 0 ≤ a2) (b0 : a2 ≤ (x0.length : Int)) (b1 : WB a0 (40 * a2)) {h : Heap} (M0 : Mem h [⟨.os b3 b2 0 x0.length, 3, 1, a1⟩]), digraph_order_L1 x0 K0 m a2 a0 = res → RC Try.prog (.loop ac39_L1) S (QR Try.prog [(2, none)] (RF39 res)) [(21, vi a2), (20, vi (x0.length : Int)), (19, v0), (3, .os b3 b2 0 x0.length), (0, v0)] h := by
  intro m
  induction m with
  | zero =>
    intro a2 a0 a1 a5 a4 a3 c6 b5 b0 b1 h M0 hres
    rw [digraph_order_L1] at hres
    refine rc_loop ?_
    refine sR ?_
    refine bN i_lss rfl rfl ?_
    refine nS ?_
    refine rc_seq ?_
    refine rc_cond rfl ?_ ?_ <;> intro c <;> try simp only [qa, qaD] at c
    · omega
    refine rc_exit ?_
    refine px_seq ?_
    refine px_again ?_
    exact wP (c8 a5 a4 a3 (by exact WB.mono (by assumption) (by omega)) (Mem.sub M0 (.cons_cons _ .slnil)) hres) rfl
  | succ m ih =>
    intro a2 a0 a1 a5 a4 a3 c6 b5 b0 b1 h M0 hres
    rw [digraph_order_L1] at hres
    refine rc_loop ?_
    refine sR ?_
    refine bN i_lss rfl rfl ?_
    refine nS ?_
    refine rc_seq ?_
    refine rc_cond rfl (fun a6 => ?_) (fun a6 => ?_)
    · have hgo := hres
      have b6 := a6
      try simp only [qa, qaD] at b6
      refine rc_skip ?_
      refine pn_seq ?_
      refine rc_seq ?_
      refine rc_block ?_
      refine sR ?_
      obtain ⟨c9, c4, b7⟩ := sl_idx (i := a2) r0 (by first | omega | first | (have hk := hg.at (k := a2) (i := x27_) (by omega) (by omega) (by omega) (by omega); omega) | (have hk := hg.at (k := ix zE117 (0 : Int)) (i := x70_) (by omega) (by omega) (by omega) (by omega); omega)) (by first | omega | first | (have hk := hg.at (k := a2) (i := x27_) (by omega) (by omega) (by omega) (by omega); omega) | (have hk := hg.at (k := ix zE117 (0 : Int)) (i := x70_) (by omega) (by omega) (by omega) (by omega); omega))
      refine rd_op (ov_iaddr rfl rfl c4) ?_
      refine lD b7 rfl rfl rfl ?_
      refine mV rfl ?_
      refine nR ?_
      refine mV rfl ?_
      refine rd_op (ov_bi rfl (sl_len b7 Try.underlying31 _)) ?_
      refine mI rfl ?_
      refine nS ?_
      refine rc_block ?_
      refine wC (digraph_order_L2_ok hg hn c2 b9 a4 a3 b5 b0 b1 a6 b7 ?_  a5 a4 a3 rfl (by omega) (by first | omega | exact WB.mono (by assumption) (by omega)) (by first | omega | exact WB.mono (by assumption) (by omega)) (Mem.sub M0 (.cons_cons _ .slnil)) hres) rfl
      · intro b4 b8 a9 a7 a8 c3 c7 c5 hres
        refine px_blk ?_
        refine pn_blk ?_
        refine pn_seq ?_
        refine rc_region ?_
        refine bN i_add rfl rfl ?_
        refine mV rfl ?_
        refine rd_nil ?_
        refine pn_again ?_
        have hbd := sl_bound r0
        have hinc : wr (a2 + 1) = a2 + 1 := wr_of (by omega) (by omega)
        erw [hinc]
        exact wC (ih  a9 a7 a8 (by omega) (by omega) (by first | omega | exact WB.mono (by assumption) (by omega)) (by first | omega | exact WB.mono (by assumption) (by omega)) (Mem.sub c5 (.cons_cons _ .slnil)) hres) rfl
    · exfalso
      try simp only [qa, qaD] at a6
      omega

theorem digraph_order_L3_ok {S : List Fr} {res : (List Int)} {x0 : List (List Int)} {a0 : List Int} {v0 : PV} {a4 : List PV} {b5 b4 b3 b2 : Nat} (hg : Gd x0.length x0) (hn : x0.length ≤ 24) (e4 : (List.replicate x0.length (0 : Int)).length = x0.length) (e2 : (List.replicate x0.length (0 : Int)).length ≤ 4611686018427387904) (c4 : All2 tI.R a0 a4) (d0 : a0.length = x0.length) (d1 : a0.length ≤ 4611686018427387904) (d6 : WB a0 960) {K4 : (List Int) → (List Int)}
    (e7 : ∀ {a1 : List Int} {a2 : List PV} {a3 : PV} (b0 : All2 tI.R a1 a2) (a9 : isL a3 = true) (a8 : Wri a3 a2) (a7 : a1.length ≤ 4611686018427387904) (e8 : OJ a0 (x0.length : Int) a1) {h : Heap} (M0 : Mem h [⟨a3, 3, 1, a2⟩, ⟨.op b3 b2 0, 31, 1, [a3]⟩, ⟨.os b5 b4 0 x0.length, 3, 1, a4⟩]), K4 a1 = res → PX Try.prog 4 S (QR Try.prog [(2, none)] (RF39 res)) [(0, v0), (3, .os b5 b4 0 x0.length), (8, .op b3 b2 0), (9, nilS), (10, .fn (.func 46) [] [.op b3 b2 0])] h) :
    ∀ {m : Nat} {a6 : Int} {a1 : List Int} {a2 : List PV} {a3 : PV} (b0 : All2 tI.R a1 a2) (a9 : isL a3 = true) (a8 : Wri a3 a2) (a7 : a1.length ≤ 4611686018427387904) (e5 : m = Int.toNat ((a0.length : Int) - a6)) (d5 : 0 ≤ a6) (a5 : OJ a0 a6 a1) (c7 : a6 ≤ (x0.length : Int)) {h : Heap} (M0 : Mem h [⟨a3, 3, 1, a2⟩, ⟨.op b3 b2 0, 31, 1, [a3]⟩, ⟨.os b5 b4 0 x0.length, 3, 1, a4⟩]), digraph_order_L3 a0 K4 m a6 a1 = res → RC Try.prog (.loop ac39_L3) S (QR Try.prog [(2, none)] (RF39 res)) [(42, vi a6), (41, vi (a0.length : Int)), (40, .os b5 b4 0 x0.length), (10, .fn (.func 46) [] [.op b3 b2 0]), (9, nilS), (8, .op b3 b2 0), (3, .os b5 b4 0 x0.length), (0, v0)] h := by
  intro m
  induction m with
  | zero =>
    intro a6 a1 a2 a3 b0 a9 a8 a7 e5 d5 a5 c7 h M0 hres
    rw [digraph_order_L3] at hres
    refine rc_loop ?_
    refine sR ?_
    refine bN i_lss rfl rfl ?_
    refine nS ?_
    refine rc_seq ?_
    refine rc_cond rfl ?_ ?_ <;> intro c <;> try simp only [qa, qaD] at c
    · omega
    refine rc_exit ?_
    refine px_seq ?_
    refine px_again ?_
    exact wP (e7 b0 a9 a8 a7 (by (have e : (x0.length : Int) = a6 := by omega); rw [e]; exact a5) (Mem.sub M0 (.cons_cons _ (.cons_cons _ (.cons_cons _ .slnil)))) hres) rfl
  | succ m ih =>
    intro a6 a1 a2 a3 b0 a9 a8 a7 e5 d5 a5 c7 h M0 hres
    rw [digraph_order_L3] at hres
    refine rc_loop ?_
    refine sR ?_
    refine bN i_lss rfl rfl ?_
    refine nS ?_
    refine rc_seq ?_
    refine rc_cond rfl ?_ ?_ <;> intro c <;> try simp only [qa, qaD] at c
    rotate_left
    · omega
    refine rc_skip ?_
    refine pn_seq ?_
    refine rc_seq ?_
    refine rc_block ?_
    refine sR ?_
    refine mV rfl ?_
    have c5 : 0 ≤ a6 := (by first | omega | first | (have hk := hg.at (k := x21_) (i := x27_) (by omega) (by omega) (by omega) (by omega); omega) | (have hk := hg.at (k := ix a1 (0 : Int)) (i := x70_) (by omega) (by omega) (by omega) (by omega); omega))
    have c8 : a6 < (a0.length : Int) := (by first | omega | first | (have hk := hg.at (k := x21_) (i := x27_) (by omega) (by omega) (by omega) (by omega); omega) | (have hk := hg.at (k := ix a1 (0 : Int)) (i := x70_) (by omega) (by omega) (by omega) (by omega); omega))
    refine rd_op (ov_iaddr rfl rfl (n_idx 1 c5 (by omega))) ?_
    obtain ⟨d7, d8, c9⟩ := elem_at (i := a6) c4 c5 c8
    have c9 : d7 = vi (ix a0 a6) := c9; subst c9
    refine rd_op (ov_elem (k := 2) M0 rfl rfl d8 rfl) ?_
    refine mV rfl ?_
    refine mV rfl ?_
    refine nR ?_
    refine mV rfl ?_
    refine bN i_eql rfl rfl ?_
    refine nS ?_
    refine rc_br hres rfl ?_ ?_ <;> clear hres <;> intro c hres <;> try simp only [qa, qaD] at c
    · refine rc_regionS ?_
      refine rs_step ?_
      refine mV rfl ?_
      refine rs_back ?_
      refine rs_step ?_
      refine mV rfl ?_
      refine rs_back ?_
      have d9 : Mem h [⟨.op b3 b2 0, 31, 1, [a3]⟩, ⟨a3, 3, 1, a2⟩, ⟨.os b5 b4 0 x0.length, 3, 1, a4⟩] := (Mem.front (k := 1) (Mem.front (k := 0) M0 rfl) rfl)
      obtain ⟨e6, d4, hres⟩ := let_ex hres
      obtain ⟨e3, e0, d3, c6⟩ := f46_ok (x0 := a6) (c0 := a1) b0 a9 a7 a8 d9 (by first | (have hk := OJ.len a5 (by omega); omega) | (have hk := OI.len iv5_1; omega))
      rw [d4] at c6
      obtain ⟨b1, c2, e1, b8, b9, b6, b7, c3⟩ := c6
      replace c3 := c3.symm; subst c3
      refine rs_callXc rfl rfl d3 ?_
      refine rs_nil ?_
      refine pn_blk ?_
      refine pn_seq ?_
      refine rc_region ?_
      refine bN i_add rfl rfl ?_
      refine mV rfl ?_
      refine rd_nil ?_
      have d2 : Mem e0 [⟨b1, 3, 1, c2⟩, ⟨.op b3 b2 0, 31, 1, [b1]⟩, ⟨.os b5 b4 0 x0.length, 3, 1, a4⟩] := (Mem.front (k := 2) (Mem.front (k := 1) (Mem.front (k := 2) e1 rfl) rfl) rfl)
      refine pn_again ?_
      have hinc : wr (a6 + 1) = a6 + 1 := wr_of (by omega) (by omega)
      erw [hinc]
      exact wC (ih  b8 b9 b7 b6 (by omega) (by omega) (by first | omega | exact OJ.add a5 (by omega) (by assumption) (by assumption) | exact OJ.next a5) (by first | omega | exact OJ.add a5 (by omega) (by assumption) (by assumption) | exact OJ.next a5) (Mem.sub d2 (.cons_cons _ (.cons_cons _ (.cons_cons _ .slnil)))) hres) rfl
    · refine rc_skip ?_
      refine pn_blk ?_
      refine pn_seq ?_
      refine rc_region ?_
      refine bN i_add rfl rfl ?_
      refine mV rfl ?_
      refine rd_nil ?_
      refine pn_again ?_
      have hinc : wr (a6 + 1) = a6 + 1 := wr_of (by omega) (by omega)
      erw [hinc]
      exact wC (ih  b0 a9 a8 a7 (by omega) (by omega) (by first | omega | exact OJ.add a5 (by omega) (by assumption) (by assumption) | exact OJ.next a5) (by first | omega | exact OJ.add a5 (by omega) (by assumption) (by assumption) | exact OJ.next a5) (Mem.sub M0 (.cons_cons _ (.cons_cons _ (.cons_cons _ .slnil)))) hres) rfl

theorem digraph_order_L5_ok {S : List Fr} {res : (List Int)} {x0 : List (List Int)} {b4 b7 b5 a0 c7 : List Int} {f1 : (List Int)} {v0 : PV} {d6 : List PV} {c4 : PV} {b6 : List PV} {e2 : PV} {f0 : List PV} {e3 c6 : PV} {e1 b8 : List PV} {c2 g4 : PV} {d5 d3 c5 b9 h7 : Nat} (hg : Gd x0.length x0) (hn : x0.length ≤ 24) (j9 : (List.replicate x0.length (0 : Int)).length = x0.length) (j5 : (List.replicate x0.length (0 : Int)).length ≤ 4611686018427387904) (g1 : b4.length = x0.length) (g0 : b4.length ≤ 4611686018427387904) (h0 : WB b4 960) (g3 : isL c4 = true) (f9 : Wri c4 d6) (g2 : b7.length ≤ 4611686018427387904) (h1 : OJ b4 (x0.length : Int) b7) (j6 : isL e2 = true) (i2 : Wri e2 b6) (i9 : b5.length ≤ 4611686018427387904) (j8 : isL e3 = true) (h9 : Wri e3 f0) (h5 : a0.length ≤ 4611686018427387904) (i0 : c7.length = x0.length) (i5 : c7.length ≤ 4611686018427387904) (c8 : OI x0.length c7 a0 b5 (960 + 40 * b5.length)) (g7 : (decide (0 < (a0.length : Int))) = true) (k6 : a0.length = h7) (j1 : 0 ≤ (0 : Int)) (i4 : 0 < (a0.length : Int)) (k4 : slices_Delete__int_int_ a0 0 1 = f1) (h4 : isL c6 = true) (h2 : f1.length ≤ 4611686018427387904) (h3 : Wri c6 e1) (k5 : 0 ≤ ix a0 (0 : Int) ∧ ix a0 (0 : Int) < x0.length) (j4 : OI x0.length c7 f1 (b5 ++ [ix a0 (0 : Int)]) (960 + 40 * b5.length)) (k3 : All2 tI.R ([(ix a0 (0 : Int))] : List Int) b8) (j7 : Wri c2 (b6 ++ b8)) (j3 : (b5 ++ ([(ix a0 (0 : Int))] : List Int)).length ≤ 4611686018427387904) (k9 : isL c2 = true) (e9 : (tSl tI).R (ix x0 (ix a0 (0 : Int))) g4) {K8 : (List Int) → (List Int) → (List Int)}
    (k8 : ∀ {a5 a1 : List Int} {a4 : List PV} {a3 : PV} {a6 : List PV} (b2 : All2 tI.R a5 a4) (b3 : isL a3 = true) (a8 : Wri a3 a4) (a7 : a5.length ≤ 4611686018427387904) (a9 : All2 tI.R a1 a6) (b0 : a1.length = x0.length) (b1 : a1.length ≤ 4611686018427387904) (l1 : OI x0.length a1 a5 (b5 ++ [ix a0 (0 : Int)]) (1000 + 40 * b5.length)) {h : Heap} (M0 : Mem h [⟨a3, 3, 1, a4⟩, ⟨c2, 3, 1, (b6 ++ b8)⟩, ⟨.op c5 b9 0, 31, 1, [a3]⟩, ⟨.os d5 d3 0 x0.length, 3, 1, a6⟩]), K8 a5 a1 = res → PX Try.prog 8 S (QR Try.prog [(2, none)] (RF39 res)) [(0, v0), (3, .os d5 d3 0 x0.length), (8, .op c5 b9 0), (9, c2), (10, .fn (.func 46) [] [.op c5 b9 0])] h) :
    ∀ {m : Nat} {a2 : Int} {a5 a1 : List Int} {a4 : List PV} {a3 : PV} {a6 : List PV} (b2 : All2 tI.R a5 a4) (b3 : isL a3 = true) (a8 : Wri a3 a4) (a7 : a5.length ≤ 4611686018427387904) (a9 : All2 tI.R a1 a6) (b0 : a1.length = x0.length) (b1 : a1.length ≤ 4611686018427387904) (k7 : m = Int.toNat (((ix x0 (ix a0 (0 : Int))).length : Int) - a2)) (g5 : 0 ≤ a2) (e7 : a2 ≤ ((ix x0 (ix a0 (0 : Int))).length : Int)) (d9 : OI x0.length a1 a5 (b5 ++ [ix a0 (0 : Int)]) (960 + 40 * b5.length + a2)) {h : Heap} (M0 : Mem h [⟨a3, 3, 1, a4⟩, ⟨c2, 3, 1, (b6 ++ b8)⟩, ⟨.op c5 b9 0, 31, 1, [a3]⟩, ⟨.os d5 d3 0 x0.length, 3, 1, a6⟩]), digraph_order_L5 x0 a0 K8 m a2 a5 a1 = res → RC Try.prog (.loop ac39_L5) S (QR Try.prog [(2, none)] (RF39 res)) [(70, vi a2), (69, vi ((ix x0 (ix a0 (0 : Int))).length : Int)), (68, g4), (10, .fn (.func 46) [] [.op c5 b9 0]), (9, c2), (8, .op c5 b9 0), (3, .os d5 d3 0 x0.length), (0, v0)] h := by
  have f2 := g7
  try simp only [qa, qaD] at f2
  intro m
  induction m with
  | zero =>
    intro a2 a5 a1 a4 a3 a6 b2 b3 a8 a7 a9 b0 b1 k7 g5 e7 d9 h M0 hres
    rw [digraph_order_L5] at hres
    refine rc_loop ?_
    refine sR ?_
    refine bN i_lss rfl rfl ?_
    refine nS ?_
    refine rc_seq ?_
    refine rc_cond rfl ?_ ?_ <;> intro c <;> try simp only [qa, qaD] at c
    · omega
    refine rc_exit ?_
    refine px_seq ?_
    refine px_again ?_
    exact wP (k8 b2 b3 a8 a7 a9 b0 b1 (by (have hr := hg.r (ix a0 (0 : Int)) (by omega) (by omega); exact OI.mono (by assumption) (by omega))) (Mem.sub M0 (.cons_cons _ (.cons_cons _ (.cons_cons _ (.cons_cons _ .slnil))))) hres) rfl
  | succ m ih =>
    intro a2 a5 a1 a4 a3 a6 b2 b3 a8 a7 a9 b0 b1 k7 g5 e7 d9 h M0 hres
    rw [digraph_order_L5] at hres
    refine rc_loop ?_
    refine sR ?_
    refine bN i_lss rfl rfl ?_
    refine nS ?_
    refine rc_seq ?_
    refine rc_cond rfl ?_ ?_ <;> intro c <;> try simp only [qa, qaD] at c
    rotate_left
    · omega
    refine rc_skip ?_
    refine pn_seq ?_
    refine rc_seq ?_
    refine rc_block ?_
    refine sR ?_
    refine rd_op (ov_iaddr rfl rfl (slI e9 (by first | omega | first | (have hk := hg.at (k := x21_) (i := x27_) (by omega) (by omega) (by omega) (by omega); omega) | (have hk := hg.at (k := ix a0 (0 : Int)) (i := a2) (by omega) (by omega) (by omega) (by omega); omega)) (by first | omega | first | (have hk := hg.at (k := x21_) (i := x27_) (by omega) (by omega) (by omega) (by omega); omega) | (have hk := hg.at (k := ix a0 (0 : Int)) (i := a2) (by omega) (by omega) (by omega) (by omega); omega)))) ?_
    refine lR rfl rfl rfl ?_
    refine mV rfl ?_
    refine nR ?_
    refine mV rfl ?_
    refine mV rfl ?_
    have e0 : 0 ≤ (ix (ix x0 (ix a0 (0 : Int))) a2) := (by first | omega | first | (have hk := hg.at (k := x21_) (i := x27_) (by omega) (by omega) (by omega) (by omega); omega) | (have hk := hg.at (k := ix a0 (0 : Int)) (i := a2) (by omega) (by omega) (by omega) (by omega); omega))
    have f6 : (ix (ix x0 (ix a0 (0 : Int))) a2) < (a1.length : Int) := (by first | omega | first | (have hk := hg.at (k := x21_) (i := x27_) (by omega) (by omega) (by omega) (by omega); omega) | (have hk := hg.at (k := ix a0 (0 : Int)) (i := a2) (by omega) (by omega) (by omega) (by omega); omega))
    refine rd_op (ov_iaddr rfl rfl (n_idx 1 e0 (by omega))) ?_
    obtain ⟨j0, h6, f8⟩ := elem_at (i := (ix (ix x0 (ix a0 (0 : Int))) a2)) a9 e0 f6
    have f8 : j0 = vi (ix a1 (ix (ix x0 (ix a0 (0 : Int))) a2)) := f8; subst f8
    refine rd_op (ov_elem (k := 3) M0 rfl rfl h6 rfl) ?_
    refine bN i_sub rfl rfl ?_
    have f7 : 0 ≤ (ix (ix x0 (ix a0 (0 : Int))) a2) := (by first | omega | first | (have hk := hg.at (k := x21_) (i := x27_) (by omega) (by omega) (by omega) (by omega); omega) | (have hk := hg.at (k := ix a0 (0 : Int)) (i := a2) (by omega) (by omega) (by omega) (by omega); omega))
    have i8 : (ix (ix x0 (ix a0 (0 : Int))) a2) < (a1.length : Int) := (by first | omega | first | (have hk := hg.at (k := x21_) (i := x27_) (by omega) (by omega) (by omega) (by omega); omega) | (have hk := hg.at (k := ix a0 (0 : Int)) (i := a2) (by omega) (by omega) (by omega) (by omega); omega))
    refine rd_op (ov_iaddr rfl rfl (n_idx 1 f7 (by omega))) ?_
    refine rd_setO (k := 3) (v := vi (wr ((ix a1 (ix (ix x0 (ix a0 (0 : Int))) a2)) - 1))) M0 rfl rfl rfl (by rw [All2.length_eq a9]; omega) rfl (fun i3 e8 => ?_)
    have f4 := All2.set (i := ((ix (ix x0 (ix a0 (0 : Int))) a2)).toNat) a9 (show tI.R (wr ((ix a1 (ix (ix x0 (ix a0 (0 : Int))) a2)) - 1)) (vi (wr ((ix a1 (ix (ix x0 (ix a0 (0 : Int))) a2)) - 1))) from rfl)
    have e6 : (a1.set ((ix (ix x0 (ix a0 (0 : Int))) a2)).toNat (wr ((ix a1 (ix (ix x0 (ix a0 (0 : Int))) a2)) - 1))).length ≤ 4611686018427387904 := by simp only [List.length_set]; exact b1
    have e5 : (a1.set ((ix (ix x0 (ix a0 (0 : Int))) a2)).toNat (wr ((ix a1 (ix (ix x0 (ix a0 (0 : Int))) a2)) - 1))).length = x0.length := by simp only [List.length_set]; exact b0
    refine nR ?_
    refine mV rfl ?_
    refine mV rfl ?_
    have d7 : 0 ≤ (ix (ix x0 (ix a0 (0 : Int))) a2) := (by first | omega | first | (have hk := hg.at (k := x21_) (i := x27_) (by omega) (by omega) (by omega) (by omega); omega) | (have hk := hg.at (k := ix a0 (0 : Int)) (i := a2) (by omega) (by omega) (by omega) (by omega); omega))
    have f5 : (ix (ix x0 (ix a0 (0 : Int))) a2) < ((a1.set ((ix (ix x0 (ix a0 (0 : Int))) a2)).toNat (wr ((ix a1 (ix (ix x0 (ix a0 (0 : Int))) a2)) - 1))).length : Int) := (by first | omega | first | (have hk := hg.at (k := x21_) (i := x27_) (by omega) (by omega) (by omega) (by omega); omega) | (have hk := hg.at (k := ix a0 (0 : Int)) (i := a2) (by omega) (by omega) (by omega) (by omega); omega))
    refine rd_op (ov_iaddr rfl rfl (n_idx 1 d7 (by omega))) ?_
    obtain ⟨j2, i7, f3⟩ := elem_at (i := (ix (ix x0 (ix a0 (0 : Int))) a2)) f4 d7 f5
    have f3 : j2 = vi (ix (a1.set ((ix (ix x0 (ix a0 (0 : Int))) a2)).toNat (wr ((ix a1 (ix (ix x0 (ix a0 (0 : Int))) a2)) - 1))) (ix (ix x0 (ix a0 (0 : Int))) a2)) := f3; subst f3
    refine rd_op (ov_elem (k := 3) e8 rfl rfl i7 rfl) ?_
    refine bN i_eql rfl rfl ?_
    refine nS ?_
    refine rc_br hres rfl ?_ ?_ <;> clear hres <;> intro c hres <;> try simp only [qa, qaD] at c
    · refine rc_regionS ?_
      refine rs_step ?_
      refine mV rfl ?_
      refine rs_back ?_
      refine rs_step ?_
      refine mV rfl ?_
      refine rs_back ?_
      have i1 : Mem i3 [⟨.op c5 b9 0, 31, 1, [a3]⟩, ⟨a3, 3, 1, a4⟩, ⟨c2, 3, 1, (b6 ++ b8)⟩, ⟨.os d5 d3 0 x0.length, 3, 1, (a6.set ((ix (ix x0 (ix a0 (0 : Int))) a2)).toNat (vi (wr ((ix a1 (ix (ix x0 (ix a0 (0 : Int))) a2)) - 1))))⟩] := (Mem.front (k := 2) (Mem.front (k := 0) e8 rfl) rfl)
      obtain ⟨l0, g6, hres⟩ := let_ex hres
      obtain ⟨k0, i6, g8, e4⟩ := f46_ok (x0 := (ix (ix x0 (ix a0 (0 : Int))) a2)) (c0 := a5) b2 b3 a7 a8 i1 (by first | (have hk := OJ.len iv3_0 (by omega); omega) | (have hk := OI.len d9; omega))
      rw [g6] at e4
      obtain ⟨c3, d2, h8, d0, d4, c9, d1, d8⟩ := e4
      replace d8 := d8.symm; subst d8
      refine rs_callXc rfl rfl g8 ?_
      refine rs_nil ?_
      refine pn_blk ?_
      refine pn_seq ?_
      refine rc_region ?_
      refine bN i_add rfl rfl ?_
      refine mV rfl ?_
      refine rd_nil ?_
      have g9 : Mem i6 [⟨c3, 3, 1, d2⟩, ⟨c2, 3, 1, (b6 ++ b8)⟩, ⟨.op c5 b9 0, 31, 1, [c3]⟩, ⟨.os d5 d3 0 x0.length, 3, 1, (a6.set ((ix (ix x0 (ix a0 (0 : Int))) a2)).toNat (vi (wr ((ix a1 (ix (ix x0 (ix a0 (0 : Int))) a2)) - 1))))⟩] := (Mem.front (k := 3) (Mem.front (k := 3) (Mem.front (k := 1) (Mem.front (k := 3) h8 rfl) rfl) rfl) rfl)
      refine pn_again ?_
      have hbd := sl_bound e9
      have hinc : wr (a2 + 1) = a2 + 1 := wr_of (by omega) (by omega)
      erw [hinc]
      exact wC (ih  d0 d4 d1 c9 f4 e5 e6 (by omega) (by omega) (by first | omega | (have hk := hg.at (k := ix a0 (0 : Int)) (i := a2) (by omega) (by omega) (by omega) (by omega); have hl := OI.len c8; have hr := hg.r (ix a0 (0 : Int)) (by omega) (by omega); first | exact OI.mono (OI.add (by assumption) (by omega) (by omega) (by omega) (by omega) (by assumption) (by assumption)) (by omega) | exact OI.mono (OI.step (by assumption) (by omega) (by omega) (by omega) (by omega)) (by omega))) (by first | omega | (have hk := hg.at (k := ix a0 (0 : Int)) (i := a2) (by omega) (by omega) (by omega) (by omega); have hl := OI.len c8; have hr := hg.r (ix a0 (0 : Int)) (by omega) (by omega); first | exact OI.mono (OI.add (by assumption) (by omega) (by omega) (by omega) (by omega) (by assumption) (by assumption)) (by omega) | exact OI.mono (OI.step (by assumption) (by omega) (by omega) (by omega) (by omega)) (by omega))) (Mem.sub g9 (.cons_cons _ (.cons_cons _ (.cons_cons _ (.cons_cons _ .slnil))))) hres) rfl
    · refine rc_skip ?_
      refine pn_blk ?_
      refine pn_seq ?_
      refine rc_region ?_
      refine bN i_add rfl rfl ?_
      refine mV rfl ?_
      refine rd_nil ?_
      refine pn_again ?_
      have hbd := sl_bound e9
      have hinc : wr (a2 + 1) = a2 + 1 := wr_of (by omega) (by omega)
      erw [hinc]
      exact wC (ih  b2 b3 a8 a7 f4 e5 e6 (by omega) (by omega) (by first | omega | (have hk := hg.at (k := ix a0 (0 : Int)) (i := a2) (by omega) (by omega) (by omega) (by omega); have hl := OI.len c8; have hr := hg.r (ix a0 (0 : Int)) (by omega) (by omega); first | exact OI.mono (OI.add (by assumption) (by omega) (by omega) (by omega) (by omega) (by assumption) (by assumption)) (by omega) | exact OI.mono (OI.step (by assumption) (by omega) (by omega) (by omega) (by omega)) (by omega))) (by first | omega | (have hk := hg.at (k := ix a0 (0 : Int)) (i := a2) (by omega) (by omega) (by omega) (by omega); have hl := OI.len c8; have hr := hg.r (ix a0 (0 : Int)) (by omega) (by omega); first | exact OI.mono (OI.add (by assumption) (by omega) (by omega) (by omega) (by omega) (by assumption) (by assumption)) (by omega) | exact OI.mono (OI.step (by assumption) (by omega) (by omega) (by omega) (by omega)) (by omega))) (Mem.sub e8 (.cons_cons _ (.cons_cons _ (.cons_cons _ (.cons_cons _ .slnil))))) hres) rfl

theorem digraph_order_L4_ok {S : List Fr} {res : (List Int)} {x0 : List (List Int)} {b0 c2 : List Int} {v0 : PV} {e6 : List PV} {c7 : PV} {e5 e4 d0 c8 : Nat} (r0 : (tSl (tSl tI)).R x0 v0) (hg : Gd x0.length x0) (hn : x0.length ≤ 24) (i0 : (List.replicate x0.length (0 : Int)).length = x0.length) (h3 : (List.replicate x0.length (0 : Int)).length ≤ 4611686018427387904) (e1 : b0.length = x0.length) (d8 : b0.length ≤ 4611686018427387904) (f6 : WB b0 960) (e8 : isL c7 = true) (d6 : Wri c7 e6) (e3 : c2.length ≤ 4611686018427387904) (f7 : OJ b0 (x0.length : Int) c2) {K6 : (List Int) → (List Int) → (List Int) → (List Int)}
    (k0 : ∀ {a2 a0 a4 : List Int} {a1 : List PV} {a5 : PV} {a3 : List PV} {a7 : PV} {a6 : List PV} (b9 : All2 tI.R a2 a1) (b8 : isL a5 = true) (b4 : Wri a5 a1) (b6 : a2.length ≤ 4611686018427387904) (a9 : All2 tI.R a0 a3) (a8 : isL a7 = true) (b2 : Wri a7 a3) (b1 : a0.length ≤ 4611686018427387904) (c3 : All2 tI.R a4 a6) (b3 : a4.length = x0.length) (b5 : a4.length ≤ 4611686018427387904) {h : Heap} (M0 : Mem h [⟨a5, 3, 1, a1⟩, ⟨a7, 3, 1, a3⟩, ⟨.op d0 c8 0, 31, 1, [a7]⟩, ⟨.os e5 e4 0 x0.length, 3, 1, a6⟩]), K6 a2 a0 a4 = res → PX Try.prog 6 S (QR Try.prog [(2, none)] (RF39 res)) [(9, a5)] h) :
    ∀ {m : Nat} {a2 a0 a4 : List Int} {a1 : List PV} {a5 : PV} {a3 : List PV} {a7 : PV} {a6 : List PV} (b9 : All2 tI.R a2 a1) (b8 : isL a5 = true) (b4 : Wri a5 a1) (b6 : a2.length ≤ 4611686018427387904) (a9 : All2 tI.R a0 a3) (a8 : isL a7 = true) (b2 : Wri a7 a3) (b1 : a0.length ≤ 4611686018427387904) (c3 : All2 tI.R a4 a6) (b3 : a4.length = x0.length) (b5 : a4.length ≤ 4611686018427387904) (j9 : (x0.length : Int) - a2.length ≤ (m : Int)) (b7 : OI x0.length a4 a0 a2 (960 + 40 * a2.length)) {h : Heap} (M0 : Mem h [⟨a5, 3, 1, a1⟩, ⟨a7, 3, 1, a3⟩, ⟨.op d0 c8 0, 31, 1, [a7]⟩, ⟨.os e5 e4 0 x0.length, 3, 1, a6⟩]), digraph_order_L4 x0 K6 m a2 a0 a4 = res → RC Try.prog (.loop ac39_L4) S (QR Try.prog [(2, none)] (RF39 res)) [(10, .fn (.func 46) [] [.op d0 c8 0]), (9, a5), (8, .op d0 c8 0), (3, .os e5 e4 0 x0.length), (0, v0)] h := by
  intro m
  induction m with
  | zero =>
    intro a2 a0 a4 a1 a5 a3 a7 a6 b9 b8 b4 b6 a9 a8 b2 b1 c3 b3 b5 j9 b7 h M0 hres
    rw [digraph_order_L4] at hres
    refine rc_loop ?_
    refine rc_seq ?_
    refine sR ?_
    refine rd_op (ov_load0 (k := 2) M0 rfl rfl (mem_one (k := 1) M0 rfl a8).2) ?_
    refine rd_op (ov_bi rfl (own_len (k := 1) M0 rfl Try.underlying31 a8 a9 _)) ?_
    refine bN i_gtr rfl rfl ?_
    refine nS ?_
    refine rc_cond rfl (fun e9 => ?_) (fun e9 => ?_)
    · exfalso
      try simp only [qa, qaD] at e9
      (have hk := OI.len b7; omega)
    · have hend := hres
      have h1 := e9
      try simp only [qa, qaD] at h1
      refine rc_exit ?_
      refine px_seq ?_
      refine px_again ?_
      exact wP (k0 b9 b8 b4 b6 a9 a8 b2 b1 c3 b3 b5 (Mem.sub M0 (.cons_cons _ (.cons_cons _ (.cons_cons _ (.cons_cons _ .slnil))))) hres) rfl
  | succ m ih =>
    intro a2 a0 a4 a1 a5 a3 a7 a6 b9 b8 b4 b6 a9 a8 b2 b1 c3 b3 b5 j9 b7 h M0 hres
    rw [digraph_order_L4] at hres
    refine rc_loop ?_
    refine rc_seq ?_
    refine sR ?_
    refine rd_op (ov_load0 (k := 2) M0 rfl rfl (mem_one (k := 1) M0 rfl a8).2) ?_
    refine rd_op (ov_bi rfl (own_len (k := 1) M0 rfl Try.underlying31 a8 a9 _)) ?_
    refine bN i_gtr rfl rfl ?_
    refine nS ?_
    refine rc_br hres rfl ?_ ?_ <;> clear hres <;> intro g4 hres <;> have h0 := g4 <;> try simp only [qa, qaD] at h0
    · refine rc_skip ?_
      refine pn_seq ?_
      refine rc_block ?_
      refine sR ?_
      refine rd_op (ov_load0 (k := 2) M0 rfl rfl (mem_one (k := 1) M0 rfl a8).2) ?_
      obtain ⟨h6, i5, g8, h7⟩ := wri_os (i := 0) b2 a9 (by first | omega | first | (have hk := hg.at (k := x21_) (i := x27_) (by omega) (by omega) (by omega) (by omega); omega) | (have hk := hg.at (k := ix a0 (0 : Int)) (i := x70_) (by omega) (by omega) (by omega) (by omega); omega)) (by first | omega | first | (have hk := hg.at (k := x21_) (i := x27_) (by omega) (by omega) (by omega) (by omega); omega) | (have hk := hg.at (k := ix a0 (0 : Int)) (i := x70_) (by omega) (by omega) (by omega) (by omega); omega))
      subst h7
      have i7 : a0.length = g8 := by rw [mem_osn M0 (k := 1) rfl, All2.length_eq a9]
      have c9 : 0 ≤ (0 : Int) := (by first | omega | first | (have hk := hg.at (k := x21_) (i := x27_) (by omega) (by omega) (by omega) (by omega); omega) | (have hk := hg.at (k := ix a0 (0 : Int)) (i := x70_) (by omega) (by omega) (by omega) (by omega); omega))
      have f2 : 0 < (a0.length : Int) := (by first | omega | first | (have hk := hg.at (k := x21_) (i := x27_) (by omega) (by omega) (by omega) (by omega); omega) | (have hk := hg.at (k := ix a0 (0 : Int)) (i := x70_) (by omega) (by omega) (by omega) (by omega); omega))
      refine rd_op (ov_iaddr rfl rfl (n_idx (i := 0) 1 c9 (by omega))) ?_
      obtain ⟨j7, j4, g7⟩ := elem_at (i := (0 : Int)) a9 c9 f2
      have g7 : j7 = vi (ix a0 (0 : Int)) := g7; subst g7
      refine rd_op (ov_elem (k := 1) M0 rfl rfl j4 rfl) ?_
      refine mV rfl ?_
      refine nS ?_
      refine rc_seq ?_
      refine rc_regionS ?_
      refine rs_step ?_
      refine rd_op (ov_load0 (k := 2) M0 rfl rfl (mem_one (k := 1) M0 rfl rfl).2) ?_
      refine rs_back ?_
      have j3 : Mem h [⟨.os h6 i5 0 g8, 3, 1, a3⟩, ⟨a5, 3, 1, a1⟩, ⟨.op d0 c8 0, 31, 1, [(.os h6 i5 0 g8)]⟩, ⟨.os e5 e4 0 x0.length, 3, 1, a6⟩] := (Mem.front (k := 1) M0 rfl)
      obtain ⟨j2, f4, hres⟩ := let_ex hres
      obtain ⟨k3, k4, i1, g5⟩ := f49_ok (x0 := a0) (x1 := 0) (x2 := 1) a9 rfl b1 (.inr ⟨_, _, _, rfl⟩) j3 (by (refine ⟨rfl, rfl, ?_⟩; omega))
      rw [f4] at g5
      obtain ⟨c4, f9, h4, f8, c5, d2, d3, f5⟩ := g5
      replace f5 := f5.symm; subst f5
      refine rs_callXc rfl rfl i1 ?_
      have i3 : 0 ≤ ix a0 (0 : Int) ∧ ix a0 (0 : Int) < x0.length := b7.head (by omega)
      have h2 : OI x0.length a4 j2 (a2 ++ [ix a0 (0 : Int)]) (960 + 40 * a2.length) := b7.take (by omega) f4
      refine rs_step ?_
      refine rd_storeO (k := 2) (v := c4) h4 rfl rfl rfl (mem_cnt1 (k := 0) h4 rfl c5) (fun i4 g6 => ?_)
      replace g6 : Mem i4 [⟨c4, 3, 1, f9⟩, ⟨a5, 3, 1, a1⟩, ⟨.op d0 c8 0, 31, 1, [c4]⟩, ⟨.os e5 e4 0 x0.length, 3, 1, a6⟩] := g6
      refine rs_back ?_
      refine rs_nil ?_
      refine pn_seq ?_
      refine sR ?_
      refine mV rfl ?_
      refine mV rfl ?_
      refine rd_op (v := .fs true [vi (ix a0 (0 : Int))]) (ov_bslice rfl (all_cons rfl all_nil)) ?_
      have j5 : (tSl tI).R ([(ix a0 (0 : Int))] : List Int) (.fs true [vi (ix a0 (0 : Int))]) := sl_fs ⟨rfl, trivial⟩ (by simp)
      obtain ⟨d1, i2, f3⟩ := src_of (t := tI) (h := i4) j5
      have h9 : fits (a1.length + d1.length) 8 = true := by rw [All2.length_eq b9, All2.length_eq f3]; (try simp only [List.length_cons, List.length_nil]); exact fits_of (by first | omega | (have hk := OI.len b7; first | omega | (simp only [List.length_append, List.length_cons, List.length_nil]; omega))) (by first | omega | (have hk := OI.len b7; first | omega | (simp only [List.length_append, List.length_cons, List.length_nil]; omega)))
      refine rd_appW (k := 1) (es := a1) (news := d1) g6 rfl rfl rfl b8 b4 i2 h9 (fun j6 k5 h5 g1 i9 => ?_)
      have h8 : All2 tI.R (a2 ++ ([(ix a0 (0 : Int))] : List Int)) (a1 ++ d1) := All2.app b9 f3
      have g0 : (a2 ++ ([(ix a0 (0 : Int))] : List Int)).length ≤ 4611686018427387904 := by rw [← All2.length_eq h8, List.length_append]; exact fits_len h9
      refine mV rfl ?_
      refine nR ?_
      refine mV rfl ?_
      refine mV rfl ?_
      obtain ⟨k6, j1, g9⟩ := sl_idx (i := (ix a0 (0 : Int))) r0 (by first | omega | first | (have hk := hg.at (k := x21_) (i := x27_) (by omega) (by omega) (by omega) (by omega); omega) | (have hk := hg.at (k := ix a0 (0 : Int)) (i := x70_) (by omega) (by omega) (by omega) (by omega); omega)) (by first | omega | first | (have hk := hg.at (k := x21_) (i := x27_) (by omega) (by omega) (by omega) (by omega); omega) | (have hk := hg.at (k := ix a0 (0 : Int)) (i := x70_) (by omega) (by omega) (by omega) (by omega); omega))
      refine rd_op (ov_iaddr rfl rfl j1) ?_
      refine lD g9 rfl rfl rfl ?_
      refine rd_op (ov_bi rfl (sl_len g9 Try.underlying31 _)) ?_
      refine mI rfl ?_
      refine nS ?_
      refine rc_block ?_
      refine wC (digraph_order_L5_ok hg hn i0 h3 e1 d8 f6 e8 d6 e3 f7 b8 b4 b6 a8 b2 b1 b3 b5 b7 g4 i7 c9 f2 f4 c5 d2 d3 i3 h2 f3 g1 g0 h5 g9 ?_  f8 c5 d3 d2 c3 b3 b5 rfl (by omega) (by first | omega | exact OI.mono (by assumption) (by omega)) (by first | omega | exact OI.mono (by assumption) (by omega)) (Mem.sub i9 (.cons_cons _ (.cons_cons _ (.cons_cons _ (.cons_cons _ .slnil))))) hres) rfl
      · intro g3 g2 d9 c6 d4 f0 e7 d5 e2 f1 d7 e0 i8 j8 j0 hres
        refine px_blk ?_
        refine pn_blk ?_
        have i6 : Mem j8 [⟨j6, 3, 1, (a1 ++ d1)⟩, ⟨c6, 3, 1, d9⟩, ⟨.op d0 c8 0, 31, 1, [c6]⟩, ⟨.os e5 e4 0 x0.length, 3, 1, d4⟩] := (Mem.front (k := 3) (Mem.front (k := 2) (Mem.front (k := 3) (Mem.front (k := 3) j0 rfl) rfl) rfl) rfl)
        refine pn_again ?_
        exact wC (ih  h8 h5 g1 g0 f0 e7 d5 e2 f1 d7 e0 (by (simp only [List.length_append, List.length_cons, List.length_nil]; omega)) (by exact OI.mono (by assumption) (by simp only [List.length_append, List.length_cons, List.length_nil]; omega)) (Mem.sub i6 (.cons_cons _ (.cons_cons _ (.cons_cons _ (.cons_cons _ .slnil))))) hres) rfl
    · refine rc_exit ?_
      refine px_seq ?_
      refine px_again ?_
      exact wP (k0 b9 b8 b4 b6 a9 a8 b2 b1 c3 b3 b5 (Mem.sub M0 (.cons_cons _ (.cons_cons _ (.cons_cons _ (.cons_cons _ .slnil))))) hres) rfl

theorem f39_ok {x0 : List (List Int)} {v0 : PV} (r0 : (tSl (tSl tI)).R x0 v0) (hg : Gd x0.length x0) (hn : x0.length ≤ 24) : ∃ r, FnR Try.prog 39 [v0] r ∧ (tSl tI).R (digraph_order x0) r := by
  refine fnT (R := RF39) text39 rfl fun res hres => ?_
  unfold digraph_order at hres
  refine sR ?_
  refine rd_op (v := nilS) (ov_move rfl) ?_
  refine nR ?_
  refine mV rfl ?_
  refine rd_op (ov_bi rfl (sl_len r0 Try.underlying22 _)) ?_
  have d3 : fits (x0.length) 8 = true := fits_of (by first | omega | (have hk := OI.len iv4_0; first | omega | (simp only [List.length_append, List.length_cons, List.length_nil]; omega))) (by first | omega | (have hk := OI.len iv4_0; first | omega | (simp only [List.length_append, List.length_cons, List.length_nil]; omega)))
  refine rd_makeO (sz := 1) (ty := 3) (n := x0.length) (zz := vi 0) (Mem.nil ⟨0, []⟩) rfl rfl rfl rfl rfl d3 (fun f7 f5 f6 e3 => ?_)
  have e2 : All2 tI.R (List.replicate x0.length (0 : Int)) (List.replicate x0.length (vi 0)) := All2.rep (show tI.R (0 : Int) (vi 0) from rfl) _
  have a6 : (List.replicate x0.length (0 : Int)).length = x0.length := List.length_replicate
  have a8 : (List.replicate x0.length (0 : Int)).length ≤ 4611686018427387904 := by rw [a6]; exact fits_len d3
  refine mV rfl ?_
  refine nS ?_
  refine rc_seq ?_
  refine sR ?_
  refine mV rfl ?_
  refine rd_op (ov_bi rfl (sl_len r0 Try.underlying22 _)) ?_
  refine mI rfl ?_
  refine nS ?_
  refine rc_block ?_
  refine wC (digraph_order_L1_ok r0 hg hn a6 a8 ?_  e2 a6 a8 rfl (by omega) (by first | omega | exact wb_rep (by omega)) (by first | omega | exact wb_rep (by omega)) (Mem.sub e3 (.cons_cons _ .slnil)) hres) rfl
  · intro d0 c8 a2 a0 a1 a7 f1 e9 hres
    refine px_blk ?_
    refine pn_seq ?_
    refine sR ?_
    refine rd_allocO (x := nilS) e9 rfl rfl (fun e4 d9 f0 d8 => ?_)
    refine rd_op (v := nilS) (ov_move rfl) ?_
    refine nR ?_
    refine rd_op (v := .fn (.func 46) [] [.op e4 d9 0]) (ov_mkFunc rfl rfl) ?_
    refine mV rfl ?_
    refine nS ?_
    refine rc_seq ?_
    refine sR ?_
    refine mV rfl ?_
    refine rd_op (ov_bi rfl (own_len (k := 1) d8 rfl Try.underlying31 rfl a2 _)) ?_
    refine mI rfl ?_
    refine nS ?_
    refine rc_block ?_
    have e8 := mem_acc (sz := 1) (es := []) d8 3 (.inl ⟨none, rfl, rfl⟩) (by simp)
    refine wC (digraph_order_L3_ok hg hn a6 a8 a2 a0 a1 a7 ?_  aL rfl (.inl rfl) (by first | decide | simp) rfl (by omega) (by first | omega | exact OJ.nil) (by first | omega | exact OJ.nil) (Mem.sub e8 (.cons_cons _ (.cons_cons _ (.cons_cons _ .slnil)))) hres) rfl
    · intro c2 b9 d4 b0 a5 a3 a4 b3 f4 e6 hres
      refine px_blk ?_
      refine pn_seq ?_
      refine rc_seq ?_
      refine rc_block ?_
      have e0 := mem_acc (sz := 1) (es := []) e6 3 (.inl ⟨none, rfl, rfl⟩) (by simp)
      refine wC (digraph_order_L4_ok r0 hg hn a6 a8 a0 a1 a7 a5 a3 a4 b3 ?_  aL rfl (.inl rfl) (by first | decide | simp) b0 a5 a3 a4 a2 a0 a1 (by omega) (by exact OI.mono (OI.start (by assumption) (by assumption)) (by simp)) (Mem.sub e0 (.cons_cons _ (.cons_cons _ (.cons_cons _ (.cons_cons _ .slnil))))) hres) rfl
      · intro c7 b4 c3 c4 d2 c5 d6 b8 b1 b2 b7 a9 d7 d1 c6 b5 d5 c9 b6 f3 e5 hres
        refine px_blk ?_
        refine pn_seq ?_
        refine sR ?_
        refine mV rfl ?_
        refine mV rfl ?_
        refine nS ?_
        obtain ⟨f2, e7, e1⟩ := own_sl (P := Try.prog) (k := 0) (t := tI) e5 rfl b2 b1 (Nat.le_trans a9 (by decide))
        subst hres
        exact rc_retV (.tmp rfl .nil) e7 e1

end Go.Proofs.Ytpdimhpjehfjeaa
