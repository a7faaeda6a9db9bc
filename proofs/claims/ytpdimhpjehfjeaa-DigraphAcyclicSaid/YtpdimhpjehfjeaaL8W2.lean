/-
  The code of each function does what its plain program says.
-/
import Derived.Test.YtpdimhpjehfjeaaL8W1
set_option linter.unusedVariables false
set_option linter.unusedSimpArgs false
set_option maxRecDepth 100000
namespace Go.Proofs.Ytpdimhpjehfjeaa
open Go Go.Pb Go.RowKit
def RF20 (res : (List Int) × Bool) (r : PV) : Prop := ∃ c0, r = .tup [c0, vb res.2] ∧ (tSl tI).R res.1 c0
theorem f20_ok {x0 : List (List Int)} {v0 : PV} (r0 : (tSl (tSl tI)).R x0 v0) (hs : Sm x0) : ∃ c0, FnR Try.prog 20 [v0] (.tup [c0, vb ((digraph_TopologicalOrder x0).2)]) ∧ (tSl tI).R (digraph_TopologicalOrder x0).1 c0 := by
  obtain ⟨res, hres⟩ : ∃ res, digraph_TopologicalOrder x0 = res := ⟨_, rfl⟩
  suffices H : RC Try.prog ac20 [] (QR Try.prog [(2, none), (3, none)] (RF20 res)) (argE 0 [v0]) ⟨0, []⟩ by
    rw [hres]
    obtain ⟨r, h1, c0, rfl, b0⟩ := fnE text20 (by simp) H
    exact ⟨c0, h1, b0⟩
  unfold digraph_TopologicalOrder at hres
  have hn : x0.length ≤ 24 := hs.n
  refine sR ?_
  refine rd_op (v := nilS) (ov_move rfl) ?_
  refine mB rfl ?_
  refine nR ?_
  refine mV rfl ?_
  obtain ⟨a3, a1, hres⟩ := let_ex hres
  obtain ⟨b2, a6, a2⟩ := f37_ok  r0 (by first | assumption | omega)
  rw [a1] at a2
  have a4 : Gd x0.length a3 := clean_gd hs a1
  have a9 : a3.length = x0.length := a4.len
  refine cL a6 rfl rfl (clL_cons (TR.clo (tSl (tSl tI)) r0) clL_nil) ?_
  obtain ⟨b1, a5, hres⟩ := let_ex hres
  obtain ⟨a7, a8, a0⟩ := f39_ok  a2 (by first | omega | exact Gd.self (by assumption)) (by first | omega | exact Gd.self (by assumption))
  rw [a5] at a0
  refine cL a8 rfl rfl (clL_cons (TR.clo (tSl (tSl tI)) a2) clL_nil) ?_
  refine mV rfl ?_
  refine nS ?_
  refine rc_seq ?_
  refine sR ?_
  refine mV rfl ?_
  refine rd_op (ov_bi rfl (sl_len a0 Try.underlying31 _)) ?_
  refine mV rfl ?_
  refine rd_op (ov_bi rfl (sl_len r0 Try.underlying22 _)) ?_
  refine bN i_lss rfl rfl ?_
  refine nS ?_
  refine rc_br hres rfl ?_ ?_ <;> clear hres <;> intro c hres <;> try simp only [qa, qaD] at c
  · refine sR ?_
    refine rd_op (v := nilS) (ov_move rfl) ?_
    refine mB rfl ?_
    refine nS ?_
    subst hres
    exact rc_retV (.tmp rfl (.tmp rfl .nil)) (deep_closed (show closed (.tup _) = true from (clL_cons (TR.clo (tSl tI) sl_nil) (clL_cons rfl clL_nil)))) ⟨nilS, rfl, sl_nil⟩
  · refine rc_skip ?_
    refine pn_seq ?_
    refine sR ?_
    refine mV rfl ?_
    refine mV rfl ?_
    refine mB rfl ?_
    refine nS ?_
    subst hres
    exact rc_retV (.tmp rfl (.tmp rfl .nil)) (deep_closed (show closed (.tup _) = true from (clL_cons (TR.clo (tSl tI) a0) (clL_cons rfl clL_nil)))) ⟨a7, rfl, a0⟩

theorem f40_ok {x0 : List (List Int)} {v0 : PV} (r0 : (tSl (tSl tI)).R x0 v0) (hg : Gd x0.length x0) (hn : x0.length ≤ 24) (hc : Clx x0) : ∃ c0, FnR Try.prog 40 [v0] (.tup [c0, vb (digraph_heights x0).2]) ∧ (tSl tI).R (digraph_heights x0).1 c0 := by
  obtain ⟨r, H, hr⟩ := f39_ok r0 hg hn
  exact f40_of r0 hg hn H hr (ord_rg hc hn) (ord_len hc hn)

def RF22 (res : (List Int) × Bool) (r : PV) : Prop := ∃ c0, r = .tup [c0, vb res.2] ∧ (tSl tI).R res.1 c0
theorem f22_ok {x0 : List (List Int)} {v0 : PV} (r0 : (tSl (tSl tI)).R x0 v0) (hs : Sm x0) : ∃ c0, FnR Try.prog 22 [v0] (.tup [c0, vb ((digraph_Levels x0).2)]) ∧ (tSl tI).R (digraph_Levels x0).1 c0 := by
  obtain ⟨res, hres⟩ : ∃ res, digraph_Levels x0 = res := ⟨_, rfl⟩
  suffices H : RC Try.prog ac22 [] (QR Try.prog [(2, none), (3, none)] (RF22 res)) (argE 0 [v0]) ⟨0, []⟩ by
    rw [hres]
    obtain ⟨r, h1, c0, rfl, b1⟩ := fnE text22 (by simp) H
    exact ⟨c0, h1, b1⟩
  unfold digraph_Levels at hres
  have hn : x0.length ≤ 24 := hs.n
  refine sR ?_
  refine rd_op (v := nilS) (ov_move rfl) ?_
  refine mB rfl ?_
  refine nR ?_
  refine mV rfl ?_
  obtain ⟨a1, a0, hres⟩ := let_ex hres
  obtain ⟨b3, a7, a3⟩ := f29_ok  r0 (by first | assumption | omega)
  rw [a0] at a3
  have a5 : Gd x0.length a1 := rev_gd hs a0
  have a9 : a1.length = x0.length := a5.len
  have b0 : Clx a1 := rev_clx a0
  refine cL a7 rfl rfl (clL_cons (TR.clo (tSl (tSl tI)) r0) clL_nil) ?_
  obtain ⟨b2, a6, hres⟩ := let_ex hres
  obtain ⟨a8, a4, a2⟩ := f40_ok  a3 (by first | omega | assumption | exact Gd.self (by assumption)) (by first | omega | assumption | exact Gd.self (by assumption)) (by first | omega | assumption | exact Gd.self (by assumption))
  rw [a6] at a4 a2
  refine cL a4 rfl rfl (clL_cons (TR.clo (tSl (tSl tI)) a3) clL_nil) ?_
  refine xT rfl rfl ?_
  refine xT rfl rfl ?_
  refine mV rfl ?_
  refine mV rfl ?_
  refine nS ?_
  subst hres
  exact rc_retV (.tmp rfl (.tmp rfl .nil)) (deep_closed (show closed (.tup _) = true from (clL_cons (TR.clo (tSl tI) a2) (clL_cons rfl clL_nil)))) ⟨a8, rfl, a2⟩

theorem f42_ok {x0 : List Int} {v0 : PV} (r0 : (tSl tI).R x0 v0) (h0 : 0 < x0.length) : FnR Try.prog 42 [v0] (vi (slices_Max__int_int_ x0)) := f42_of r0 h0

def RF41 (res : Int) (r : PV) : Prop := r = vi res
theorem slices_Index__int_int__L1_ok {S : List Fr} {res : Int} {x0 : List Int} {x1 : Int} {v0 : PV} (r0 : (tSl tI).R x0 v0) {K0 : Unit → Int}
    (a3 : K0 () = res → PX Try.prog 0 S (QR Try.prog [(4, none)] (RF41 res)) [] ⟨0, []⟩) :
    ∀ {m : Nat} {a0 : Int} (a2 : m = Int.toNat ((x0.length : Int) - a0)) (a1 : 0 ≤ a0), slices_Index__int_int__L1 x0 x1 K0 m a0 = res → RC Try.prog (.loop ac41_L1) S (QR Try.prog [(4, none)] (RF41 res)) [(8, vi a0), (7, vi (x0.length : Int)), (1, vi x1), (0, v0)] ⟨0, []⟩ := by
  intro m
  induction m with
  | zero =>
    intro a0 a2 a1 hres
    rw [slices_Index__int_int__L1] at hres
    refine rc_loop ?_
    refine sR ?_
    refine bN i_lss rfl rfl ?_
    refine nS ?_
    refine rc_seq ?_
    refine rc_cond rfl ?_ ?_ <;> intro c <;> try simp only [qa, qaD] at c
    · omega
    refine rc_exit ?_
    refine px_seq ?_
    refine px_again ?_
    exact wP (a3  hres) rfl
  | succ m ih =>
    intro a0 a2 a1 hres
    rw [slices_Index__int_int__L1] at hres
    refine rc_loop ?_
    refine sR ?_
    refine bN i_lss rfl rfl ?_
    refine nS ?_
    refine rc_seq ?_
    refine rc_cond rfl ?_ ?_ <;> intro c <;> try simp only [qa, qaD] at c
    rotate_left
    · omega
    refine rc_skip ?_
    refine pn_seq ?_
    refine rc_seq ?_
    refine rc_block ?_
    refine sR ?_
    refine mV rfl ?_
    refine mV rfl ?_
    refine nR ?_
    refine mV rfl ?_
    refine mV rfl ?_
    refine mV rfl ?_
    refine rd_op (ov_iaddr rfl rfl (slI r0 (by omega) (by omega))) ?_
    refine lR rfl rfl rfl ?_
    refine bN i_eql rfl rfl ?_
    refine nS ?_
    refine rc_br hres rfl ?_ ?_ <;> clear hres <;> intro c hres <;> try simp only [qa, qaD] at c
    · refine sR ?_
      refine mV rfl ?_
      refine mV rfl ?_
      refine nS ?_
      exact rR hres rfl rfl rfl
    · refine rc_skip ?_
      refine pn_blk ?_
      refine pn_seq ?_
      refine rc_region ?_
      refine bN i_add rfl rfl ?_
      refine mV rfl ?_
      refine rd_nil ?_
      refine pn_again ?_
      have hbd := sl_bound r0
      have hinc : wr (a0 + 1) = a0 + 1 := wr_of (by omega) (by omega)
      erw [hinc]
      exact wC (ih   (by omega) (by omega) hres) rfl

theorem f41_ok {x0 : List Int} {x1 : Int} {v0 : PV} (r0 : (tSl tI).R x0 v0) : FnR Try.prog 41 [v0, vi x1] (vi (slices_Index__int_int_ x0 x1)) := by
  refine fnS (R := RF41) text41 (fun _ h => h) rfl fun res hres => ?_
  unfold slices_Index__int_int_ at hres
  refine sR ?_
  refine mI rfl ?_
  refine nS ?_
  refine rc_seq ?_
  refine sR ?_
  refine mV rfl ?_
  refine rd_op (ov_bi rfl (sl_len r0 Try.underlying31 _)) ?_
  refine mI rfl ?_
  refine nS ?_
  refine rc_block ?_
  refine wC (slices_Index__int_int__L1_ok r0 ?_  rfl (by omega) hres) rfl
  · intro  hres
    refine px_blk ?_
    refine pn_seq ?_
    refine sR ?_
    refine mI rfl ?_
    refine nS ?_
    exact rR hres rfl rfl rfl

def RF24 (res : (List Int) × Bool) (r : PV) : Prop := ∃ c0, r = .tup [c0, vb res.2] ∧ (tSl tI).R res.1 c0
theorem f24_ok {x0 : List (List Int)} {v0 : PV} (r0 : (tSl (tSl tI)).R x0 v0) (hs : Sm x0) : ∃ c0, FnR Try.prog 24 [v0] (.tup [c0, vb ((digraph_LongestPath x0).2)]) ∧ (tSl tI).R (digraph_LongestPath x0).1 c0 := by
  obtain ⟨res, hres⟩ : ∃ res, digraph_LongestPath x0 = res := ⟨_, rfl⟩
  suffices H : RC Try.prog ac24 [] (QR Try.prog [(2, none), (3, none)] (RF24 res)) (argE 0 [v0]) ⟨0, []⟩ by
    rw [hres]
    obtain ⟨r, h1, c0, rfl, c8⟩ := fnE text24 (by simp) H
    exact ⟨c0, h1, c8⟩
  unfold digraph_LongestPath at hres
  have hn : x0.length ≤ 24 := hs.n
  refine sR ?_
  refine rd_op (v := nilS) (ov_move rfl) ?_
  refine mB rfl ?_
  refine nR ?_
  refine mV rfl ?_
  obtain ⟨a8, a2, hres⟩ := let_ex hres
  obtain ⟨d1, c3, a3⟩ := f37_ok  r0 (by first | assumption | omega)
  rw [a2] at a3
  have a5 : Gd x0.length a8 := clean_gd hs a2
  have c7 : a8.length = x0.length := a5.len
  have b6 : Clx a8 := clean_clx a2
  refine cL c3 rfl rfl (clL_cons (TR.clo (tSl (tSl tI)) r0) clL_nil) ?_
  refine mV rfl ?_
  refine nR ?_
  refine mV rfl ?_
  obtain ⟨b2, a7, hres⟩ := let_ex hres
  obtain ⟨c9, b5, a1⟩ := f40_ok  a3 (by first | omega | assumption | exact Gd.self (by assumption)) (by first | omega | assumption | exact Gd.self (by assumption)) (by first | omega | assumption | exact Gd.self (by assumption))
  rw [a7] at b5 a1
  have a0 := hts_use a5.self (by omega) b6 a7
  refine cL b5 rfl rfl (clL_cons (TR.clo (tSl (tSl tI)) a3) clL_nil) ?_
  refine mV rfl ?_
  refine xT rfl rfl ?_
  refine xT rfl rfl ?_
  refine mV rfl ?_
  refine mV rfl ?_
  refine nS ?_
  refine rc_seq ?_
  refine sR ?_
  refine mV rfl ?_
  refine rd_op (ov_not rfl) ?_
  refine mV rfl ?_
  refine rd_cutn 4 (d := 20) (v := vb ((!b2.2) || (decide ((x0.length : Int) = 0)))) ?_ ?_
  · intro S Q r
    cases b8 : (!b2.2)
    · intro k
      have a9 := b8
      try simp only [qa, qaD] at a9
      refine rd_yes rfl rfl (ov_move rfl) ?_
      refine rd_yes rfl rfl (ov_bi rfl (sl_len r0 Try.underlying22 _)) ?_
      refine rd_yes rfl rfl (ov_bin rfl rfl i_eql) ?_
      exact gK rfl rfl rfl rfl rfl k
    · exact gN 3 rfl rfl rfl rfl rfl rfl
  refine nS ?_
  refine rc_br hres rfl ?_ ?_ <;> clear hres <;> intro c hres <;> try simp only [qa, qaD] at c
  · refine sR ?_
    refine mV rfl ?_
    refine rd_op (v := nilS) (ov_move rfl) ?_
    refine mV rfl ?_
    refine nS ?_
    subst hres
    exact rc_retV (.tmp rfl (.tmp rfl .nil)) (deep_closed (show closed (.tup _) = true from (clL_cons (TR.clo (tSl tI) sl_nil) (clL_cons rfl clL_nil)))) ⟨nilS, rfl, sl_nil⟩
  · refine rc_skip ?_
    refine pn_seq ?_
    refine sR ?_
    refine mV rfl ?_
    refine mV rfl ?_
    refine mV rfl ?_
    refine mV rfl ?_
    obtain ⟨c2, a4, hres⟩ := let_ex hres
    have b4 := f42_ok  a1 (by (have hk := a0 (by first | assumption | exact And.left (by assumption)); first | omega | exact hk.2))
    rw [a4] at b4
    have b7 := max_use (by have hk := a0 (by first | assumption | exact And.left (by assumption)); omega) a4
    refine cL b4 rfl rfl (clL_cons (TR.clo (tSl tI) a1) clL_nil) ?_
    obtain ⟨c5, a6, hres⟩ := let_ex hres
    have b1 := f41_ok (x1 := c2) a1 
    rw [a6] at b1
    have c6 := idx_use b7.1 a6
    refine cL b1 rfl rfl (clL_cons (TR.clo (tSl tI) a1) (clL_cons rfl clL_nil)) ?_
    obtain ⟨d0, b3, hres⟩ := let_ex hres
    obtain ⟨b9, c4, b0⟩ := f36_ok (x2 := c5) a3 a1 (by first | omega | exact Gd.self (by assumption) | (have hk := a0 (by first | assumption | exact And.left (by assumption)); first | omega | exact hk.2)) (by first | omega | exact Gd.self (by assumption) | (have hk := a0 (by first | assumption | exact And.left (by assumption)); first | omega | exact hk.2)) (by first | omega | exact Gd.self (by assumption) | (have hk := a0 (by first | assumption | exact And.left (by assumption)); first | omega | exact hk.2)) (by first | omega | exact Gd.self (by assumption) | (have hk := a0 (by first | assumption | exact And.left (by assumption)); first | omega | exact hk.2)) (by first | omega | exact Gd.self (by assumption) | (have hk := a0 (by first | assumption | exact And.left (by assumption)); first | omega | exact hk.2))
    rw [b3] at b0
    refine cL c4 rfl rfl (clL_cons (TR.clo (tSl (tSl tI)) a3) (clL_cons (TR.clo (tSl tI) a1) (clL_cons rfl clL_nil))) ?_
    refine mV rfl ?_
    refine mB rfl ?_
    refine nS ?_
    subst hres
    exact rc_retV (.tmp rfl (.tmp rfl .nil)) (deep_closed (show closed (.tup _) = true from (clL_cons (TR.clo (tSl tI) b0) (clL_cons rfl clL_nil)))) ⟨b9, rfl, b0⟩

def RF26 (res : (List Int)) (r : PV) : Prop := (tSl tI).R res r
theorem digraph_ShortestCycle_L2_ok {S : List Fr} {res : (List Int)} {x0 : List (List Int)} {a3 : (List (List Int))} {a6 : (List (List Int))} {a0 : Int} {a4 : (List Int)} {b8 b7 b3 b5 : PV} (hs : Sm x0) (hn : x0.length ≤ 24) (d0 : digraph_clean x0 = a3) (a2 : Gd x0.length a3) (c7 : a3.length = x0.length) (d1 : digraph_Reverse x0 = a6) (c8 : Gd x0.length a6) (c9 : a6.length = x0.length) (d2 : 0 ≤ a0) (b4 : (decide (a0 < (a3.length : Int))) = true) (c4 : digraph_distances a6 a0 = a4) (a9 : (tSl tI).R a4 b3) (c6 : a4.length = x0.length ∧ WB a4 1000) (b0 : (tSl tI).R (ix a3 a0) b5) {K2 : Int → (List Int)}
    (d3 : ∀ {a5 : Int} (d4 : a5 < (x0.length : Int)) {h : Heap} (M0 : Mem h []), K2 a5 = res → PX Try.prog 2 S (QR Try.prog [(2, none)] (RF26 res)) [(3, b8), (4, b7), (5, vi a0), (6, b3), (7, vi a5), (16, vi (a3.length : Int)), (17, vi a0)] h) :
    ∀ {m : Nat} {a5 a1 : Int} (c5 : m = Int.toNat (((ix a3 a0).length : Int) - a1)) (c3 : 0 ≤ a1) (a7 : a5 < (x0.length : Int)) {h : Heap} (M0 : Mem h []), digraph_ShortestCycle_L2 a3 a0 a4 K2 m a5 a1 = res → RC Try.prog (.loop ac26_L2) S (QR Try.prog [(2, none)] (RF26 res)) [(28, vi a1), (27, vi ((ix a3 a0).length : Int)), (26, b5), (17, vi a0), (16, vi (a3.length : Int)), (7, vi a5), (6, b3), (5, vi a0), (4, b7), (3, b8)] h := by
  have b2 := b4
  try simp only [qa, qaD] at b2
  intro m
  induction m with
  | zero =>
    intro a5 a1 c5 c3 a7 h M0 hres
    rw [digraph_ShortestCycle_L2] at hres
    refine rc_loop ?_
    refine sR ?_
    refine bN i_lss rfl rfl ?_
    refine nS ?_
    refine rc_seq ?_
    refine rc_cond rfl ?_ ?_ <;> intro c <;> try simp only [qa, qaD] at c
    · omega
    refine rc_exit ?_
    refine px_seq ?_
    refine px_again ?_
    exact wP (d3 (by omega) (Mem.sub M0 .slnil) hres) rfl
  | succ m ih =>
    intro a5 a1 c5 c3 a7 h M0 hres
    rw [digraph_ShortestCycle_L2] at hres
    refine rc_loop ?_
    refine sR ?_
    refine bN i_lss rfl rfl ?_
    refine nS ?_
    refine rc_seq ?_
    refine rc_cond rfl ?_ ?_ <;> intro c <;> try simp only [qa, qaD] at c
    rotate_left
    · omega
    refine rc_skip ?_
    refine pn_seq ?_
    refine rc_seq ?_
    refine rc_block ?_
    refine sR ?_
    refine rd_op (ov_iaddr rfl rfl (slI b0 (by first | omega | first | (have hk := a2.at (k := a0) (i := a1) (by omega) (by omega) (by omega) (by omega); omega) | (rw [wr_of (by simp only [List.length_append, List.length_cons, List.length_nil]; omega) (by simp only [List.length_append, List.length_cons, List.length_nil]; omega)]; simp only [List.length_append, List.length_cons, List.length_nil]; omega)) (by first | omega | first | (have hk := a2.at (k := a0) (i := a1) (by omega) (by omega) (by omega) (by omega); omega) | (rw [wr_of (by simp only [List.length_append, List.length_cons, List.length_nil]; omega) (by simp only [List.length_append, List.length_cons, List.length_nil]; omega)]; simp only [List.length_append, List.length_cons, List.length_nil]; omega)))) ?_
    refine lR rfl rfl rfl ?_
    refine mV rfl ?_
    refine nS ?_
    refine rc_block ?_
    refine sR ?_
    refine mV rfl ?_
    refine mV rfl ?_
    refine bN i_eql rfl rfl ?_
    refine mV rfl ?_
    refine nS ?_
    refine rc_br hres rfl ?_ ?_ <;> clear hres <;> intro c hres <;> try simp only [qa, qaD] at c
    · refine sR ?_
      refine mV rfl ?_
      refine rd_op (v := .fs true [vi a0]) (ov_bslice rfl (all_cons rfl all_nil)) ?_
      have b6 : (tSl tI).R ([a0] : List Int) (.fs true [vi a0]) := sl_fs ⟨rfl, trivial⟩ (by simp)
      refine mV rfl ?_
      refine nS ?_
      exact rR hres rfl (TR.clo (tSl tI) b6) b6
    · refine sR ?_
      refine mV rfl ?_
      refine mV rfl ?_
      refine rd_op (ov_iaddr rfl rfl (slI a9 (by first | omega | first | (have hk := a2.at (k := a0) (i := a1) (by omega) (by omega) (by omega) (by omega); omega) | (rw [wr_of (by simp only [List.length_append, List.length_cons, List.length_nil]; omega) (by simp only [List.length_append, List.length_cons, List.length_nil]; omega)]; simp only [List.length_append, List.length_cons, List.length_nil]; omega)) (by first | omega | first | (have hk := a2.at (k := a0) (i := a1) (by omega) (by omega) (by omega) (by omega); omega) | (rw [wr_of (by simp only [List.length_append, List.length_cons, List.length_nil]; omega) (by simp only [List.length_append, List.length_cons, List.length_nil]; omega)]; simp only [List.length_append, List.length_cons, List.length_nil]; omega)))) ?_
      refine lR rfl rfl rfl ?_
      refine bN i_geq rfl rfl ?_
      refine mV rfl ?_
      refine rd_cutn 14 (d := 58) (v := vb ((decide (0 ≤ (ix a4 (ix (ix a3 a0) a1)))) && ((decide (a5 < 0)) || (decide ((ix a4 (ix (ix a3 a0) a1)) < (ix a4 a5)))))) ?_ ?_
      · intro S Q r
        cases c2 : (decide (0 ≤ (ix a4 (ix (ix a3 a0) a1))))
        · exact gN 13 rfl rfl rfl rfl rfl rfl
        · intro k
          have b1 := c2
          try simp only [qa, qaD] at b1
          refine rd_yes rfl rfl (ov_move rfl) ?_
          refine rd_yes rfl rfl (ov_bin rfl rfl i_lss) ?_
          refine rd_yes rfl rfl (ov_move rfl) ?_
          refine rd_cutn 10 (d := 57) (v := vb ((decide (a5 < 0)) || (decide ((ix a4 (ix (ix a3 a0) a1)) < (ix a4 a5))))) ?_ ?_
          · intro S Q r
            cases b9 : (decide (a5 < 0))
            · intro k
              have a8 := b9
              try simp only [qa, qaD] at a8
              refine rd_yes rfl rfl (ov_move rfl) ?_
              refine rd_yes rfl rfl (ov_move rfl) ?_
              refine rd_yes rfl rfl (ov_iaddr rfl rfl (slI a9 (by first | omega | first | (have hk := a2.at (k := a0) (i := a1) (by omega) (by omega) (by omega) (by omega); omega) | (rw [wr_of (by simp only [List.length_append, List.length_cons, List.length_nil]; omega) (by simp only [List.length_append, List.length_cons, List.length_nil]; omega)]; simp only [List.length_append, List.length_cons, List.length_nil]; omega)) (by first | omega | first | (have hk := a2.at (k := a0) (i := a1) (by omega) (by omega) (by omega) (by omega); omega) | (rw [wr_of (by simp only [List.length_append, List.length_cons, List.length_nil]; omega) (by simp only [List.length_append, List.length_cons, List.length_nil]; omega)]; simp only [List.length_append, List.length_cons, List.length_nil]; omega)))) ?_
              refine rd_yes rfl rfl (ov_load rfl rfl rfl) ?_
              refine rd_yes rfl rfl (ov_move rfl) ?_
              refine rd_yes rfl rfl (ov_move rfl) ?_
              refine rd_yes rfl rfl (ov_iaddr rfl rfl (slI a9 (by first | omega | first | (have hk := a2.at (k := a0) (i := a1) (by omega) (by omega) (by omega) (by omega); omega) | (rw [wr_of (by simp only [List.length_append, List.length_cons, List.length_nil]; omega) (by simp only [List.length_append, List.length_cons, List.length_nil]; omega)]; simp only [List.length_append, List.length_cons, List.length_nil]; omega)) (by first | omega | first | (have hk := a2.at (k := a0) (i := a1) (by omega) (by omega) (by omega) (by omega); omega) | (rw [wr_of (by simp only [List.length_append, List.length_cons, List.length_nil]; omega) (by simp only [List.length_append, List.length_cons, List.length_nil]; omega)]; simp only [List.length_append, List.length_cons, List.length_nil]; omega)))) ?_
              refine rd_yes rfl rfl (ov_load rfl rfl rfl) ?_
              refine rd_yes rfl rfl (ov_bin rfl rfl i_lss) ?_
              refine rd_yes (v := vb (decide ((ix a4 (ix (ix a3 a0) a1)) < (ix a4 a5)))) rfl rfl (ov_pick rfl rfl rfl rfl) ?_
              exact wD k rfl
            · intro k
              refine rd_skip rfl rfl ?_
              refine rd_skip rfl rfl ?_
              refine rd_skip rfl rfl ?_
              refine rd_skip rfl rfl ?_
              refine rd_skip rfl rfl ?_
              refine rd_skip rfl rfl ?_
              refine rd_skip rfl rfl ?_
              refine rd_skip rfl rfl ?_
              refine rd_skip rfl rfl ?_
              refine rd_yes (v := vb true) rfl rfl (ov_pick rfl rfl rfl rfl) ?_
              exact wD k rfl
          exact gK rfl rfl rfl rfl rfl k
      refine mV rfl ?_
      refine nS ?_
      refine rc_br hres rfl ?_ ?_ <;> clear hres <;> intro c hres <;> try simp only [qa, qaD] at c
      · refine rc_region ?_
        refine mV rfl ?_
        refine mV rfl ?_
        refine rd_nil ?_
        refine pn_blk ?_
        refine pn_blk ?_
        refine pn_seq ?_
        refine rc_region ?_
        refine bN i_add rfl rfl ?_
        refine mV rfl ?_
        refine rd_nil ?_
        refine pn_again ?_
        have hbd := sl_bound b0
        have hinc : wr (a1 + 1) = a1 + 1 := wr_of (by omega) (by omega)
        erw [hinc]
        exact wC (ih   (by omega) (by omega) (by first | omega | (have hk := a2.at (k := a0) (i := a1) (by omega) (by omega) (by omega) (by omega); omega)) (Mem.sub M0 .slnil) hres) rfl
      · refine rc_skip ?_
        refine pn_blk ?_
        refine pn_blk ?_
        refine pn_seq ?_
        refine rc_region ?_
        refine bN i_add rfl rfl ?_
        refine mV rfl ?_
        refine rd_nil ?_
        refine pn_again ?_
        have hbd := sl_bound b0
        have hinc : wr (a1 + 1) = a1 + 1 := wr_of (by omega) (by omega)
        erw [hinc]
        exact wC (ih   (by omega) (by omega) (by first | omega | (have hk := a2.at (k := a0) (i := a1) (by omega) (by omega) (by omega) (by omega); omega)) (Mem.sub M0 .slnil) hres) rfl

theorem digraph_ShortestCycle_L1_ok {S : List Fr} {res : (List Int)} {x0 : List (List Int)} {a6 : (List (List Int))} {b2 : (List (List Int))} {a7 b3 : PV} (hs : Sm x0) (hn : x0.length ≤ 24) (d9 : digraph_clean x0 = a6) (b5 : (tSl (tSl tI)).R a6 a7) (a4 : Gd x0.length a6) (d2 : a6.length = x0.length) (e1 : digraph_Reverse x0 = b2) (c7 : (tSl (tSl tI)).R b2 b3) (d4 : Gd x0.length b2) (b8 : b2.length = x0.length) {K0 : Unit → (List Int)}
    (f9 : ∀ {h : Heap} (M0 : Mem h []), K0 () = res → PX Try.prog 0 S (QR Try.prog [(2, none)] (RF26 res)) [] h) :
    ∀ {m : Nat} {a0 : Int} (f5 : m = Int.toNat ((a6.length : Int) - a0)) (c2 : 0 ≤ a0) {h : Heap} (M0 : Mem h []), digraph_ShortestCycle_L1 a6 b2 K0 m a0 = res → RC Try.prog (.loop ac26_L1) S (QR Try.prog [(2, none)] (RF26 res)) [(17, vi a0), (16, vi (a6.length : Int)), (4, b3), (3, a7)] h := by
  intro m
  induction m with
  | zero =>
    intro a0 f5 c2 h M0 hres
    rw [digraph_ShortestCycle_L1] at hres
    refine rc_loop ?_
    refine sR ?_
    refine bN i_lss rfl rfl ?_
    refine nS ?_
    refine rc_seq ?_
    refine rc_cond rfl ?_ ?_ <;> intro c <;> try simp only [qa, qaD] at c
    · omega
    refine rc_exit ?_
    refine px_seq ?_
    refine px_again ?_
    exact wP (f9 (Mem.sub M0 .slnil) hres) rfl
  | succ m ih =>
    intro a0 f5 c2 h M0 hres
    rw [digraph_ShortestCycle_L1] at hres
    refine rc_loop ?_
    refine sR ?_
    refine bN i_lss rfl rfl ?_
    refine nS ?_
    refine rc_seq ?_
    refine rc_cond rfl (fun a8 => ?_) (fun a8 => ?_)
    · have hgo := hres
      have c4 := a8
      try simp only [qa, qaD] at c4
      refine rc_skip ?_
      refine pn_seq ?_
      refine rc_seq ?_
      refine rc_block ?_
      refine sR ?_
      refine mV rfl ?_
      refine mV rfl ?_
      refine nR ?_
      refine mV rfl ?_
      refine mV rfl ?_
      obtain ⟨d0, b0, hres⟩ := let_ex hres
      obtain ⟨a9, f0, b4⟩ := f34_ok (x1 := a0) c7 (by first | assumption | omega)
      rw [b0] at b4
      have a5 : d0.length = x0.length ∧ WB d0 1000 := (by have := dist_use (by omega) b0; rw [b8] at this; exact this)
      refine cL f0 rfl rfl (clL_cons (TR.clo (tSl (tSl tI)) c7) (clL_cons rfl clL_nil)) ?_
      refine mV rfl ?_
      refine nR ?_
      refine mI rfl ?_
      refine nS ?_
      refine rc_seq ?_
      refine sR ?_
      refine mV rfl ?_
      refine mV rfl ?_
      obtain ⟨f8, e9, b9⟩ := sl_idx (i := a0) b5 (by first | omega | first | (have hk := a4.at (k := a0) (i := x28_) (by omega) (by omega) (by omega) (by omega); omega) | (rw [wr_of (by simp only [List.length_append, List.length_cons, List.length_nil]; omega) (by simp only [List.length_append, List.length_cons, List.length_nil]; omega)]; simp only [List.length_append, List.length_cons, List.length_nil]; omega)) (by first | omega | first | (have hk := a4.at (k := a0) (i := x28_) (by omega) (by omega) (by omega) (by omega); omega) | (rw [wr_of (by simp only [List.length_append, List.length_cons, List.length_nil]; omega) (by simp only [List.length_append, List.length_cons, List.length_nil]; omega)]; simp only [List.length_append, List.length_cons, List.length_nil]; omega))
      refine rd_op (ov_iaddr rfl rfl e9) ?_
      refine lD b9 rfl rfl rfl ?_
      refine rd_op (ov_bi rfl (sl_len b9 Try.underlying31 _)) ?_
      refine mI rfl ?_
      refine nS ?_
      refine rc_block ?_
      refine wC (digraph_ShortestCycle_L2_ok hs hn d9 a4 d2 e1 d4 b8 c2 a8 b0 b4 a5 b9 ?_  rfl (by omega) (by first | omega | (simp; done) | (simp only [List.length_append, List.length_cons, List.length_nil, List.length_set]; omega)) (Mem.sub M0 .slnil) hres) rfl
      · intro a1 e3 f1 d1 hres
        refine px_blk ?_
        refine pn_seq ?_
        refine rc_seq ?_
        refine sR ?_
        refine mV rfl ?_
        refine bN i_lss rfl rfl ?_
        refine nS ?_
        refine rc_br hres rfl ?_ ?_ <;> clear hres <;> intro c hres <;> try simp only [qa, qaD] at c
        · refine rc_exit ?_
          refine px_seq ?_
          refine px_blk ?_
          refine pn_seq ?_
          refine rc_region ?_
          refine bN i_add rfl rfl ?_
          refine mV rfl ?_
          refine rd_nil ?_
          refine pn_again ?_
          have hbd := sl_bound b5
          have hinc : wr (a0 + 1) = a0 + 1 := wr_of (by omega) (by omega)
          erw [hinc]
          exact wC (ih   (by omega) (by omega) (Mem.sub d1 .slnil) hres) rfl
        · refine rc_skip ?_
          refine pn_seq ?_
          refine sR ?_
          refine mV rfl ?_
          refine rd_op (v := .fs true [vi a0]) (ov_bslice rfl (all_cons rfl all_nil)) ?_
          have e5 : (tSl tI).R ([a0] : List Int) (.fs true [vi a0]) := sl_fs ⟨rfl, trivial⟩ (by simp)
          refine mV rfl ?_
          refine mV rfl ?_
          refine mV rfl ?_
          obtain ⟨a2, b7, hres⟩ := let_ex hres
          obtain ⟨c6, e6, d6⟩ := f36_ok (x2 := a1) b5 b4 (by first | omega | exact Gd.self (by assumption) | exact WB.mono a5.2 (by omega)) (by first | omega | exact Gd.self (by assumption) | exact WB.mono a5.2 (by omega)) (by first | omega | exact Gd.self (by assumption) | exact WB.mono a5.2 (by omega)) (by first | omega | exact Gd.self (by assumption) | exact WB.mono a5.2 (by omega)) (by first | omega | exact Gd.self (by assumption) | exact WB.mono a5.2 (by omega))
          rw [b7] at d6
          have f7 := desc_len a5.2 (by omega) (by omega) (by omega) b7
          refine cL e6 rfl rfl (clL_cons (TR.clo (tSl (tSl tI)) b5) (clL_cons (TR.clo (tSl tI) b4) (clL_cons rfl clL_nil))) ?_
          have f4 := e5
          have c3 : All2 tI.R ([a0] : List Int) [vi a0] := sl_all2 f4
          have e7 := mem_acc (sz := 1) (es := [vi a0]) d1 3 (.inr rfl) (All2.cnt (t := tI) c3)
          obtain ⟨b1, e2, b6⟩ := src_of (t := tI) (h := f1) d6
          have d3 : fits ([vi a0].length + b1.length) 8 = true := by rw [All2.length_eq c3, All2.length_eq b6]; (try simp only [List.length_cons, List.length_nil]); exact fits_of (by first | omega | (simp only [List.length_append, List.length_cons, List.length_nil]; omega)) (by first | omega | (simp only [List.length_append, List.length_cons, List.length_nil]; omega))
          refine rd_appO (k := 0) (es := [vi a0]) (news := b1) e7 rfl rfl rfl rfl e2 d3 (fun g1 g0 c9 d7 => ?_)
          have c5 : All2 tI.R (([a0] : List Int) ++ a2) ([vi a0] ++ b1) := All2.app c3 b6
          have d5 : (([a0] : List Int) ++ a2).length ≤ 4611686018427387904 := by rw [← All2.length_eq c5, List.length_append]; exact fits_len d3
          refine mV rfl ?_
          refine nS ?_
          refine rc_seq ?_
          refine rc_regionS ?_
          refine rs_step ?_
          refine mV rfl ?_
          refine rs_back ?_
          refine rs_step ?_
          refine mV rfl ?_
          refine rs_back ?_
          refine rs_step ?_
          refine rd_op (ov_bi rfl (own_len (k := 0) d7 rfl Try.underlying31 c9 c5 _)) ?_
          refine rs_back ?_
          refine rs_step ?_
          refine bN i_sub rfl rfl ?_
          refine rs_back ?_
          refine rs_freeze (k := 0) (E' := fun a3 => [(73, vi (wr (((([a0] : List Int) ++ a2).length : Int) - 1))), (72, vi ((([a0] : List Int) ++ a2).length : Int)), (71, a3), (70, a3), (10, a3), (69, a3), (68, c6), (67, vi a1), (66, a9), (65, a7), (64, .fs true [vi a0]), (63, vi a0), (62, vb (decide (a1 < 0))), (61, vi a1), (3, a7), (4, b3), (5, vi a0), (6, a9), (7, vi a1), (16, vi (a6.length : Int)), (17, vi a0)]) d7 rfl c9 (fun a3 => (frz_keep rfl (frz_keep rfl (frz_turn rfl (frz_turn rfl (frz_turn rfl (frz_turn rfl (frz_keep rfl (frz_keep rfl (frz_keep rfl (frz_keep rfl (frz_keep rfl (frz_keep rfl (frz_keep rfl (frz_keep rfl (frz_keep rfl (frz_keep rfl (frz_keep rfl (frz_keep rfl (frz_keep rfl (frz_keep rfl (frz_keep rfl frz_nil)))))))))))))))))))))) (fun a3 c8 e8 e0 => ?_)
          have f2 : (tSl tI).R (([a0] : List Int) ++ a2) a3 := ⟨⟨_, e8, c5⟩, Nat.le_trans d5 (by decide)⟩
          replace e0 : Mem c8 [] := e0.sub .slnil
          refine rs_step ?_
          refine rd_weak (E0 := [(73, vi (wr (((([a0] : List Int) ++ a2).length : Int) - 1))), (72, vi ((([a0] : List Int) ++ a2).length : Int)), (71, a3), (70, a3), (10, a3), (69, a3), (68, c6), (67, vi a1), (66, a9), (65, a7), (64, .fs true [vi a0]), (63, vi a0), (62, vb (decide (a1 < 0))), (61, vi a1), (3, a7), (4, b3), (5, vi a0), (6, a9), (7, vi a1), (16, vi (a6.length : Int)), (17, vi a0)]) (sB rfl) ?_
          obtain ⟨f3, e4, d8⟩ := sl_sub (P := Try.prog) (hf := false) (E := [(73, vi (wr (((([a0] : List Int) ++ a2).length : Int) - 1))), (72, vi ((([a0] : List Int) ++ a2).length : Int)), (71, a3), (70, a3), (10, a3), (69, a3), (68, c6), (67, vi a1), (66, a9), (65, a7), (64, .fs true [vi a0]), (63, vi a0), (62, vb (decide (a1 < 0))), (61, vi a1), (3, a7), (4, b3), (5, vi a0), (6, a9), (7, vi a1), (16, vi (a6.length : Int)), (17, vi a0)]) (h := c8) (t := tI) (tt := 31) (x := (.tmp 70)) (lo := none) (hi := (some (.tmp 73))) (a := 0) (b := (wr (((([a0] : List Int) ++ a2).length : Int) - 1))) f2 rfl rfl rfl (show 0 ≤ 0 by first | omega | first | (have hk := a4.at (k := a0) (i := x28_) (by omega) (by omega) (by omega) (by omega); omega) | (rw [wr_of (by simp only [List.length_append, List.length_cons, List.length_nil]; omega) (by simp only [List.length_append, List.length_cons, List.length_nil]; omega)]; simp only [List.length_append, List.length_cons, List.length_nil]; omega)) (show 0 ≤ (wr (((([a0] : List Int) ++ a2).length : Int) - 1)) by first | omega | first | (have hk := a4.at (k := a0) (i := x28_) (by omega) (by omega) (by omega) (by omega); omega) | (rw [wr_of (by simp only [List.length_append, List.length_cons, List.length_nil]; omega) (by simp only [List.length_append, List.length_cons, List.length_nil]; omega)]; simp only [List.length_append, List.length_cons, List.length_nil]; omega)) (show (wr (((([a0] : List Int) ++ a2).length : Int) - 1)) ≤ ((([a0] : List Int) ++ a2).length : Int) by first | omega | first | (have hk := a4.at (k := a0) (i := x28_) (by omega) (by omega) (by omega) (by omega); omega) | (rw [wr_of (by simp only [List.length_append, List.length_cons, List.length_nil]; omega) (by simp only [List.length_append, List.length_cons, List.length_nil]; omega)]; simp only [List.length_append, List.length_cons, List.length_nil]; omega)) (fun ad => by kernel_rfl)
          have f6 := sub_len (l := (([a0] : List Int) ++ a2)) (show 0 ≤ 0 by first | omega | first | (have hk := a4.at (k := a0) (i := x28_) (by omega) (by omega) (by omega) (by omega); omega) | (rw [wr_of (by simp only [List.length_append, List.length_cons, List.length_nil]; omega) (by simp only [List.length_append, List.length_cons, List.length_nil]; omega)]; simp only [List.length_append, List.length_cons, List.length_nil]; omega)) (show 0 ≤ (wr (((([a0] : List Int) ++ a2).length : Int) - 1)) by first | omega | first | (have hk := a4.at (k := a0) (i := x28_) (by omega) (by omega) (by omega) (by omega); omega) | (rw [wr_of (by simp only [List.length_append, List.length_cons, List.length_nil]; omega) (by simp only [List.length_append, List.length_cons, List.length_nil]; omega)]; simp only [List.length_append, List.length_cons, List.length_nil]; omega)) (show (wr (((([a0] : List Int) ++ a2).length : Int) - 1)) ≤ ((([a0] : List Int) ++ a2).length : Int) by first | omega | first | (have hk := a4.at (k := a0) (i := x28_) (by omega) (by omega) (by omega) (by omega); omega) | (rw [wr_of (by simp only [List.length_append, List.length_cons, List.length_nil]; omega) (by simp only [List.length_append, List.length_cons, List.length_nil]; omega)]; simp only [List.length_append, List.length_cons, List.length_nil]; omega))
          refine rd_op (v := f3) (e4) ?_
          refine rs_back ?_
          refine rs_step ?_
          refine mV rfl ?_
          refine rs_back ?_
          refine rs_nil ?_
          refine pn_seq ?_
          exact rR hres rfl (TR.clo (tSl tI) d8) d8
    · exfalso
      try simp only [qa, qaD] at a8
      omega

theorem f26_ok {x0 : List (List Int)} {v0 : PV} (r0 : (tSl (tSl tI)).R x0 v0) (hs : Sm x0) : ∃ r, FnR Try.prog 26 [v0] r ∧ (tSl tI).R (digraph_ShortestCycle x0) r := by
  refine fnT (R := RF26) text26 rfl fun res hres => ?_
  unfold digraph_ShortestCycle at hres
  have hn : x0.length ≤ 24 := hs.n
  refine sR ?_
  refine rd_op (v := nilS) (ov_move rfl) ?_
  refine nS ?_
  refine rc_scope ?_
  refine sR ?_
  refine mV rfl ?_
  obtain ⟨a5, a0, hres⟩ := let_ex hres
  obtain ⟨b5, b0, a4⟩ := f37_ok  r0 (by first | assumption | omega)
  rw [a0] at a4
  have a2 : Gd x0.length a5 := clean_gd hs a0
  have a7 : a5.length = x0.length := a2.len
  refine cL b0 rfl rfl (clL_cons (TR.clo (tSl (tSl tI)) r0) clL_nil) ?_
  refine mV rfl ?_
  obtain ⟨a8, a1, hres⟩ := let_ex hres
  obtain ⟨b4, b1, a6⟩ := f29_ok  r0 (by first | assumption | omega)
  rw [a1] at a6
  have a3 : Gd x0.length a8 := rev_gd hs a1
  have a9 : a8.length = x0.length := a3.len
  refine cL b1 rfl rfl (clL_cons (TR.clo (tSl (tSl tI)) r0) clL_nil) ?_
  refine mV rfl ?_
  refine mV rfl ?_
  refine nS ?_
  refine rc_seq ?_
  refine rc_skip ?_
  refine pn_seq ?_
  refine rc_seq ?_
  refine sR ?_
  refine mV rfl ?_
  refine rd_op (ov_bi rfl (sl_len a4 Try.underlying22 _)) ?_
  refine mI rfl ?_
  refine nS ?_
  refine rc_block ?_
  refine wC (digraph_ShortestCycle_L1_ok hs hn a0 a4 a2 a7 a1 a6 a3 a9 ?_  rfl (by omega) (Mem.sub (Mem.nil ⟨0, []⟩) .slnil) hres) rfl
  · intro b3 b2 hres
    refine px_blk ?_
    refine pn_seq ?_
    refine sR ?_
    refine rd_op (v := nilS) (ov_move rfl) ?_
    refine nS ?_
    exact rR hres rfl (TR.clo (tSl tI) sl_nil) sl_nil

def RF15 (res : (List Bool)) (r : PV) : Prop := (tSl tB).R res r
theorem digraph_Reachable_L1_ok {S : List Fr} {res : (List Bool)} {x0 : List (List Int)} {x1 : Int} {a4 : (List Int)} {b4 : PV} {a8 a7 : Nat} (hs : Sm x0) (hn : x0.length ≤ 24) (c3 : (List.replicate x0.length false).length = x0.length) (b8 : (List.replicate x0.length false).length ≤ 4611686018427387904) (c4 : digraph_distances x0 x1 = a4) (b0 : (tSl tI).R a4 b4) (c2 : a4.length = x0.length) {K0 : (List Bool) → (List Bool)}
    (c6 : ∀ {a0 : List Bool} {a2 : List PV} (a6 : All2 tB.R a0 a2) (a5 : a0.length = x0.length) (a3 : a0.length ≤ 4611686018427387904) {h : Heap} (M0 : Mem h [⟨.os a8 a7 0 x0.length, 4, 1, a2⟩]), K0 a0 = res → PX Try.prog 0 S (QR Try.prog [(4, none)] (RF15 res)) [(5, .os a8 a7 0 x0.length)] h) :
    ∀ {m : Nat} {a1 : Int} {a0 : List Bool} {a2 : List PV} (a6 : All2 tB.R a0 a2) (a5 : a0.length = x0.length) (a3 : a0.length ≤ 4611686018427387904) (b9 : m = Int.toNat ((a4.length : Int) - a1)) (b3 : 0 ≤ a1) {h : Heap} (M0 : Mem h [⟨.os a8 a7 0 x0.length, 4, 1, a2⟩]), digraph_Reachable_L1 a4 K0 m a1 a0 = res → RC Try.prog (.loop ac15_L1) S (QR Try.prog [(4, none)] (RF15 res)) [(15, vi a1), (14, vi (a4.length : Int)), (13, b4), (5, .os a8 a7 0 x0.length)] h := by
  intro m
  induction m with
  | zero =>
    intro a1 a0 a2 a6 a5 a3 b9 b3 h M0 hres
    rw [digraph_Reachable_L1] at hres
    refine rc_loop ?_
    refine sR ?_
    refine bN i_lss rfl rfl ?_
    refine nS ?_
    refine rc_seq ?_
    refine rc_cond rfl ?_ ?_ <;> intro c <;> try simp only [qa, qaD] at c
    · omega
    refine rc_exit ?_
    refine px_seq ?_
    refine px_again ?_
    exact wP (c6 a6 a5 a3 (Mem.sub M0 (.cons_cons _ .slnil)) hres) rfl
  | succ m ih =>
    intro a1 a0 a2 a6 a5 a3 b9 b3 h M0 hres
    rw [digraph_Reachable_L1] at hres
    refine rc_loop ?_
    refine sR ?_
    refine bN i_lss rfl rfl ?_
    refine nS ?_
    refine rc_seq ?_
    refine rc_cond rfl ?_ ?_ <;> intro c <;> try simp only [qa, qaD] at c
    rotate_left
    · omega
    refine rc_skip ?_
    refine pn_seq ?_
    refine rc_seq ?_
    refine rc_block ?_
    refine sR ?_
    refine mV rfl ?_
    refine rd_op (ov_iaddr rfl rfl (slI b0 (by omega) (by omega))) ?_
    refine lR rfl rfl rfl ?_
    refine mV rfl ?_
    refine mV rfl ?_
    refine nS ?_
    refine rc_region ?_
    refine mV rfl ?_
    refine mV rfl ?_
    refine mV rfl ?_
    refine bN i_geq rfl rfl ?_
    have a9 : 0 ≤ a1 := (by omega)
    have b7 : a1 < (a0.length : Int) := (by omega)
    refine rd_op (ov_iaddr rfl rfl (n_idx 1 a9 (by omega))) ?_
    refine rd_setO (k := 0) (v := vb (decide (0 ≤ (ix a4 a1)))) M0 rfl rfl rfl (by rw [All2.length_eq a6]; omega) rfl (fun c5 b5 => ?_)
    have b6 := All2.set (i := (a1).toNat) a6 (show tB.R (decide (0 ≤ (ix a4 a1))) (vb (decide (0 ≤ (ix a4 a1)))) from rfl)
    have b2 : (a0.set (a1).toNat (decide (0 ≤ (ix a4 a1)))).length ≤ 4611686018427387904 := by simp only [List.length_set]; exact a3
    have b1 : (a0.set (a1).toNat (decide (0 ≤ (ix a4 a1)))).length = x0.length := by simp only [List.length_set]; exact a5
    refine rd_nil ?_
    refine pn_blk ?_
    refine pn_seq ?_
    refine rc_region ?_
    refine bN i_add rfl rfl ?_
    refine mV rfl ?_
    refine rd_nil ?_
    refine pn_again ?_
    have hbd := sl_bound b0
    have hinc : wr (a1 + 1) = a1 + 1 := wr_of (by omega) (by omega)
    erw [hinc]
    exact wC (ih  b6 b1 b2 (by omega) (by omega) (Mem.sub b5 (.cons_cons _ .slnil)) hres) rfl

theorem f15_ok {x0 : List (List Int)} {x1 : Int} {v0 : PV} (r0 : (tSl (tSl tI)).R x0 v0) (hs : Sm x0) : ∃ r, FnR Try.prog 15 [v0, vi x1] r ∧ (tSl tB).R (digraph_Reachable x0 x1) r := by
  refine fnT (R := RF15) text15 rfl fun res hres => ?_
  unfold digraph_Reachable at hres
  have hn : x0.length ≤ 24 := hs.n
  refine sR ?_
  refine rd_op (v := nilS) (ov_move rfl) ?_
  refine nR ?_
  refine mV rfl ?_
  refine rd_op (ov_bi rfl (sl_len r0 Try.underlying22 _)) ?_
  have a9 : fits (x0.length) 1 = true := fits_of (by first | omega | (simp only [List.length_append, List.length_cons, List.length_nil] at *; omega)) (by first | omega | (simp only [List.length_append, List.length_cons, List.length_nil] at *; omega))
  refine rd_makeO (sz := 1) (ty := 4) (n := x0.length) (zz := vb false) (Mem.nil ⟨0, []⟩) rfl rfl rfl rfl rfl a9 (fun c5 c2 c4 b3 => ?_)
  have b2 : All2 tB.R (List.replicate x0.length false) (List.replicate x0.length (vb false)) := All2.rep (show tB.R false (vb false) from rfl) _
  have a2 : (List.replicate x0.length false).length = x0.length := List.length_replicate
  have a4 : (List.replicate x0.length false).length ≤ 4611686018427387904 := by rw [a2]; exact fits_len a9
  refine mV rfl ?_
  refine nS ?_
  refine rc_seq ?_
  refine sR ?_
  refine mV rfl ?_
  refine mV rfl ?_
  obtain ⟨b5, a3, hres⟩ := let_ex hres
  obtain ⟨c3, b6, a5⟩ := f34_ok (x1 := x1) r0 (by first | assumption | omega)
  rw [a3] at a5
  have b0 : b5.length = x0.length := (dist_use (by omega) a3).1
  refine cL b6 rfl rfl (clL_cons (TR.clo (tSl (tSl tI)) r0) (clL_cons rfl clL_nil)) ?_
  refine rd_op (ov_bi rfl (sl_len a5 Try.underlying31 _)) ?_
  refine mI rfl ?_
  refine nS ?_
  refine rc_block ?_
  refine wC (digraph_Reachable_L1_ok hs hn a2 a4 a3 a5 b0 ?_  b2 a2 a4 rfl (by omega) (Mem.sub b3 (.cons_cons _ .slnil)) hres) rfl
  · intro a8 a6 a1 a7 a0 b9 b1 hres
    refine px_blk ?_
    refine pn_seq ?_
    refine sR ?_
    refine mV rfl ?_
    refine mV rfl ?_
    refine nS ?_
    obtain ⟨b8, b7, b4⟩ := own_sl (P := Try.prog) (k := 0) (t := tB) b1 rfl rfl a1 (Nat.le_trans a0 (by decide))
    subst hres
    exact rc_retV (.tmp rfl .nil) b7 b4

def RF19 (res : Bool) (r : PV) : Prop := r = vb res
theorem ref06_EqualInts_L1_ok {S : List Fr} {res : Bool} {x0 x1 : List Int} {v0 v1 : PV} (r0 : (tSl tI).R x0 v0) (r1 : (tSl tI).R x1 v1) (a3 : (!decide ((x0.length : Int) = (x1.length : Int))) = false) {K0 : Unit → Bool}
    (a5 : K0 () = res → PX Try.prog 0 S (QR Try.prog [(4, none)] (RF19 res)) [] ⟨0, []⟩) :
    ∀ {m : Nat} {a0 : Int} (a4 : m = Int.toNat ((x0.length : Int) - a0)) (a2 : 0 ≤ a0), ref06_EqualInts_L1 x0 x1 K0 m a0 = res → RC Try.prog (.loop ac19_L1) S (QR Try.prog [(4, none)] (RF19 res)) [(5, vi a0), (1, v1), (0, v0)] ⟨0, []⟩ := by
  have a1 := a3
  try simp only [qa, qaD] at a1
  intro m
  induction m with
  | zero =>
    intro a0 a4 a2 hres
    rw [ref06_EqualInts_L1] at hres
    refine rc_loop ?_
    refine rc_seq ?_
    refine sR ?_
    refine mV rfl ?_
    refine mV rfl ?_
    refine rd_op (ov_bi rfl (sl_len r0 Try.underlying31 _)) ?_
    refine bN i_lss rfl rfl ?_
    refine nS ?_
    refine rc_cond rfl ?_ ?_ <;> intro c <;> try simp only [qa, qaD] at c
    · omega
    refine rc_exit ?_
    refine px_seq ?_
    refine px_again ?_
    exact wP (a5  hres) rfl
  | succ m ih =>
    intro a0 a4 a2 hres
    rw [ref06_EqualInts_L1] at hres
    refine rc_loop ?_
    refine rc_seq ?_
    refine sR ?_
    refine mV rfl ?_
    refine mV rfl ?_
    refine rd_op (ov_bi rfl (sl_len r0 Try.underlying31 _)) ?_
    refine bN i_lss rfl rfl ?_
    refine nS ?_
    refine rc_cond rfl ?_ ?_ <;> intro c <;> try simp only [qa, qaD] at c
    rotate_left
    · omega
    refine rc_skip ?_
    refine pn_seq ?_
    refine rc_seq ?_
    refine rc_block ?_
    refine sR ?_
    refine mV rfl ?_
    refine mV rfl ?_
    refine rd_op (ov_iaddr rfl rfl (slI r0 (by omega) (by omega))) ?_
    refine lR rfl rfl rfl ?_
    refine mV rfl ?_
    refine mV rfl ?_
    refine rd_op (ov_iaddr rfl rfl (slI r1 (by omega) (by omega))) ?_
    refine lR rfl rfl rfl ?_
    refine bN i_neq rfl rfl ?_
    refine nS ?_
    refine rc_br hres rfl ?_ ?_ <;> clear hres <;> intro c hres <;> try simp only [qa, qaD] at c
    · refine sR ?_
      refine mB rfl ?_
      refine nS ?_
      exact rR hres rfl rfl rfl
    · refine rc_skip ?_
      refine pn_blk ?_
      refine pn_seq ?_
      refine rc_region ?_
      refine mV rfl ?_
      refine bN i_add rfl rfl ?_
      refine mV rfl ?_
      refine rd_nil ?_
      refine pn_again ?_
      have hbd := sl_bound r0
      have hinc : wr (a0 + 1) = a0 + 1 := wr_of (by omega) (by omega)
      erw [hinc]
      exact wC (ih   (by omega) (by omega) hres) rfl

theorem f19_ok {x0 x1 : List Int} {v0 v1 : PV} (r0 : (tSl tI).R x0 v0) (r1 : (tSl tI).R x1 v1) : FnR Try.prog 19 [v0, v1] (vb (ref06_EqualInts x0 x1)) := by
  refine fnS (R := RF19) text19 (fun _ h => h) rfl fun res hres => ?_
  unfold ref06_EqualInts at hres
  refine sR ?_
  refine mB rfl ?_
  refine nS ?_
  refine rc_seq ?_
  refine sR ?_
  refine mV rfl ?_
  refine rd_op (ov_bi rfl (sl_len r0 Try.underlying31 _)) ?_
  refine mV rfl ?_
  refine rd_op (ov_bi rfl (sl_len r1 Try.underlying31 _)) ?_
  refine bN i_neq rfl rfl ?_
  refine nS ?_
  refine rc_br hres rfl ?_ ?_ <;> clear hres <;> intro a0 hres <;> have a1 := a0 <;> try simp only [qa, qaD] at a1
  · refine sR ?_
    refine mB rfl ?_
    refine nS ?_
    exact rR hres rfl rfl rfl
  · refine rc_skip ?_
    refine pn_seq ?_
    refine rc_seq ?_
    refine sR ?_
    refine mI rfl ?_
    refine nS ?_
    refine rc_block ?_
    refine wC (ref06_EqualInts_L1_ok r0 r1 a0 ?_  rfl (by omega) hres) rfl
    · intro  hres
      refine px_blk ?_
      refine pn_seq ?_
      refine sR ?_
      refine mB rfl ?_
      refine nS ?_
      exact rR hres rfl rfl rfl

def RF14 (res : Bool) (r : PV) : Prop := r = vb res
theorem ref06_EqualBools_L1_ok {S : List Fr} {res : Bool} {x0 : List Bool} {x1 : List Bool} {v0 v1 : PV} (r0 : (tSl tB).R x0 v0) (r1 : (tSl tB).R x1 v1) (a3 : (!decide ((x0.length : Int) = (x1.length : Int))) = false) {K0 : Unit → Bool}
    (a5 : K0 () = res → PX Try.prog 0 S (QR Try.prog [(4, none)] (RF14 res)) [] ⟨0, []⟩) :
    ∀ {m : Nat} {a0 : Int} (a4 : m = Int.toNat ((x0.length : Int) - a0)) (a2 : 0 ≤ a0), ref06_EqualBools_L1 x0 x1 K0 m a0 = res → RC Try.prog (.loop ac14_L1) S (QR Try.prog [(4, none)] (RF14 res)) [(5, vi a0), (1, v1), (0, v0)] ⟨0, []⟩ := by
  have a1 := a3
  try simp only [qa, qaD] at a1
  intro m
  induction m with
  | zero =>
    intro a0 a4 a2 hres
    rw [ref06_EqualBools_L1] at hres
    refine rc_loop ?_
    refine rc_seq ?_
    refine sR ?_
    refine mV rfl ?_
    refine mV rfl ?_
    refine rd_op (ov_bi rfl (sl_len r0 Try.underlying28 _)) ?_
    refine bN i_lss rfl rfl ?_
    refine nS ?_
    refine rc_cond rfl ?_ ?_ <;> intro c <;> try simp only [qa, qaD] at c
    · omega
    refine rc_exit ?_
    refine px_seq ?_
    refine px_again ?_
    exact wP (a5  hres) rfl
  | succ m ih =>
    intro a0 a4 a2 hres
    rw [ref06_EqualBools_L1] at hres
    refine rc_loop ?_
    refine rc_seq ?_
    refine sR ?_
    refine mV rfl ?_
    refine mV rfl ?_
    refine rd_op (ov_bi rfl (sl_len r0 Try.underlying28 _)) ?_
    refine bN i_lss rfl rfl ?_
    refine nS ?_
    refine rc_cond rfl ?_ ?_ <;> intro c <;> try simp only [qa, qaD] at c
    rotate_left
    · omega
    refine rc_skip ?_
    refine pn_seq ?_
    refine rc_seq ?_
    refine rc_block ?_
    refine sR ?_
    refine mV rfl ?_
    refine mV rfl ?_
    refine rd_op (ov_iaddr rfl rfl (slB r0 (by omega) (by omega))) ?_
    refine lR rfl rfl rfl ?_
    refine mV rfl ?_
    refine mV rfl ?_
    refine rd_op (ov_iaddr rfl rfl (slB r1 (by omega) (by omega))) ?_
    refine lR rfl rfl rfl ?_
    refine bN (bin_neqb (by rw [Try.underlying4]; rfl)) rfl rfl ?_
    refine nS ?_
    refine rc_br hres rfl ?_ ?_ <;> clear hres <;> intro c hres <;> try simp only [qa, qaD] at c
    · refine sR ?_
      refine mB rfl ?_
      refine nS ?_
      exact rR hres rfl rfl rfl
    · refine rc_skip ?_
      refine pn_blk ?_
      refine pn_seq ?_
      refine rc_region ?_
      refine mV rfl ?_
      refine bN i_add rfl rfl ?_
      refine mV rfl ?_
      refine rd_nil ?_
      refine pn_again ?_
      have hbd := sl_bound r0
      have hinc : wr (a0 + 1) = a0 + 1 := wr_of (by omega) (by omega)
      erw [hinc]
      exact wC (ih   (by omega) (by omega) hres) rfl

theorem f14_ok {x0 : List Bool} {x1 : List Bool} {v0 v1 : PV} (r0 : (tSl tB).R x0 v0) (r1 : (tSl tB).R x1 v1) : FnR Try.prog 14 [v0, v1] (vb (ref06_EqualBools x0 x1)) := by
  refine fnS (R := RF14) text14 (fun _ h => h) rfl fun res hres => ?_
  unfold ref06_EqualBools at hres
  refine sR ?_
  refine mB rfl ?_
  refine nS ?_
  refine rc_seq ?_
  refine sR ?_
  refine mV rfl ?_
  refine rd_op (ov_bi rfl (sl_len r0 Try.underlying28 _)) ?_
  refine mV rfl ?_
  refine rd_op (ov_bi rfl (sl_len r1 Try.underlying28 _)) ?_
  refine bN i_neq rfl rfl ?_
  refine nS ?_
  refine rc_br hres rfl ?_ ?_ <;> clear hres <;> intro a0 hres <;> have a1 := a0 <;> try simp only [qa, qaD] at a1
  · refine sR ?_
    refine mB rfl ?_
    refine nS ?_
    exact rR hres rfl rfl rfl
  · refine rc_skip ?_
    refine pn_seq ?_
    refine rc_seq ?_
    refine sR ?_
    refine mI rfl ?_
    refine nS ?_
    refine rc_block ?_
    refine wC (ref06_EqualBools_L1_ok r0 r1 a0 ?_  rfl (by omega) hres) rfl
    · intro  hres
      refine px_blk ?_
      refine pn_seq ?_
      refine sR ?_
      refine mB rfl ?_
      refine nS ?_
      exact rR hres rfl rfl rfl

def RF28 (res : Bool) (r : PV) : Prop := r = vb res
theorem ref06_EqualGraphs_L1_ok {S : List Fr} {res : Bool} {x0 : List (List Int)} {x1 : List (List Int)} {v0 v1 : PV} (r0 : (tSl (tSl tI)).R x0 v0) (r1 : (tSl (tSl tI)).R x1 v1) (a6 : (!decide ((x0.length : Int) = (x1.length : Int))) = false) {K0 : Unit → Bool}
    (b1 : K0 () = res → PX Try.prog 0 S (QR Try.prog [(4, none)] (RF28 res)) [] ⟨0, []⟩) :
    ∀ {m : Nat} {a0 : Int} (b0 : m = Int.toNat ((x0.length : Int) - a0)) (a5 : 0 ≤ a0), ref06_EqualGraphs_L1 x0 x1 K0 m a0 = res → RC Try.prog (.loop ac28_L1) S (QR Try.prog [(4, none)] (RF28 res)) [(5, vi a0), (1, v1), (0, v0)] ⟨0, []⟩ := by
  have a2 := a6
  try simp only [qa, qaD] at a2
  intro m
  induction m with
  | zero =>
    intro a0 b0 a5 hres
    rw [ref06_EqualGraphs_L1] at hres
    refine rc_loop ?_
    refine rc_seq ?_
    refine sR ?_
    refine mV rfl ?_
    refine mV rfl ?_
    refine rd_op (ov_bi rfl (sl_len r0 Try.underlying22 _)) ?_
    refine bN i_lss rfl rfl ?_
    refine nS ?_
    refine rc_cond rfl ?_ ?_ <;> intro c <;> try simp only [qa, qaD] at c
    · omega
    refine rc_exit ?_
    refine px_seq ?_
    refine px_again ?_
    exact wP (b1  hres) rfl
  | succ m ih =>
    intro a0 b0 a5 hres
    rw [ref06_EqualGraphs_L1] at hres
    refine rc_loop ?_
    refine rc_seq ?_
    refine sR ?_
    refine mV rfl ?_
    refine mV rfl ?_
    refine rd_op (ov_bi rfl (sl_len r0 Try.underlying22 _)) ?_
    refine bN i_lss rfl rfl ?_
    refine nS ?_
    refine rc_cond rfl ?_ ?_ <;> intro c <;> try simp only [qa, qaD] at c
    rotate_left
    · omega
    refine rc_skip ?_
    refine pn_seq ?_
    refine rc_seq ?_
    refine rc_block ?_
    refine sR ?_
    refine mV rfl ?_
    refine mV rfl ?_
    obtain ⟨b4, a9, a1⟩ := sl_idx (i := a0) r0 (by omega) (by omega)
    refine rd_op (ov_iaddr rfl rfl a9) ?_
    refine lD a1 rfl rfl rfl ?_
    refine mV rfl ?_
    refine mV rfl ?_
    obtain ⟨b2, a8, a3⟩ := sl_idx (i := a0) r1 (by omega) (by omega)
    refine rd_op (ov_iaddr rfl rfl a8) ?_
    refine lD a3 rfl rfl rfl ?_
    obtain ⟨b3, a7, hres⟩ := let_ex hres
    have a4 := f19_ok  a1 a3 
    rw [a7] at a4
    refine cL a4 rfl rfl (clL_cons (TR.clo (tSl tI) a1) (clL_cons (TR.clo (tSl tI) a3) clL_nil)) ?_
    refine rd_op (ov_not rfl) ?_
    refine nS ?_
    refine rc_br hres rfl ?_ ?_ <;> clear hres <;> intro c hres <;> try simp only [qa, qaD] at c
    · refine sR ?_
      refine mB rfl ?_
      refine nS ?_
      exact rR hres rfl rfl rfl
    · refine rc_skip ?_
      refine pn_blk ?_
      refine pn_seq ?_
      refine rc_region ?_
      refine mV rfl ?_
      refine bN i_add rfl rfl ?_
      refine mV rfl ?_
      refine rd_nil ?_
      refine pn_again ?_
      have hbd := sl_bound r0
      have hinc : wr (a0 + 1) = a0 + 1 := wr_of (by omega) (by omega)
      erw [hinc]
      exact wC (ih   (by omega) (by omega) hres) rfl

theorem f28_ok {x0 : List (List Int)} {x1 : List (List Int)} {v0 v1 : PV} (r0 : (tSl (tSl tI)).R x0 v0) (r1 : (tSl (tSl tI)).R x1 v1) : FnR Try.prog 28 [v0, v1] (vb (ref06_EqualGraphs x0 x1)) := by
  refine fnS (R := RF28) text28 (fun _ h => h) rfl fun res hres => ?_
  unfold ref06_EqualGraphs at hres
  refine sR ?_
  refine mB rfl ?_
  refine nS ?_
  refine rc_seq ?_
  refine sR ?_
  refine mV rfl ?_
  refine rd_op (ov_bi rfl (sl_len r0 Try.underlying22 _)) ?_
  refine mV rfl ?_
  refine rd_op (ov_bi rfl (sl_len r1 Try.underlying22 _)) ?_
  refine bN i_neq rfl rfl ?_
  refine nS ?_
  refine rc_br hres rfl ?_ ?_ <;> clear hres <;> intro a0 hres <;> have a1 := a0 <;> try simp only [qa, qaD] at a1
  · refine sR ?_
    refine mB rfl ?_
    refine nS ?_
    exact rR hres rfl rfl rfl
  · refine rc_skip ?_
    refine pn_seq ?_
    refine rc_seq ?_
    refine sR ?_
    refine mI rfl ?_
    refine nS ?_
    refine rc_block ?_
    refine wC (ref06_EqualGraphs_L1_ok r0 r1 a0 ?_  rfl (by omega) hres) rfl
    · intro  hres
      refine px_blk ?_
      refine pn_seq ?_
      refine sR ?_
      refine mB rfl ?_
      refine nS ?_
      exact rR hres rfl rfl rfl

def RF10 (res : Int) (r : PV) : Prop := r = vi res
theorem digraph_Check_L2_ok {S : List Fr} {res : Int} {x0 : List (List Int)} {a1 : Int} {v0 a9 : PV} (r0 : (tSl (tSl tI)).R x0 v0) (a7 : (decide (4096 < (x0.length : Int))) = false) (b2 : 0 ≤ a1) (a4 : (decide (a1 < (x0.length : Int))) = true) (a5 : (tSl tI).R (ix x0 a1) a9) {K2 : Unit → Int}
    (b4 : K2 () = res → PX Try.prog 2 S (QR Try.prog [(2, none)] (RF10 res)) [(0, v0), (10, v0), (11, vi (x0.length : Int)), (12, vi a1)] ⟨0, []⟩) :
    ∀ {m : Nat} {a0 : Int} (b1 : m = Int.toNat (((ix x0 a1).length : Int) - a0)) (b0 : 0 ≤ a0), digraph_Check_L2 x0 a1 K2 m a0 = res → RC Try.prog (.loop ac10_L2) S (QR Try.prog [(2, none)] (RF10 res)) [(18, vi a0), (17, vi ((ix x0 a1).length : Int)), (16, a9), (12, vi a1), (11, vi (x0.length : Int)), (10, v0), (0, v0)] ⟨0, []⟩ := by
  have a2 := a7
  try simp only [qa, qaD] at a2
  have a3 := a4
  try simp only [qa, qaD] at a3
  intro m
  induction m with
  | zero =>
    intro a0 b1 b0 hres
    rw [digraph_Check_L2] at hres
    refine rc_loop ?_
    refine sR ?_
    refine bN i_lss rfl rfl ?_
    refine nS ?_
    refine rc_seq ?_
    refine rc_cond rfl ?_ ?_ <;> intro c <;> try simp only [qa, qaD] at c
    · omega
    refine rc_exit ?_
    refine px_seq ?_
    refine px_again ?_
    exact wP (b4  hres) rfl
  | succ m ih =>
    intro a0 b1 b0 hres
    rw [digraph_Check_L2] at hres
    refine rc_loop ?_
    refine sR ?_
    refine bN i_lss rfl rfl ?_
    refine nS ?_
    refine rc_seq ?_
    refine rc_cond rfl ?_ ?_ <;> intro c <;> try simp only [qa, qaD] at c
    rotate_left
    · omega
    refine rc_skip ?_
    refine pn_seq ?_
    refine rc_seq ?_
    refine rc_block ?_
    refine sR ?_
    refine rd_op (ov_iaddr rfl rfl (slI a5 (by omega) (by omega))) ?_
    refine lR rfl rfl rfl ?_
    refine mV rfl ?_
    refine nR ?_
    refine mV rfl ?_
    refine mV rfl ?_
    obtain ⟨b3, a6, hres⟩ := let_ex hres
    have a8 := f33_ok (x1 := (ix (ix x0 a1) a0)) r0 
    rw [a6] at a8
    refine cL a8 rfl rfl (clL_cons (TR.clo (tSl (tSl tI)) r0) (clL_cons rfl clL_nil)) ?_
    refine rd_op (ov_not rfl) ?_
    refine nS ?_
    refine rc_br hres rfl ?_ ?_ <;> clear hres <;> intro c hres <;> try simp only [qa, qaD] at c
    · refine sR ?_
      refine mI rfl ?_
      refine nS ?_
      exact rR hres rfl rfl rfl
    · refine rc_skip ?_
      refine pn_blk ?_
      refine pn_seq ?_
      refine rc_region ?_
      refine bN i_add rfl rfl ?_
      refine mV rfl ?_
      refine rd_nil ?_
      refine pn_again ?_
      have hbd := sl_bound a5
      have hinc : wr (a0 + 1) = a0 + 1 := wr_of (by omega) (by omega)
      erw [hinc]
      exact wC (ih   (by omega) (by omega) hres) rfl

theorem digraph_Check_L1_ok {S : List Fr} {res : Int} {x0 : List (List Int)} {v0 : PV} (r0 : (tSl (tSl tI)).R x0 v0) (a2 : (decide (4096 < (x0.length : Int))) = false) {K0 : Unit → Int}
    (a9 : K0 () = res → PX Try.prog 0 S (QR Try.prog [(2, none)] (RF10 res)) [] ⟨0, []⟩) :
    ∀ {m : Nat} {a0 : Int} (a8 : m = Int.toNat ((x0.length : Int) - a0)) (a4 : 0 ≤ a0), digraph_Check_L1 x0 K0 m a0 = res → RC Try.prog (.loop ac10_L1) S (QR Try.prog [(2, none)] (RF10 res)) [(12, vi a0), (11, vi (x0.length : Int)), (10, v0), (0, v0)] ⟨0, []⟩ := by
  have a5 := a2
  try simp only [qa, qaD] at a5
  intro m
  induction m with
  | zero =>
    intro a0 a8 a4 hres
    rw [digraph_Check_L1] at hres
    refine rc_loop ?_
    refine sR ?_
    refine bN i_lss rfl rfl ?_
    refine nS ?_
    refine rc_seq ?_
    refine rc_cond rfl ?_ ?_ <;> intro c <;> try simp only [qa, qaD] at c
    · omega
    refine rc_exit ?_
    refine px_seq ?_
    refine px_again ?_
    exact wP (a9  hres) rfl
  | succ m ih =>
    intro a0 a8 a4 hres
    rw [digraph_Check_L1] at hres
    refine rc_loop ?_
    refine sR ?_
    refine bN i_lss rfl rfl ?_
    refine nS ?_
    refine rc_seq ?_
    refine rc_cond rfl (fun a1 => ?_) (fun a1 => ?_)
    · have hgo := hres
      have a6 := a1
      try simp only [qa, qaD] at a6
      refine rc_skip ?_
      refine pn_seq ?_
      refine rc_seq ?_
      refine rc_block ?_
      refine sR ?_
      obtain ⟨b0, a7, a3⟩ := sl_idx (i := a0) r0 (by omega) (by omega)
      refine rd_op (ov_iaddr rfl rfl a7) ?_
      refine lD a3 rfl rfl rfl ?_
      refine mV rfl ?_
      refine nR ?_
      refine mV rfl ?_
      refine rd_op (ov_bi rfl (sl_len a3 Try.underlying31 _)) ?_
      refine mI rfl ?_
      refine nS ?_
      refine rc_block ?_
      refine wC (digraph_Check_L2_ok r0 a2 a4 a1 a3 ?_  rfl (by omega) hres) rfl
      · intro  hres
        refine px_blk ?_
        refine pn_blk ?_
        refine pn_seq ?_
        refine rc_region ?_
        refine bN i_add rfl rfl ?_
        refine mV rfl ?_
        refine rd_nil ?_
        refine pn_again ?_
        have hbd := sl_bound r0
        have hinc : wr (a0 + 1) = a0 + 1 := wr_of (by omega) (by omega)
        erw [hinc]
        exact wC (ih   (by omega) (by omega) hres) rfl
    · exfalso
      try simp only [qa, qaD] at a1
      omega

theorem f10_ok {x0 : List (List Int)} {v0 : PV} (r0 : (tSl (tSl tI)).R x0 v0) : FnR Try.prog 10 [v0] (vi (digraph_Check x0)) := by
  refine fnS (R := RF10) text10 (fun _ h => h) rfl fun res hres => ?_
  unfold digraph_Check at hres
  refine sR ?_
  refine mI rfl ?_
  refine nS ?_
  refine rc_seq ?_
  refine sR ?_
  refine mV rfl ?_
  refine rd_op (ov_bi rfl (sl_len r0 Try.underlying22 _)) ?_
  refine bN i_gtr rfl rfl ?_
  refine nS ?_
  refine rc_br hres rfl ?_ ?_ <;> clear hres <;> intro a0 hres <;> have a1 := a0 <;> try simp only [qa, qaD] at a1
  · refine sR ?_
    refine mI rfl ?_
    refine nS ?_
    exact rR hres rfl rfl rfl
  · refine rc_skip ?_
    refine pn_seq ?_
    refine rc_seq ?_
    refine sR ?_
    refine mV rfl ?_
    refine rd_op (ov_bi rfl (sl_len r0 Try.underlying22 _)) ?_
    refine mI rfl ?_
    refine nS ?_
    refine rc_block ?_
    refine wC (digraph_Check_L1_ok r0 a0 ?_  rfl (by omega) hres) rfl
    · intro  hres
      refine px_blk ?_
      refine pn_seq ?_
      refine sR ?_
      refine mI rfl ?_
      refine nS ?_
      exact rR hres rfl rfl rfl

def RF12 (res : Bool) (r : PV) : Prop := r = vb res
theorem f12_ok : FnR Try.prog 12 [] (vb law06_works) := by
  refine fnS (R := RF12) text12 (fun _ h => h) rfl fun res hres => ?_
  unfold law06_works at hres
  refine sR ?_
  refine mB rfl ?_
  refine nR ?_
  refine rd_op (v := .fs true [vi 1, vi 2]) (ov_bslice rfl (all_cons rfl (all_cons rfl all_nil))) ?_
  have d9 : (tSl tI).R ([1, 2] : List Int) (.fs true [vi 1, vi 2]) := sl_fs ⟨rfl, ⟨rfl, trivial⟩⟩ (by simp)
  refine rd_op (v := .fs true [vi 3]) (ov_bslice rfl (all_cons rfl all_nil)) ?_
  have e6 : (tSl tI).R ([3] : List Int) (.fs true [vi 3]) := sl_fs ⟨rfl, trivial⟩ (by simp)
  refine rd_op (v := .fs true [vi 3]) (ov_bslice rfl (all_cons rfl all_nil)) ?_
  have g5 : (tSl tI).R ([3] : List Int) (.fs true [vi 3]) := sl_fs ⟨rfl, trivial⟩ (by simp)
  refine rd_op (v := .fs true []) (ov_bslice rfl all_nil) ?_
  have d8 : (tSl tI).R ([] : List Int) (.fs true []) := sl_fs trivial (by simp)
  refine rd_op (v := .fs true [.fs true [vi 1, vi 2], .fs true [vi 3], .fs true [vi 3], .fs true []]) (ov_bslice rfl (all_cons (TR.cnt (tSl tI) d9) (all_cons (TR.cnt (tSl tI) e6) (all_cons (TR.cnt (tSl tI) g5) (all_cons (TR.cnt (tSl tI) d8) all_nil))))) ?_
  have a5 : (tSl (tSl tI)).R ([([1, 2] : List Int), ([3] : List Int), ([3] : List Int), ([] : List Int)] : List (List Int)) (.fs true [.fs true [vi 1, vi 2], .fs true [vi 3], .fs true [vi 3], .fs true []]) := sl_fs ⟨d9, ⟨e6, ⟨g5, ⟨d8, trivial⟩⟩⟩⟩ (by simp)
  refine mV rfl ?_
  refine nR ?_
  refine mV rfl ?_
  obtain ⟨a3, e2, hres⟩ := let_ex hres
  obtain ⟨i6, e8, b3⟩ := f17_ok (x1 := 0) (x2 := 3) a5 (by first | omega | exact sm_of (by decide))
  rw [e2] at e8 b3
  refine cL e8 rfl rfl (clL_cons (TR.clo (tSl (tSl tI)) a5) (clL_cons rfl (clL_cons rfl clL_nil))) ?_
  refine mV rfl ?_
  refine xT rfl rfl ?_
  refine xT rfl rfl ?_
  refine mV rfl ?_
  refine mV rfl ?_
  refine nR ?_
  refine mV rfl ?_
  obtain ⟨a0, d5, hres⟩ := let_ex hres
  obtain ⟨i2, f0, b9⟩ := f20_ok  a5 (by first | omega | exact sm_of (by decide))
  rw [d5] at f0 b9
  refine cL f0 rfl rfl (clL_cons (TR.clo (tSl (tSl tI)) a5) clL_nil) ?_
  refine mV rfl ?_
  refine xT rfl rfl ?_
  refine xT rfl rfl ?_
  refine mV rfl ?_
  refine mV rfl ?_
  refine nR ?_
  refine mV rfl ?_
  obtain ⟨a1, d2, hres⟩ := let_ex hres
  obtain ⟨i3, f8, b5⟩ := f22_ok  a5 (by first | omega | exact sm_of (by decide))
  rw [d2] at f8 b5
  refine cL f8 rfl rfl (clL_cons (TR.clo (tSl (tSl tI)) a5) clL_nil) ?_
  refine mV rfl ?_
  refine xT rfl rfl ?_
  refine xT rfl rfl ?_
  refine mV rfl ?_
  refine mV rfl ?_
  refine nR ?_
  refine mV rfl ?_
  obtain ⟨a4, c9, hres⟩ := let_ex hres
  obtain ⟨i7, e1, c2⟩ := f24_ok  a5 (by first | omega | exact sm_of (by decide))
  rw [c9] at e1 c2
  refine cL e1 rfl rfl (clL_cons (TR.clo (tSl (tSl tI)) a5) clL_nil) ?_
  refine mV rfl ?_
  refine xT rfl rfl ?_
  refine xT rfl rfl ?_
  refine mV rfl ?_
  refine mV rfl ?_
  refine nR ?_
  refine rd_op (v := .fs true [vi 1]) (ov_bslice rfl (all_cons rfl all_nil)) ?_
  have e0 : (tSl tI).R ([1] : List Int) (.fs true [vi 1]) := sl_fs ⟨rfl, trivial⟩ (by simp)
  refine rd_op (v := .fs true [vi 2]) (ov_bslice rfl (all_cons rfl all_nil)) ?_
  have g8 : (tSl tI).R ([2] : List Int) (.fs true [vi 2]) := sl_fs ⟨rfl, trivial⟩ (by simp)
  refine rd_op (v := .fs true [vi 1]) (ov_bslice rfl (all_cons rfl all_nil)) ?_
  have g7 : (tSl tI).R ([1] : List Int) (.fs true [vi 1]) := sl_fs ⟨rfl, trivial⟩ (by simp)
  refine rd_op (v := .fs true [.fs true [vi 1], .fs true [vi 2], .fs true [vi 1]]) (ov_bslice rfl (all_cons (TR.cnt (tSl tI) e0) (all_cons (TR.cnt (tSl tI) g8) (all_cons (TR.cnt (tSl tI) g7) all_nil)))) ?_
  have e3 : (tSl (tSl tI)).R ([([1] : List Int), ([2] : List Int), ([1] : List Int)] : List (List Int)) (.fs true [.fs true [vi 1], .fs true [vi 2], .fs true [vi 1]]) := sl_fs ⟨e0, ⟨g8, ⟨g7, trivial⟩⟩⟩ (by simp)
  obtain ⟨a6, e9, hres⟩ := let_ex hres
  obtain ⟨i5, h5, c5⟩ := f26_ok  e3 (by first | omega | exact sm_of (by decide))
  rw [e9] at c5
  refine cL h5 rfl rfl (clL_cons (TR.clo (tSl (tSl tI)) e3) clL_nil) ?_
  refine mV rfl ?_
  refine nR ?_
  refine mV rfl ?_
  obtain ⟨a7, f2, hres⟩ := let_ex hres
  obtain ⟨i8, h7, b6⟩ := f15_ok (x1 := 1) a5 (by first | omega | exact sm_of (by decide))
  rw [f2] at b6
  refine cL h7 rfl rfl (clL_cons (TR.clo (tSl (tSl tI)) a5) (clL_cons rfl clL_nil)) ?_
  refine mV rfl ?_
  refine nR ?_
  refine mV rfl ?_
  refine rd_op (v := .fs true [vi 0, vi 1, vi 3]) (ov_bslice rfl (all_cons rfl (all_cons rfl (all_cons rfl all_nil)))) ?_
  have d4 : (tSl tI).R ([0, 1, 3] : List Int) (.fs true [vi 0, vi 1, vi 3]) := sl_fs ⟨rfl, ⟨rfl, ⟨rfl, trivial⟩⟩⟩ (by simp)
  obtain ⟨a2, g3, hres⟩ := let_ex hres
  have d0 := f19_ok  b3 d4 
  rw [g3] at d0
  refine cL d0 rfl rfl (clL_cons (TR.clo (tSl tI) b3) (clL_cons (TR.clo (tSl tI) d4) clL_nil)) ?_
  refine mV rfl ?_
  refine rd_cutn 2 (d := 49) (v := vb (a2 && a3.2)) ?_ ?_
  · intro S Q r
    cases h1 : a2
    · exact gN 1 rfl rfl rfl rfl rfl rfl
    · intro k
      have b4 := h1
      try simp only [qa, qaD] at b4
      refine rd_yes rfl rfl (ov_move rfl) ?_
      exact gK rfl rfl rfl rfl rfl k
  refine mV rfl ?_
  refine rd_cutn 4 (d := 54) (v := vb ((a2 && a3.2) && (ref06_EqualInts a0.1 ([0, 1, 2, 3] : List Int)))) ?_ ?_
  · intro S Q r
    cases e5 : (a2 && a3.2)
    · exact gN 3 rfl rfl rfl rfl rfl rfl
    · intro k
      have c3 := e5
      try simp only [qa, qaD] at c3
      refine rd_yes rfl rfl (ov_move rfl) ?_
      refine rd_yes (v := .fs true [vi 0, vi 1, vi 2, vi 3]) rfl rfl (ov_bslice rfl (all_cons rfl (all_cons rfl (all_cons rfl (all_cons rfl all_nil))))) ?_
      have h0 : (tSl tI).R ([0, 1, 2, 3] : List Int) (.fs true [vi 0, vi 1, vi 2, vi 3]) := sl_fs ⟨rfl, ⟨rfl, ⟨rfl, ⟨rfl, trivial⟩⟩⟩⟩ (by simp)
      have i1 := f19_ok  b9 h0 
      refine rd_ycall rfl rfl (cv_fn rfl rfl (clL_cons (TR.clo (tSl tI) b9) (clL_cons (TR.clo (tSl tI) h0) clL_nil)) i1) ?_
      exact gK rfl rfl rfl rfl rfl k
  refine mV rfl ?_
  refine rd_cutn 2 (d := 57) (v := vb (((a2 && a3.2) && (ref06_EqualInts a0.1 ([0, 1, 2, 3] : List Int))) && a0.2)) ?_ ?_
  · intro S Q r
    cases d1 : ((a2 && a3.2) && (ref06_EqualInts a0.1 ([0, 1, 2, 3] : List Int)))
    · exact gN 1 rfl rfl rfl rfl rfl rfl
    · intro k
      have b7 := d1
      try simp only [qa, qaD] at b7
      refine rd_yes rfl rfl (ov_move rfl) ?_
      exact gK rfl rfl rfl rfl rfl k
  refine mV rfl ?_
  refine rd_cutn 4 (d := 62) (v := vb ((((a2 && a3.2) && (ref06_EqualInts a0.1 ([0, 1, 2, 3] : List Int))) && a0.2) && (ref06_EqualInts a1.1 ([0, 1, 1, 2] : List Int)))) ?_ ?_
  · intro S Q r
    cases g9 : (((a2 && a3.2) && (ref06_EqualInts a0.1 ([0, 1, 2, 3] : List Int))) && a0.2)
    · exact gN 3 rfl rfl rfl rfl rfl rfl
    · intro k
      have a9 := g9
      try simp only [qa, qaD] at a9
      refine rd_yes rfl rfl (ov_move rfl) ?_
      refine rd_yes (v := .fs true [vi 0, vi 1, vi 1, vi 2]) rfl rfl (ov_bslice rfl (all_cons rfl (all_cons rfl (all_cons rfl (all_cons rfl all_nil))))) ?_
      have g1 : (tSl tI).R ([0, 1, 1, 2] : List Int) (.fs true [vi 0, vi 1, vi 1, vi 2]) := sl_fs ⟨rfl, ⟨rfl, ⟨rfl, ⟨rfl, trivial⟩⟩⟩⟩ (by simp)
      have h8 := f19_ok  b5 g1 
      refine rd_ycall rfl rfl (cv_fn rfl rfl (clL_cons (TR.clo (tSl tI) b5) (clL_cons (TR.clo (tSl tI) g1) clL_nil)) h8) ?_
      exact gK rfl rfl rfl rfl rfl k
  refine mV rfl ?_
  refine rd_cutn 2 (d := 65) (v := vb (((((a2 && a3.2) && (ref06_EqualInts a0.1 ([0, 1, 2, 3] : List Int))) && a0.2) && (ref06_EqualInts a1.1 ([0, 1, 1, 2] : List Int))) && a1.2)) ?_ ?_
  · intro S Q r
    cases g6 : ((((a2 && a3.2) && (ref06_EqualInts a0.1 ([0, 1, 2, 3] : List Int))) && a0.2) && (ref06_EqualInts a1.1 ([0, 1, 1, 2] : List Int)))
    · exact gN 1 rfl rfl rfl rfl rfl rfl
    · intro k
      have b8 := g6
      try simp only [qa, qaD] at b8
      refine rd_yes rfl rfl (ov_move rfl) ?_
      exact gK rfl rfl rfl rfl rfl k
  refine mV rfl ?_
  refine rd_cutn 4 (d := 70) (v := vb ((((((a2 && a3.2) && (ref06_EqualInts a0.1 ([0, 1, 2, 3] : List Int))) && a0.2) && (ref06_EqualInts a1.1 ([0, 1, 1, 2] : List Int))) && a1.2) && (ref06_EqualInts a4.1 ([0, 1, 3] : List Int)))) ?_ ?_
  · intro S Q r
    cases f7 : (((((a2 && a3.2) && (ref06_EqualInts a0.1 ([0, 1, 2, 3] : List Int))) && a0.2) && (ref06_EqualInts a1.1 ([0, 1, 1, 2] : List Int))) && a1.2)
    · exact gN 3 rfl rfl rfl rfl rfl rfl
    · intro k
      have b2 := f7
      try simp only [qa, qaD] at b2
      refine rd_yes rfl rfl (ov_move rfl) ?_
      refine rd_yes (v := .fs true [vi 0, vi 1, vi 3]) rfl rfl (ov_bslice rfl (all_cons rfl (all_cons rfl (all_cons rfl all_nil)))) ?_
      have g2 : (tSl tI).R ([0, 1, 3] : List Int) (.fs true [vi 0, vi 1, vi 3]) := sl_fs ⟨rfl, ⟨rfl, ⟨rfl, trivial⟩⟩⟩ (by simp)
      have h3 := f19_ok  c2 g2 
      refine rd_ycall rfl rfl (cv_fn rfl rfl (clL_cons (TR.clo (tSl tI) c2) (clL_cons (TR.clo (tSl tI) g2) clL_nil)) h3) ?_
      exact gK rfl rfl rfl rfl rfl k
  refine mV rfl ?_
  refine rd_cutn 2 (d := 73) (v := vb (((((((a2 && a3.2) && (ref06_EqualInts a0.1 ([0, 1, 2, 3] : List Int))) && a0.2) && (ref06_EqualInts a1.1 ([0, 1, 1, 2] : List Int))) && a1.2) && (ref06_EqualInts a4.1 ([0, 1, 3] : List Int))) && a4.2)) ?_ ?_
  · intro S Q r
    cases d7 : ((((((a2 && a3.2) && (ref06_EqualInts a0.1 ([0, 1, 2, 3] : List Int))) && a0.2) && (ref06_EqualInts a1.1 ([0, 1, 1, 2] : List Int))) && a1.2) && (ref06_EqualInts a4.1 ([0, 1, 3] : List Int)))
    · exact gN 1 rfl rfl rfl rfl rfl rfl
    · intro k
      have c4 := d7
      try simp only [qa, qaD] at c4
      refine rd_yes rfl rfl (ov_move rfl) ?_
      exact gK rfl rfl rfl rfl rfl k
  refine mV rfl ?_
  refine rd_cutn 4 (d := 78) (v := vb ((((((((a2 && a3.2) && (ref06_EqualInts a0.1 ([0, 1, 2, 3] : List Int))) && a0.2) && (ref06_EqualInts a1.1 ([0, 1, 1, 2] : List Int))) && a1.2) && (ref06_EqualInts a4.1 ([0, 1, 3] : List Int))) && a4.2) && (ref06_EqualInts a6 ([1, 2] : List Int)))) ?_ ?_
  · intro S Q r
    cases f4 : (((((((a2 && a3.2) && (ref06_EqualInts a0.1 ([0, 1, 2, 3] : List Int))) && a0.2) && (ref06_EqualInts a1.1 ([0, 1, 1, 2] : List Int))) && a1.2) && (ref06_EqualInts a4.1 ([0, 1, 3] : List Int))) && a4.2)
    · exact gN 3 rfl rfl rfl rfl rfl rfl
    · intro k
      have b1 := f4
      try simp only [qa, qaD] at b1
      refine rd_yes rfl rfl (ov_move rfl) ?_
      refine rd_yes (v := .fs true [vi 1, vi 2]) rfl rfl (ov_bslice rfl (all_cons rfl (all_cons rfl all_nil))) ?_
      have f9 : (tSl tI).R ([1, 2] : List Int) (.fs true [vi 1, vi 2]) := sl_fs ⟨rfl, ⟨rfl, trivial⟩⟩ (by simp)
      have h4 := f19_ok  c5 f9 
      refine rd_ycall rfl rfl (cv_fn rfl rfl (clL_cons (TR.clo (tSl tI) c5) (clL_cons (TR.clo (tSl tI) f9) clL_nil)) h4) ?_
      exact gK rfl rfl rfl rfl rfl k
  refine mV rfl ?_
  refine rd_cutn 4 (d := 83) (v := vb (((((((((a2 && a3.2) && (ref06_EqualInts a0.1 ([0, 1, 2, 3] : List Int))) && a0.2) && (ref06_EqualInts a1.1 ([0, 1, 1, 2] : List Int))) && a1.2) && (ref06_EqualInts a4.1 ([0, 1, 3] : List Int))) && a4.2) && (ref06_EqualInts a6 ([1, 2] : List Int))) && (ref06_EqualBools a7 ([false, true, false, true] : List Bool)))) ?_ ?_
  · intro S Q r
    cases c8 : ((((((((a2 && a3.2) && (ref06_EqualInts a0.1 ([0, 1, 2, 3] : List Int))) && a0.2) && (ref06_EqualInts a1.1 ([0, 1, 1, 2] : List Int))) && a1.2) && (ref06_EqualInts a4.1 ([0, 1, 3] : List Int))) && a4.2) && (ref06_EqualInts a6 ([1, 2] : List Int)))
    · exact gN 3 rfl rfl rfl rfl rfl rfl
    · intro k
      have b0 := c8
      try simp only [qa, qaD] at b0
      refine rd_yes rfl rfl (ov_move rfl) ?_
      refine rd_yes (v := .fs true [vb false, vb true, vb false, vb true]) rfl rfl (ov_bslice rfl (all_cons rfl (all_cons rfl (all_cons rfl (all_cons rfl all_nil))))) ?_
      have d6 : (tSl tB).R ([false, true, false, true] : List Bool) (.fs true [vb false, vb true, vb false, vb true]) := sl_fs ⟨rfl, ⟨rfl, ⟨rfl, ⟨rfl, trivial⟩⟩⟩⟩ (by simp)
      have h9 := f14_ok  b6 d6 
      refine rd_ycall rfl rfl (cv_fn rfl rfl (clL_cons (TR.clo (tSl tB) b6) (clL_cons (TR.clo (tSl tB) d6) clL_nil)) h9) ?_
      exact gK rfl rfl rfl rfl rfl k
  refine mV rfl ?_
  refine rd_cutn 9 (d := 93) (v := vb ((((((((((a2 && a3.2) && (ref06_EqualInts a0.1 ([0, 1, 2, 3] : List Int))) && a0.2) && (ref06_EqualInts a1.1 ([0, 1, 1, 2] : List Int))) && a1.2) && (ref06_EqualInts a4.1 ([0, 1, 3] : List Int))) && a4.2) && (ref06_EqualInts a6 ([1, 2] : List Int))) && (ref06_EqualBools a7 ([false, true, false, true] : List Bool))) && (ref06_EqualGraphs (digraph_Reverse ([([1, 2] : List Int), ([3] : List Int), ([3] : List Int), ([] : List Int)] : List (List Int))) ([([] : List Int), ([0] : List Int), ([0] : List Int), ([1, 2] : List Int)] : List (List Int))))) ?_ ?_
  · intro S Q r
    cases g4 : (((((((((a2 && a3.2) && (ref06_EqualInts a0.1 ([0, 1, 2, 3] : List Int))) && a0.2) && (ref06_EqualInts a1.1 ([0, 1, 1, 2] : List Int))) && a1.2) && (ref06_EqualInts a4.1 ([0, 1, 3] : List Int))) && a4.2) && (ref06_EqualInts a6 ([1, 2] : List Int))) && (ref06_EqualBools a7 ([false, true, false, true] : List Bool)))
    · exact gN 8 rfl rfl rfl rfl rfl rfl
    · intro k
      have c6 := g4
      try simp only [qa, qaD] at c6
      refine rd_yes rfl rfl (ov_move rfl) ?_
      obtain ⟨i4, i0, f5⟩ := f29_ok  a5 (by first | omega | exact sm_of (by decide))
      refine rd_ycall rfl rfl (cv_fn rfl rfl (clL_cons (TR.clo (tSl (tSl tI)) a5) clL_nil) i0) ?_
      refine rd_yes (v := .fs true []) rfl rfl (ov_bslice rfl all_nil) ?_
      have f1 : (tSl tI).R ([] : List Int) (.fs true []) := sl_fs trivial (by simp)
      refine rd_yes (v := .fs true [vi 0]) rfl rfl (ov_bslice rfl (all_cons rfl all_nil)) ?_
      have e4 : (tSl tI).R ([0] : List Int) (.fs true [vi 0]) := sl_fs ⟨rfl, trivial⟩ (by simp)
      refine rd_yes (v := .fs true [vi 0]) rfl rfl (ov_bslice rfl (all_cons rfl all_nil)) ?_
      have f3 : (tSl tI).R ([0] : List Int) (.fs true [vi 0]) := sl_fs ⟨rfl, trivial⟩ (by simp)
      refine rd_yes (v := .fs true [vi 1, vi 2]) rfl rfl (ov_bslice rfl (all_cons rfl (all_cons rfl all_nil))) ?_
      have c7 : (tSl tI).R ([1, 2] : List Int) (.fs true [vi 1, vi 2]) := sl_fs ⟨rfl, ⟨rfl, trivial⟩⟩ (by simp)
      refine rd_yes (v := .fs true [.fs true [], .fs true [vi 0], .fs true [vi 0], .fs true [vi 1, vi 2]]) rfl rfl (ov_bslice rfl (all_cons (TR.cnt (tSl tI) f1) (all_cons (TR.cnt (tSl tI) e4) (all_cons (TR.cnt (tSl tI) f3) (all_cons (TR.cnt (tSl tI) c7) all_nil))))) ?_
      have f6 : (tSl (tSl tI)).R ([([] : List Int), ([0] : List Int), ([0] : List Int), ([1, 2] : List Int)] : List (List Int)) (.fs true [.fs true [], .fs true [vi 0], .fs true [vi 0], .fs true [vi 1, vi 2]]) := sl_fs ⟨f1, ⟨e4, ⟨f3, ⟨c7, trivial⟩⟩⟩⟩ (by simp)
      have h6 := f28_ok  f5 f6 
      refine rd_ycall rfl rfl (cv_fn rfl rfl (clL_cons (TR.clo (tSl (tSl tI)) f5) (clL_cons (TR.clo (tSl (tSl tI)) f6) clL_nil)) h6) ?_
      exact gK rfl rfl rfl rfl rfl k
  refine mV rfl ?_
  refine rd_cutn 5 (d := 99) (v := vb (((((((((((a2 && a3.2) && (ref06_EqualInts a0.1 ([0, 1, 2, 3] : List Int))) && a0.2) && (ref06_EqualInts a1.1 ([0, 1, 1, 2] : List Int))) && a1.2) && (ref06_EqualInts a4.1 ([0, 1, 3] : List Int))) && a4.2) && (ref06_EqualInts a6 ([1, 2] : List Int))) && (ref06_EqualBools a7 ([false, true, false, true] : List Bool))) && (ref06_EqualGraphs (digraph_Reverse ([([1, 2] : List Int), ([3] : List Int), ([3] : List Int), ([] : List Int)] : List (List Int))) ([([] : List Int), ([0] : List Int), ([0] : List Int), ([1, 2] : List Int)] : List (List Int)))) && (decide ((digraph_Check ([([5] : List Int)] : List (List Int))) = 9)))) ?_ ?_
  · intro S Q r
    cases d3 : ((((((((((a2 && a3.2) && (ref06_EqualInts a0.1 ([0, 1, 2, 3] : List Int))) && a0.2) && (ref06_EqualInts a1.1 ([0, 1, 1, 2] : List Int))) && a1.2) && (ref06_EqualInts a4.1 ([0, 1, 3] : List Int))) && a4.2) && (ref06_EqualInts a6 ([1, 2] : List Int))) && (ref06_EqualBools a7 ([false, true, false, true] : List Bool))) && (ref06_EqualGraphs (digraph_Reverse ([([1, 2] : List Int), ([3] : List Int), ([3] : List Int), ([] : List Int)] : List (List Int))) ([([] : List Int), ([0] : List Int), ([0] : List Int), ([1, 2] : List Int)] : List (List Int))))
    · exact gN 4 rfl rfl rfl rfl rfl rfl
    · intro k
      have a8 := d3
      try simp only [qa, qaD] at a8
      refine rd_yes (v := .fs true [vi 5]) rfl rfl (ov_bslice rfl (all_cons rfl all_nil)) ?_
      have e7 : (tSl tI).R ([5] : List Int) (.fs true [vi 5]) := sl_fs ⟨rfl, trivial⟩ (by simp)
      refine rd_yes (v := .fs true [.fs true [vi 5]]) rfl rfl (ov_bslice rfl (all_cons (TR.cnt (tSl tI) e7) all_nil)) ?_
      have g0 : (tSl (tSl tI)).R ([([5] : List Int)] : List (List Int)) (.fs true [.fs true [vi 5]]) := sl_fs ⟨e7, trivial⟩ (by simp)
      have h2 := f10_ok  g0 
      refine rd_ycall rfl rfl (cv_fn rfl rfl (clL_cons (TR.clo (tSl (tSl tI)) g0) clL_nil) h2) ?_
      refine rd_yes rfl rfl (ov_bin rfl rfl i_eql) ?_
      exact gK rfl rfl rfl rfl rfl k
  refine mV rfl ?_
  refine nS ?_
  exact rR hres rfl rfl rfl

end Go.Proofs.Ytpdimhpjehfjeaa
