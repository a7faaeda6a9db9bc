/-
  The code of each function does what its plain program says.
-/
import Derived.Test.YtpdimhpjehfjeaaL6W3
set_option linter.unusedVariables false
set_option linter.unusedSimpArgs false
set_option maxRecDepth 100000
namespace Go.Proofs.Ytpdimhpjehfjeaa
open Go Go.Pb Go.RowKit
def RF25 (res : (List Int) × Bool) (r : PV) : Prop := ∃ c0, r = .tup [c0, vb res.2] ∧ (tSl tI).R res.1 c0
theorem ref06_LongestPath_L1_ok {S : List Fr} {res : (List Int) × Bool} {x0 : List (List Int)} {a4 : (List (List Int))} {a0 : (List Int) × Bool} {v0 a7 : PV} (r0 : (tSl (tSl tI)).R x0 v0) (hs : Sm x0) (hn : x0.length ≤ 24) (b4 : ref06_Reverse x0 = a4) (b1 : Gd x0.length a4) (b2 : a4.length = x0.length) (b3 : ref06_Levels a4 = a0) (a9 : (tSl tI).R a0.1 a7) (a1 : a0.2 = true → a0.1.length = x0.length ∧ WB a0.1 100000) (b0 : ((!a0.2) || (decide ((x0.length : Int) = 0))) = false) {K0 : Int → ((List Int) × Bool)}
    (b6 : ∀ {a2 : Int} (b7 : 0 ≤ a2 ∧ a2 < (x0.length : Int)), K0 a2 = res → PX Try.prog 0 S (QR Try.prog [(2, none), (3, none)] (RF25 res)) [(0, v0), (4, a7), (6, vi a2)] ⟨0, []⟩) :
    ∀ {m : Nat} {a2 a3 : Int} (b5 : m = Int.toNat ((x0.length : Int) - a3)) (a8 : 1 ≤ a3) (a5 : 0 ≤ a2 ∧ a2 < (x0.length : Int)), ref06_LongestPath_L1 a0 K0 m a2 a3 = res → RC Try.prog (.loop ac25_L1) S (QR Try.prog [(2, none), (3, none)] (RF25 res)) [(7, vi a3), (6, vi a2), (4, a7), (0, v0)] ⟨0, []⟩ := by
  have a6 := b0
  try simp only [qa, qaD] at a6
  intro m
  induction m with
  | zero =>
    intro a2 a3 b5 a8 a5 hres
    rw [ref06_LongestPath_L1] at hres
    refine rc_loop ?_
    refine rc_seq ?_
    refine sR ?_
    refine mV rfl ?_
    refine mV rfl ?_
    refine rd_op (ov_bi rfl (sl_len r0 Try.underlying22 _)) ?_
    refine bN i_lss rfl rfl ?_
    refine nS ?_
    refine rc_cond rfl ?_ ?_ <;> intro c <;> try simp only [qa, qaD] at c
    · omega
    refine rc_exit ?_
    refine px_seq ?_
    refine px_again ?_
    exact wP (b6 (by omega) hres) rfl
  | succ m ih =>
    intro a2 a3 b5 a8 a5 hres
    rw [ref06_LongestPath_L1] at hres
    refine rc_loop ?_
    refine rc_seq ?_
    refine sR ?_
    refine mV rfl ?_
    refine mV rfl ?_
    refine rd_op (ov_bi rfl (sl_len r0 Try.underlying22 _)) ?_
    refine bN i_lss rfl rfl ?_
    refine nS ?_
    refine rc_cond rfl ?_ ?_ <;> intro c <;> try simp only [qa, qaD] at c
    rotate_left
    · omega
    refine rc_skip ?_
    refine pn_seq ?_
    refine rc_seq ?_
    refine rc_block ?_
    refine sR ?_
    refine mV rfl ?_
    refine mV rfl ?_
    refine rd_op (ov_iaddr rfl rfl (slI a9 (by first | omega | first | omega | (have hk := a1 (by first | assumption | exact And.left (by assumption)); first | omega | exact hk.2)) (by first | omega | first | omega | (have hk := a1 (by first | assumption | exact And.left (by assumption)); first | omega | exact hk.2)))) ?_
    refine lR rfl rfl rfl ?_
    refine mV rfl ?_
    refine mV rfl ?_
    refine rd_op (ov_iaddr rfl rfl (slI a9 (by first | omega | first | omega | (have hk := a1 (by first | assumption | exact And.left (by assumption)); first | omega | exact hk.2)) (by first | omega | first | omega | (have hk := a1 (by first | assumption | exact And.left (by assumption)); first | omega | exact hk.2)))) ?_
    refine lR rfl rfl rfl ?_
    refine bN i_gtr rfl rfl ?_
    refine nS ?_
    refine rc_br hres rfl ?_ ?_ <;> clear hres <;> intro c hres <;> try simp only [qa, qaD] at c
    · refine rc_region ?_
      refine mV rfl ?_
      refine mV rfl ?_
      refine rd_nil ?_
      refine pn_blk ?_
      refine pn_seq ?_
      refine rc_region ?_
      refine mV rfl ?_
      refine bN i_add rfl rfl ?_
      refine mV rfl ?_
      refine rd_nil ?_
      refine pn_again ?_
      have hbd := sl_bound r0
      have hinc : wr (a3 + 1) = a3 + 1 := wr_of (by omega) (by omega)
      erw [hinc]
      exact wC (ih   (by omega) (by omega) (by first | omega | (simp; done) | (simp only [List.length_append, List.length_cons, List.length_nil, List.length_set]; omega)) hres) rfl
    · refine rc_skip ?_
      refine pn_blk ?_
      refine pn_seq ?_
      refine rc_region ?_
      refine mV rfl ?_
      refine bN i_add rfl rfl ?_
      refine mV rfl ?_
      refine rd_nil ?_
      refine pn_again ?_
      have hbd := sl_bound r0
      have hinc : wr (a3 + 1) = a3 + 1 := wr_of (by omega) (by omega)
      erw [hinc]
      exact wC (ih   (by omega) (by omega) (by first | omega | (simp; done) | (simp only [List.length_append, List.length_cons, List.length_nil, List.length_set]; omega)) hres) rfl

theorem f25_ok {x0 : List (List Int)} {v0 : PV} (r0 : (tSl (tSl tI)).R x0 v0) (hs : Sm x0) : ∃ c0, FnR Try.prog 25 [v0] (.tup [c0, vb ((ref06_LongestPath x0).2)]) ∧ (tSl tI).R (ref06_LongestPath x0).1 c0 := by
  obtain ⟨res, hres⟩ : ∃ res, ref06_LongestPath x0 = res := ⟨_, rfl⟩
  suffices H : RC Try.prog ac25 [] (QR Try.prog [(2, none), (3, none)] (RF25 res)) (argE 0 [v0]) ⟨0, []⟩ by
    rw [hres]
    obtain ⟨r, h1, c0, rfl, c3⟩ := fnE text25 (by simp) H
    exact ⟨c0, h1, c3⟩
  unfold ref06_LongestPath at hres
  have hn : x0.length ≤ 24 := hs.n
  refine sR ?_
  refine rd_op (v := nilS) (ov_move rfl) ?_
  refine mB rfl ?_
  refine nR ?_
  refine mV rfl ?_
  obtain ⟨b6, a3, hres⟩ := let_ex hres
  obtain ⟨c5, c2, b1⟩ := f30_ok  r0 (by first | assumption | omega)
  rw [a3] at b1
  have a5 : Gd x0.length b6 := rrev_gd hs a3
  have a6 : b6.length = x0.length := a5.len
  refine cL c2 rfl rfl (clL_cons (TR.clo (tSl (tSl tI)) r0) clL_nil) ?_
  obtain ⟨a1, a2, hres⟩ := let_ex hres
  obtain ⟨c4, b5, a4⟩ := f23_ok  b1 (by exact Gd.sm (by assumption) (by omega))
  rw [a2] at b5 a4
  have a0 : a1.2 = true → a1.1.length = x0.length ∧ WB a1.1 100000 := (by have := rl_use (by omega) a2; rw [a6] at this; exact this)
  refine cL b5 rfl rfl (clL_cons (TR.clo (tSl (tSl tI)) b1) clL_nil) ?_
  refine mV rfl ?_
  refine xT rfl rfl ?_
  refine xT rfl rfl ?_
  refine mV rfl ?_
  refine mV rfl ?_
  refine nS ?_
  refine rc_seq ?_
  refine sR ?_
  refine mV rfl ?_
  refine rd_op (ov_not rfl) ?_
  refine mV rfl ?_
  refine rd_cutn 4 (d := 20) (v := vb ((!a1.2) || (decide ((x0.length : Int) = 0)))) ?_ ?_
  · intro S Q r
    cases b3 : (!a1.2)
    · intro k
      have b0 := b3
      try simp only [qa, qaD] at b0
      refine rd_yes rfl rfl (ov_move rfl) ?_
      refine rd_yes rfl rfl (ov_bi rfl (sl_len r0 Try.underlying22 _)) ?_
      refine rd_yes rfl rfl (ov_bin rfl rfl i_eql) ?_
      exact gK rfl rfl rfl rfl rfl k
    · exact gN 3 rfl rfl rfl rfl rfl rfl
  refine nS ?_
  refine rc_br hres rfl ?_ ?_ <;> clear hres <;> intro a7 hres <;> have a9 := a7 <;> try simp only [qa, qaD] at a9
  · refine sR ?_
    refine mV rfl ?_
    refine rd_op (v := nilS) (ov_move rfl) ?_
    refine mV rfl ?_
    refine nS ?_
    subst hres
    exact rc_retV (.tmp rfl (.tmp rfl .nil)) (deep_closed (show closed (.tup _) = true from (clL_cons (TR.clo (tSl tI) sl_nil) (clL_cons rfl clL_nil)))) ⟨nilS, rfl, sl_nil⟩
  · refine rc_skip ?_
    refine pn_seq ?_
    refine sR ?_
    refine mI rfl ?_
    refine nS ?_
    refine rc_seq ?_
    refine sR ?_
    refine mI rfl ?_
    refine nS ?_
    refine rc_block ?_
    refine wC (ref06_LongestPath_L1_ok r0 hs hn a3 a5 a6 a2 a4 a0 a7 ?_  rfl (by omega) (by first | omega | (simp; done) | (simp only [List.length_append, List.length_cons, List.length_nil, List.length_set]; omega)) hres) rfl
    · intro a8 b7 hres
      refine px_blk ?_
      refine pn_seq ?_
      refine sR ?_
      refine mV rfl ?_
      refine mV rfl ?_
      refine mV rfl ?_
      obtain ⟨c6, b4, hres⟩ := let_ex hres
      obtain ⟨b9, b8, b2⟩ := f38_ok (x2 := a8) r0 a4 (by first | omega | (have hk := a0 (by first | assumption | exact And.left (by assumption)); first | omega | exact hk.2)) (by first | omega | (have hk := a0 (by first | assumption | exact And.left (by assumption)); first | omega | exact hk.2)) (by first | omega | (have hk := a0 (by first | assumption | exact And.left (by assumption)); first | omega | exact hk.2)) (by first | omega | (have hk := a0 (by first | assumption | exact And.left (by assumption)); first | omega | exact hk.2))
      rw [b4] at b2
      refine cL b8 rfl rfl (clL_cons (TR.clo (tSl (tSl tI)) r0) (clL_cons (TR.clo (tSl tI) a4) (clL_cons rfl clL_nil))) ?_
      refine mV rfl ?_
      refine mB rfl ?_
      refine nS ?_
      subst hres
      exact rc_retV (.tmp rfl (.tmp rfl .nil)) (deep_closed (show closed (.tup _) = true from (clL_cons (TR.clo (tSl tI) b2) (clL_cons rfl clL_nil)))) ⟨b9, rfl, b2⟩

def RF6 (res : Bool) (r : PV) : Prop := r = vb res
theorem f6_ok {x0 : List (List Int)} {v0 : PV} (r0 : (tSl (tSl tI)).R x0 v0) : FnR Try.prog 6 [v0] (vb (law06_DigraphOrders x0)) := by
  refine fnS (R := RF6) text6 (fun _ h => h) rfl fun res hres => ?_
  unfold law06_DigraphOrders at hres
  refine sR ?_
  refine mB rfl ?_
  refine nS ?_
  refine rc_seq ?_
  refine sR ?_
  refine mV rfl ?_
  obtain ⟨f4, a8, hres⟩ := let_ex hres
  have e4 := f13_ok  r0 
  rw [a8] at e4
  have a5 := large_sm a8
  refine cL e4 rfl rfl (clL_cons (TR.clo (tSl (tSl tI)) r0) clL_nil) ?_
  refine nS ?_
  refine rc_br hres rfl ?_ ?_ <;> clear hres <;> intro c hres <;> try simp only [qa, qaD] at c
  · refine sR ?_
    obtain ⟨f1, d6, hres⟩ := let_ex hres
    have e0 := f12_ok   
    rw [d6] at e0
    refine cL e0 rfl rfl clL_nil ?_
    refine mV rfl ?_
    refine nS ?_
    exact rR hres rfl rfl rfl
  · refine rc_skip ?_
    refine pn_seq ?_
    refine sR ?_
    refine mV rfl ?_
    obtain ⟨a4, c3, hres⟩ := let_ex hres
    obtain ⟨f6, e3, b2⟩ := f20_ok  r0 (by first | omega | exact a5 (by assumption))
    rw [c3] at e3 b2
    refine cL e3 rfl rfl (clL_cons (TR.clo (tSl (tSl tI)) r0) clL_nil) ?_
    refine mV rfl ?_
    refine xT rfl rfl ?_
    refine xT rfl rfl ?_
    refine mV rfl ?_
    refine mV rfl ?_
    refine nR ?_
    refine mV rfl ?_
    obtain ⟨a3, d3, hres⟩ := let_ex hres
    obtain ⟨e9, e2, b3⟩ := f21_ok  r0 (by (have hk := (a5 (by assumption)).n; omega))
    rw [d3] at e2 b3
    refine cL e2 rfl rfl (clL_cons (TR.clo (tSl (tSl tI)) r0) clL_nil) ?_
    refine mV rfl ?_
    refine xT rfl rfl ?_
    refine xT rfl rfl ?_
    refine mV rfl ?_
    refine mV rfl ?_
    refine nR ?_
    refine mV rfl ?_
    obtain ⟨a0, d8, hres⟩ := let_ex hres
    obtain ⟨f0, d2, b1⟩ := f22_ok  r0 (by first | omega | exact a5 (by assumption))
    rw [d8] at d2 b1
    refine cL d2 rfl rfl (clL_cons (TR.clo (tSl (tSl tI)) r0) clL_nil) ?_
    refine mV rfl ?_
    refine xT rfl rfl ?_
    refine xT rfl rfl ?_
    refine mV rfl ?_
    refine mV rfl ?_
    refine nR ?_
    refine mV rfl ?_
    obtain ⟨a1, e5, hres⟩ := let_ex hres
    obtain ⟨f3, d1, b4⟩ := f23_ok  r0 (by first | omega | exact a5 (by assumption))
    rw [e5] at d1 b4
    refine cL d1 rfl rfl (clL_cons (TR.clo (tSl (tSl tI)) r0) clL_nil) ?_
    refine mV rfl ?_
    refine xT rfl rfl ?_
    refine xT rfl rfl ?_
    refine mV rfl ?_
    refine mV rfl ?_
    refine nR ?_
    refine mV rfl ?_
    obtain ⟨a7, d7, hres⟩ := let_ex hres
    obtain ⟨f5, c8, c2⟩ := f24_ok  r0 (by first | omega | exact a5 (by assumption))
    rw [d7] at c8 c2
    refine cL c8 rfl rfl (clL_cons (TR.clo (tSl (tSl tI)) r0) clL_nil) ?_
    refine mV rfl ?_
    refine xT rfl rfl ?_
    refine xT rfl rfl ?_
    refine mV rfl ?_
    refine mV rfl ?_
    refine nR ?_
    refine mV rfl ?_
    obtain ⟨a6, d0, hres⟩ := let_ex hres
    obtain ⟨f2, e1, b0⟩ := f25_ok  r0 (by first | omega | exact a5 (by assumption))
    rw [d0] at e1 b0
    refine cL e1 rfl rfl (clL_cons (TR.clo (tSl (tSl tI)) r0) clL_nil) ?_
    refine mV rfl ?_
    refine xT rfl rfl ?_
    refine xT rfl rfl ?_
    refine mV rfl ?_
    refine mV rfl ?_
    refine nR ?_
    refine mV rfl ?_
    refine mV rfl ?_
    obtain ⟨a2, d9, hres⟩ := let_ex hres
    have d4 := f19_ok  b2 b3 
    rw [d9] at d4
    refine cL d4 rfl rfl (clL_cons (TR.clo (tSl tI) b2) (clL_cons (TR.clo (tSl tI) b3) clL_nil)) ?_
    refine mV rfl ?_
    refine rd_cutn 4 (d := 55) (v := vb (a2 && (decide (a4.2 = a3.2)))) ?_ ?_
    · intro S Q r
      cases c5 : a2
      · exact gN 3 rfl rfl rfl rfl rfl rfl
      · intro k
        have b8 := c5
        try simp only [qa, qaD] at b8
        refine rd_yes rfl rfl (ov_move rfl) ?_
        refine rd_yes rfl rfl (ov_move rfl) ?_
        refine rd_yes rfl rfl (ov_bin rfl rfl (bin_eqlb (by rw [Try.underlying4]; rfl))) ?_
        exact gK rfl rfl rfl rfl rfl k
    refine mV rfl ?_
    refine rd_cutn 4 (d := 60) (v := vb ((a2 && (decide (a4.2 = a3.2))) && (ref06_EqualInts a0.1 a1.1))) ?_ ?_
    · intro S Q r
      cases c6 : (a2 && (decide (a4.2 = a3.2)))
      · exact gN 3 rfl rfl rfl rfl rfl rfl
      · intro k
        have b5 := c6
        try simp only [qa, qaD] at b5
        refine rd_yes rfl rfl (ov_move rfl) ?_
        refine rd_yes rfl rfl (ov_move rfl) ?_
        have e7 := f19_ok  b1 b4 
        refine rd_ycall rfl rfl (cv_fn rfl rfl (clL_cons (TR.clo (tSl tI) b1) (clL_cons (TR.clo (tSl tI) b4) clL_nil)) e7) ?_
        exact gK rfl rfl rfl rfl rfl k
    refine mV rfl ?_
    refine rd_cutn 4 (d := 65) (v := vb (((a2 && (decide (a4.2 = a3.2))) && (ref06_EqualInts a0.1 a1.1)) && (decide (a0.2 = a1.2)))) ?_ ?_
    · intro S Q r
      cases c9 : ((a2 && (decide (a4.2 = a3.2))) && (ref06_EqualInts a0.1 a1.1))
      · exact gN 3 rfl rfl rfl rfl rfl rfl
      · intro k
        have b6 := c9
        try simp only [qa, qaD] at b6
        refine rd_yes rfl rfl (ov_move rfl) ?_
        refine rd_yes rfl rfl (ov_move rfl) ?_
        refine rd_yes rfl rfl (ov_bin rfl rfl (bin_eqlb (by rw [Try.underlying4]; rfl))) ?_
        exact gK rfl rfl rfl rfl rfl k
    refine mV rfl ?_
    refine rd_cutn 4 (d := 70) (v := vb ((((a2 && (decide (a4.2 = a3.2))) && (ref06_EqualInts a0.1 a1.1)) && (decide (a0.2 = a1.2))) && (ref06_EqualInts a7.1 a6.1))) ?_ ?_
    · intro S Q r
      cases c4 : (((a2 && (decide (a4.2 = a3.2))) && (ref06_EqualInts a0.1 a1.1)) && (decide (a0.2 = a1.2)))
      · exact gN 3 rfl rfl rfl rfl rfl rfl
      · intro k
        have b7 := c4
        try simp only [qa, qaD] at b7
        refine rd_yes rfl rfl (ov_move rfl) ?_
        refine rd_yes rfl rfl (ov_move rfl) ?_
        have e8 := f19_ok  c2 b0 
        refine rd_ycall rfl rfl (cv_fn rfl rfl (clL_cons (TR.clo (tSl tI) c2) (clL_cons (TR.clo (tSl tI) b0) clL_nil)) e8) ?_
        exact gK rfl rfl rfl rfl rfl k
    refine mV rfl ?_
    refine rd_cutn 4 (d := 75) (v := vb (((((a2 && (decide (a4.2 = a3.2))) && (ref06_EqualInts a0.1 a1.1)) && (decide (a0.2 = a1.2))) && (ref06_EqualInts a7.1 a6.1)) && (decide (a7.2 = a6.2)))) ?_ ?_
    · intro S Q r
      cases c7 : ((((a2 && (decide (a4.2 = a3.2))) && (ref06_EqualInts a0.1 a1.1)) && (decide (a0.2 = a1.2))) && (ref06_EqualInts a7.1 a6.1))
      · exact gN 3 rfl rfl rfl rfl rfl rfl
      · intro k
        have b9 := c7
        try simp only [qa, qaD] at b9
        refine rd_yes rfl rfl (ov_move rfl) ?_
        refine rd_yes rfl rfl (ov_move rfl) ?_
        refine rd_yes rfl rfl (ov_bin rfl rfl (bin_eqlb (by rw [Try.underlying4]; rfl))) ?_
        exact gK rfl rfl rfl rfl rfl k
    refine mV rfl ?_
    refine rd_cutn 2 (d := 78) (v := vb ((((((a2 && (decide (a4.2 = a3.2))) && (ref06_EqualInts a0.1 a1.1)) && (decide (a0.2 = a1.2))) && (ref06_EqualInts a7.1 a6.1)) && (decide (a7.2 = a6.2))) && (law06_works))) ?_ ?_
    · intro S Q r
      cases d5 : (((((a2 && (decide (a4.2 = a3.2))) && (ref06_EqualInts a0.1 a1.1)) && (decide (a0.2 = a1.2))) && (ref06_EqualInts a7.1 a6.1)) && (decide (a7.2 = a6.2)))
      · exact gN 1 rfl rfl rfl rfl rfl rfl
      · intro k
        have a9 := d5
        try simp only [qa, qaD] at a9
        have e6 := f12_ok   
        refine rd_ycall rfl rfl (cv_fn rfl rfl clL_nil e6) ?_
        exact gK rfl rfl rfl rfl rfl k
    refine mV rfl ?_
    refine nS ?_
    exact rR hres rfl rfl rfl

end Go.Proofs.Ytpdimhpjehfjeaa
