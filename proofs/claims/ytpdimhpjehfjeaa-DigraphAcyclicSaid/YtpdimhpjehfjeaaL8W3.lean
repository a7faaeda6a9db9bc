/-
  The code of each function does what its plain program says.
-/
import Derived.Test.YtpdimhpjehfjeaaL8W2
set_option linter.unusedVariables false
set_option linter.unusedSimpArgs false
set_option maxRecDepth 100000
namespace Go.Proofs.Ytpdimhpjehfjeaa
open Go Go.Pb Go.RowKit
def RF32 (res : Bool) (r : PV) : Prop := r = vb res
theorem ref06_Edge_L1_ok {S : List Fr} {res : Bool} {x0 : List (List Int)} {x1 x2 : Int} {v0 : PV} (r0 : (tSl (tSl tI)).R x0 v0) (a5 : ((((decide (x1 < 0)) || (decide ((x0.length : Int) ≤ x1))) || (decide (x2 < 0))) || (decide ((x0.length : Int) ≤ x2))) = false) {K0 : Unit → Bool}
    (b3 : K0 () = res → PX Try.prog 0 S (QR Try.prog [(6, none)] (RF32 res)) [] ⟨0, []⟩) :
    ∀ {m : Nat} {a0 : Int} (b0 : m = Int.toNat (((ix x0 x1).length : Int) - a0)) (a4 : 0 ≤ a0), ref06_Edge_L1 x0 x1 x2 K0 m a0 = res → RC Try.prog (.loop ac32_L1) S (QR Try.prog [(6, none)] (RF32 res)) [(7, vi a0), (2, vi x2), (1, vi x1), (0, v0)] ⟨0, []⟩ := by
  have a2 := a5
  try simp only [qa, qaD] at a2
  intro m
  induction m with
  | zero =>
    intro a0 b0 a4 hres
    rw [ref06_Edge_L1] at hres
    refine rc_loop ?_
    refine rc_seq ?_
    refine sR ?_
    refine mV rfl ?_
    refine mV rfl ?_
    refine mV rfl ?_
    obtain ⟨b4, a7, a6⟩ := sl_idx (i := x1) r0 (by omega) (by omega)
    refine rd_op (ov_iaddr rfl rfl a7) ?_
    refine lD a6 rfl rfl rfl ?_
    refine rd_op (ov_bi rfl (sl_len a6 Try.underlying31 _)) ?_
    refine bN i_lss rfl rfl ?_
    refine nS ?_
    refine rc_cond rfl ?_ ?_ <;> intro c <;> try simp only [qa, qaD] at c
    · omega
    refine rc_exit ?_
    refine px_seq ?_
    refine px_again ?_
    exact wP (b3  hres) rfl
  | succ m ih =>
    intro a0 b0 a4 hres
    rw [ref06_Edge_L1] at hres
    refine rc_loop ?_
    refine rc_seq ?_
    refine sR ?_
    refine mV rfl ?_
    refine mV rfl ?_
    refine mV rfl ?_
    obtain ⟨b1, a9, a1⟩ := sl_idx (i := x1) r0 (by omega) (by omega)
    refine rd_op (ov_iaddr rfl rfl a9) ?_
    refine lD a1 rfl rfl rfl ?_
    refine rd_op (ov_bi rfl (sl_len a1 Try.underlying31 _)) ?_
    refine bN i_lss rfl rfl ?_
    refine nS ?_
    refine rc_cond rfl ?_ ?_ <;> intro c <;> try simp only [qa, qaD] at c
    rotate_left
    · omega
    refine rc_skip ?_
    refine pn_seq ?_
    refine rc_seq ?_
    refine rc_block ?_
    refine sR ?_
    refine mV rfl ?_
    refine mV rfl ?_
    obtain ⟨b2, a8, a3⟩ := sl_idx (i := x1) r0 (by omega) (by omega)
    refine rd_op (ov_iaddr rfl rfl a8) ?_
    refine lD a3 rfl rfl rfl ?_
    refine mV rfl ?_
    refine rd_op (ov_iaddr rfl rfl (slI a3 (by omega) (by omega))) ?_
    refine lR rfl rfl rfl ?_
    refine mV rfl ?_
    refine bN i_eql rfl rfl ?_
    refine nS ?_
    refine rc_br hres rfl ?_ ?_ <;> clear hres <;> intro c hres <;> try simp only [qa, qaD] at c
    · refine sR ?_
      refine mB rfl ?_
      refine nS ?_
      exact rR hres rfl rfl rfl
    · refine rc_skip ?_
      refine pn_blk ?_
      refine pn_seq ?_
      refine rc_region ?_
      refine mV rfl ?_
      refine bN i_add rfl rfl ?_
      refine mV rfl ?_
      refine rd_nil ?_
      refine pn_again ?_
      have hbd := sl_bound a1
      have hinc : wr (a0 + 1) = a0 + 1 := wr_of (by omega) (by omega)
      erw [hinc]
      exact wC (ih   (by omega) (by omega) hres) rfl

theorem f32_ok {x0 : List (List Int)} {x1 x2 : Int} {v0 : PV} (r0 : (tSl (tSl tI)).R x0 v0) : FnR Try.prog 32 [v0, vi x1, vi x2] (vb (ref06_Edge x0 x1 x2)) := by
  refine fnS (R := RF32) text32 (fun _ h => h) rfl fun res hres => ?_
  unfold ref06_Edge at hres
  refine sR ?_
  refine mB rfl ?_
  refine nS ?_
  refine rc_seq ?_
  refine sR ?_
  refine mV rfl ?_
  refine bN i_lss rfl rfl ?_
  refine mV rfl ?_
  refine rd_cutn 5 (d := 15) (v := vb ((decide (x1 < 0)) || (decide ((x0.length : Int) ≤ x1)))) ?_ ?_
  · intro S Q r
    cases a7 : (decide (x1 < 0))
    · intro k
      have a4 := a7
      try simp only [qa, qaD] at a4
      refine rd_yes rfl rfl (ov_move rfl) ?_
      refine rd_yes rfl rfl (ov_move rfl) ?_
      refine rd_yes rfl rfl (ov_bi rfl (sl_len r0 Try.underlying22 _)) ?_
      refine rd_yes rfl rfl (ov_bin rfl rfl i_geq) ?_
      exact gK rfl rfl rfl rfl rfl k
    · exact gN 4 rfl rfl rfl rfl rfl rfl
  refine mV rfl ?_
  refine rd_cutn 3 (d := 19) (v := vb (((decide (x1 < 0)) || (decide ((x0.length : Int) ≤ x1))) || (decide (x2 < 0)))) ?_ ?_
  · intro S Q r
    cases a6 : ((decide (x1 < 0)) || (decide ((x0.length : Int) ≤ x1)))
    · intro k
      have a1 := a6
      try simp only [qa, qaD] at a1
      refine rd_yes rfl rfl (ov_move rfl) ?_
      refine rd_yes rfl rfl (ov_bin rfl rfl i_lss) ?_
      exact gK rfl rfl rfl rfl rfl k
    · exact gN 2 rfl rfl rfl rfl rfl rfl
  refine mV rfl ?_
  refine rd_cutn 5 (d := 25) (v := vb ((((decide (x1 < 0)) || (decide ((x0.length : Int) ≤ x1))) || (decide (x2 < 0))) || (decide ((x0.length : Int) ≤ x2)))) ?_ ?_
  · intro S Q r
    cases a5 : (((decide (x1 < 0)) || (decide ((x0.length : Int) ≤ x1))) || (decide (x2 < 0)))
    · intro k
      have a2 := a5
      try simp only [qa, qaD] at a2
      refine rd_yes rfl rfl (ov_move rfl) ?_
      refine rd_yes rfl rfl (ov_move rfl) ?_
      refine rd_yes rfl rfl (ov_bi rfl (sl_len r0 Try.underlying22 _)) ?_
      refine rd_yes rfl rfl (ov_bin rfl rfl i_geq) ?_
      exact gK rfl rfl rfl rfl rfl k
    · exact gN 4 rfl rfl rfl rfl rfl rfl
  refine nS ?_
  refine rc_br hres rfl ?_ ?_ <;> clear hres <;> intro a0 hres <;> have a3 := a0 <;> try simp only [qa, qaD] at a3
  · refine sR ?_
    refine mB rfl ?_
    refine nS ?_
    exact rR hres rfl rfl rfl
  · refine rc_skip ?_
    refine pn_seq ?_
    refine rc_seq ?_
    refine sR ?_
    refine mI rfl ?_
    refine nS ?_
    refine rc_block ?_
    refine wC (ref06_Edge_L1_ok r0 a0 ?_  rfl (by omega) hres) rfl
    · intro  hres
      refine px_blk ?_
      refine pn_seq ?_
      refine sR ?_
      refine mB rfl ?_
      refine nS ?_
      exact rR hres rfl rfl rfl

def RF31 (res : Bool) (r : PV) : Prop := r = vb res
theorem law06_path_L1_ok {S : List Fr} {res : Bool} {x0 : List (List Int)} {x1 : List Int} {v0 v1 : PV} (r0 : (tSl (tSl tI)).R x0 v0) (r1 : (tSl tI).R x1 v1) (hl : x1.length ≤ 1000000) {K0 : Unit → Bool}
    (b0 : K0 () = res → PX Try.prog 0 S (QR Try.prog [(4, none)] (RF31 res)) [] ⟨0, []⟩) :
    ∀ {m : Nat} {a0 : Int} (a9 : m = Int.toNat ((x1.length : Int) - a0)) (a5 : 0 ≤ a0), law06_path_L1 x0 x1 K0 m a0 = res → RC Try.prog (.loop ac31_L1) S (QR Try.prog [(4, none)] (RF31 res)) [(5, vi a0), (1, v1), (0, v0)] ⟨0, []⟩ := by
  intro m
  induction m with
  | zero =>
    intro a0 a9 a5 hres
    rw [law06_path_L1] at hres
    refine rc_loop ?_
    refine rc_seq ?_
    refine sR ?_
    refine mV rfl ?_
    refine mV rfl ?_
    refine rd_op (ov_bi rfl (sl_len r1 Try.underlying31 _)) ?_
    refine bN i_lss rfl rfl ?_
    refine nS ?_
    refine rc_cond rfl ?_ ?_ <;> intro c <;> try simp only [qa, qaD] at c
    · omega
    refine rc_exit ?_
    refine px_seq ?_
    refine px_again ?_
    exact wP (b0  hres) rfl
  | succ m ih =>
    intro a0 a9 a5 hres
    rw [law06_path_L1] at hres
    refine rc_loop ?_
    refine rc_seq ?_
    refine sR ?_
    refine mV rfl ?_
    refine mV rfl ?_
    refine rd_op (ov_bi rfl (sl_len r1 Try.underlying31 _)) ?_
    refine bN i_lss rfl rfl ?_
    refine nS ?_
    refine rc_cond rfl ?_ ?_ <;> intro c <;> try simp only [qa, qaD] at c
    rotate_left
    · omega
    refine rc_skip ?_
    refine pn_seq ?_
    refine rc_seq ?_
    refine rc_block ?_
    refine sR ?_
    refine mV rfl ?_
    refine mV rfl ?_
    refine rd_op (ov_iaddr rfl rfl (slI r1 (by first | omega | (simp only [show Int.ofNat 1 = (1 : Int) from rfl]; rw [wr_of (by omega) (by omega)]; omega)) (by first | omega | (simp only [show Int.ofNat 1 = (1 : Int) from rfl]; rw [wr_of (by omega) (by omega)]; omega)))) ?_
    refine lR rfl rfl rfl ?_
    refine bN i_lss rfl rfl ?_
    refine mV rfl ?_
    refine rd_cutn 8 (d := 25) (v := vb ((decide ((ix x1 a0) < 0)) || (decide ((x0.length : Int) ≤ (ix x1 a0))))) ?_ ?_
    · intro S Q r
      cases a4 : (decide ((ix x1 a0) < 0))
      · intro k
        have a2 := a4
        try simp only [qa, qaD] at a2
        refine rd_yes rfl rfl (ov_move rfl) ?_
        refine rd_yes rfl rfl (ov_move rfl) ?_
        refine rd_yes rfl rfl (ov_iaddr rfl rfl (slI r1 (by first | omega | (simp only [show Int.ofNat 1 = (1 : Int) from rfl]; rw [wr_of (by omega) (by omega)]; omega)) (by first | omega | (simp only [show Int.ofNat 1 = (1 : Int) from rfl]; rw [wr_of (by omega) (by omega)]; omega)))) ?_
        refine rd_yes rfl rfl (ov_load rfl rfl rfl) ?_
        refine rd_yes rfl rfl (ov_move rfl) ?_
        refine rd_yes rfl rfl (ov_bi rfl (sl_len r0 Try.underlying22 _)) ?_
        refine rd_yes rfl rfl (ov_bin rfl rfl i_geq) ?_
        exact gK rfl rfl rfl rfl rfl k
      · exact gN 7 rfl rfl rfl rfl rfl rfl
    refine mV rfl ?_
    refine rd_cutn 17 (d := 43) (v := vb (((decide ((ix x1 a0) < 0)) || (decide ((x0.length : Int) ≤ (ix x1 a0)))) || ((decide (0 < a0)) && (!(ref06_Edge x0 (ix x1 (wr (a0 - 1))) (ix x1 a0)))))) ?_ ?_
    · intro S Q r
      cases a6 : ((decide ((ix x1 a0) < 0)) || (decide ((x0.length : Int) ≤ (ix x1 a0))))
      · intro k
        have a1 := a6
        try simp only [qa, qaD] at a1
        refine rd_yes rfl rfl (ov_move rfl) ?_
        refine rd_yes rfl rfl (ov_bin rfl rfl i_gtr) ?_
        refine rd_yes rfl rfl (ov_move rfl) ?_
        refine rd_cutn 13 (d := 42) (v := vb ((decide (0 < a0)) && (!(ref06_Edge x0 (ix x1 (wr (a0 - 1))) (ix x1 a0))))) ?_ ?_
        · intro S Q r
          cases a7 : (decide (0 < a0))
          · intro k
            refine rd_skip rfl rfl ?_
            refine rd_skip rfl rfl ?_
            refine rd_skip rfl rfl ?_
            refine rd_skip rfl rfl ?_
            refine rd_skip rfl rfl ?_
            refine rd_skip rfl rfl ?_
            refine rd_skip rfl rfl ?_
            refine rd_skip rfl rfl ?_
            refine rd_skip rfl rfl ?_
            refine rd_skip rfl rfl ?_
            refine rd_skip rfl rfl ?_
            refine rd_skip rfl rfl ?_
            refine rd_yes (v := vb false) rfl rfl (ov_pick rfl rfl rfl rfl) ?_
            exact wD k rfl
          · intro k
            have a3 := a7
            try simp only [qa, qaD] at a3
            refine rd_yes rfl rfl (ov_move rfl) ?_
            refine rd_yes rfl rfl (ov_move rfl) ?_
            refine rd_yes rfl rfl (ov_move rfl) ?_
            refine rd_yes rfl rfl (ov_bin rfl rfl i_sub) ?_
            refine rd_yes rfl rfl (ov_iaddr rfl rfl (slI r1 (by first | omega | (simp only [show Int.ofNat 1 = (1 : Int) from rfl]; rw [wr_of (by omega) (by omega)]; omega)) (by first | omega | (simp only [show Int.ofNat 1 = (1 : Int) from rfl]; rw [wr_of (by omega) (by omega)]; omega)))) ?_
            refine rd_yes rfl rfl (ov_load rfl rfl rfl) ?_
            refine rd_yes rfl rfl (ov_move rfl) ?_
            refine rd_yes rfl rfl (ov_move rfl) ?_
            refine rd_yes rfl rfl (ov_iaddr rfl rfl (slI r1 (by first | omega | (simp only [show Int.ofNat 1 = (1 : Int) from rfl]; rw [wr_of (by omega) (by omega)]; omega)) (by first | omega | (simp only [show Int.ofNat 1 = (1 : Int) from rfl]; rw [wr_of (by omega) (by omega)]; omega)))) ?_
            refine rd_yes rfl rfl (ov_load rfl rfl rfl) ?_
            have a8 := f32_ok (x1 := (ix x1 (wr (a0 - 1)))) (x2 := (ix x1 a0)) r0 
            refine rd_ycall rfl rfl (cv_fn rfl rfl (clL_cons (TR.clo (tSl (tSl tI)) r0) (clL_cons rfl (clL_cons rfl clL_nil))) a8) ?_
            refine rd_yes rfl rfl (ov_not rfl) ?_
            refine rd_yes (v := vb (!(ref06_Edge x0 (ix x1 (wr (a0 - 1))) (ix x1 a0)))) rfl rfl (ov_pick rfl rfl rfl rfl) ?_
            exact wD k rfl
        exact gK rfl rfl rfl rfl rfl k
      · exact gN 16 rfl rfl rfl rfl rfl rfl
    refine nS ?_
    refine rc_br hres rfl ?_ ?_ <;> clear hres <;> intro c hres <;> try simp only [qa, qaD] at c
    · refine sR ?_
      refine mB rfl ?_
      refine nS ?_
      exact rR hres rfl rfl rfl
    · refine rc_skip ?_
      refine pn_blk ?_
      refine pn_seq ?_
      refine rc_region ?_
      refine mV rfl ?_
      refine bN i_add rfl rfl ?_
      refine mV rfl ?_
      refine rd_nil ?_
      refine pn_again ?_
      have hbd := sl_bound r1
      have hinc : wr (a0 + 1) = a0 + 1 := wr_of (by omega) (by omega)
      erw [hinc]
      exact wC (ih   (by omega) (by omega) hres) rfl

theorem f31_ok {x0 : List (List Int)} {x1 : List Int} {v0 v1 : PV} (r0 : (tSl (tSl tI)).R x0 v0) (r1 : (tSl tI).R x1 v1) (hl : x1.length ≤ 1000000) : FnR Try.prog 31 [v0, v1] (vb (law06_path x0 x1)) := by
  refine fnS (R := RF31) text31 (fun _ h => h) rfl fun res hres => ?_
  unfold law06_path at hres
  refine sR ?_
  refine mB rfl ?_
  refine nS ?_
  refine rc_seq ?_
  refine sR ?_
  refine mI rfl ?_
  refine nS ?_
  refine rc_block ?_
  refine wC (law06_path_L1_ok r0 r1 hl ?_  rfl (by omega) hres) rfl
  · intro  hres
    refine px_blk ?_
    refine pn_seq ?_
    refine sR ?_
    refine mB rfl ?_
    refine nS ?_
    exact rR hres rfl rfl rfl

def RF8 (res : Bool) (r : PV) : Prop := r = vb res
theorem law06_DigraphAcyclic_L1_ok {S : List Fr} {res : Bool} {x0 : List (List Int)} {b0 : Bool} {a2 : (List Int)} {b4 : (List Int) × Bool} {a3 : (List Int) × Bool} {a7 : (List Int) × Bool} {v0 b1 a5 b6 : PV} (c7 : law06_large x0 = b0) (b7 : b0 = false) (b8 : digraph_ShortestCycle x0 = a2) (c4 : a2.length ≤ 1002) (c5 : digraph_TopologicalOrder x0 = b4) (c6 : digraph_Levels x0 = a3) (a4 : (tSl tI).R a3.1 a5) (c2 : digraph_LongestPath x0 = a7) (c3 : a7.1.length ≤ 24001) (b2 : (((!decide (b4.2 = (decide ((a2.length : Int) = 0)))) || (!decide (a3.2 = (decide ((a2.length : Int) = 0))))) || (!decide (a7.2 = (decide ((a2.length : Int) = 0))))) = false) (b5 : (!(decide ((a2.length : Int) = 0))) = false) {K0 : Int → Bool}
    (c8 : ∀ {a1 : Int}, K0 a1 = res → PX Try.prog 0 S (QR Try.prog [(2, none)] (RF8 res)) [(0, v0), (4, b1), (6, a5), (8, b6), (11, vi a1)] ⟨0, []⟩) :
    ∀ {m : Nat} {a1 a0 : Int} (b9 : m = Int.toNat ((a3.1.length : Int) - a0)) (b3 : 0 ≤ a0), law06_DigraphAcyclic_L1 a3 K0 m a1 a0 = res → RC Try.prog (.loop ac8_L1) S (QR Try.prog [(2, none)] (RF8 res)) [(12, vi a0), (11, vi a1), (8, b6), (6, a5), (4, b1), (0, v0)] ⟨0, []⟩ := by
  have a6 := b7
  try simp only [qa, qaD] at a6
  have a8 := b2
  try simp only [qa, qaD] at a8
  have a9 := b5
  try simp only [qa, qaD] at a9
  intro m
  induction m with
  | zero =>
    intro a1 a0 b9 b3 hres
    rw [law06_DigraphAcyclic_L1] at hres
    refine rc_loop ?_
    refine rc_seq ?_
    refine sR ?_
    refine mV rfl ?_
    refine mV rfl ?_
    refine rd_op (ov_bi rfl (sl_len a4 Try.underlying31 _)) ?_
    refine bN i_lss rfl rfl ?_
    refine nS ?_
    refine rc_cond rfl ?_ ?_ <;> intro c <;> try simp only [qa, qaD] at c
    · omega
    refine rc_exit ?_
    refine px_seq ?_
    refine px_again ?_
    exact wP (c8  hres) rfl
  | succ m ih =>
    intro a1 a0 b9 b3 hres
    rw [law06_DigraphAcyclic_L1] at hres
    refine rc_loop ?_
    refine rc_seq ?_
    refine sR ?_
    refine mV rfl ?_
    refine mV rfl ?_
    refine rd_op (ov_bi rfl (sl_len a4 Try.underlying31 _)) ?_
    refine bN i_lss rfl rfl ?_
    refine nS ?_
    refine rc_cond rfl ?_ ?_ <;> intro c <;> try simp only [qa, qaD] at c
    rotate_left
    · omega
    refine rc_skip ?_
    refine pn_seq ?_
    refine rc_seq ?_
    refine rc_block ?_
    refine rc_region ?_
    refine mV rfl ?_
    refine mV rfl ?_
    refine mV rfl ?_
    refine rd_op (ov_iaddr rfl rfl (slI a4 (by omega) (by omega))) ?_
    refine lR rfl rfl rfl ?_
    refine rd_op (ov_bi rfl (max_int _ _)) ?_
    refine mV rfl ?_
    refine rd_nil ?_
    refine pn_blk ?_
    refine pn_seq ?_
    refine rc_region ?_
    refine mV rfl ?_
    refine bN i_add rfl rfl ?_
    refine mV rfl ?_
    refine rd_nil ?_
    refine pn_again ?_
    have hbd := sl_bound a4
    have hinc : wr (a0 + 1) = a0 + 1 := wr_of (by omega) (by omega)
    erw [hinc]
    exact wC (ih   (by omega) (by omega) hres) rfl

theorem f8_ok {x0 : List (List Int)} {v0 : PV} (r0 : (tSl (tSl tI)).R x0 v0) : FnR Try.prog 8 [v0] (vb (law06_DigraphAcyclic x0)) := by
  refine fnS (R := RF8) text8 (fun _ h => h) rfl fun res hres => ?_
  unfold law06_DigraphAcyclic at hres
  refine sR ?_
  refine mB rfl ?_
  refine nS ?_
  refine rc_seq ?_
  refine sR ?_
  refine mV rfl ?_
  obtain ⟨i2, b0, hres⟩ := let_ex hres
  have f1 := f13_ok  r0 
  rw [b0] at f1
  have a5 := large_sm b0
  refine cL f1 rfl rfl (clL_cons (TR.clo (tSl (tSl tI)) r0) clL_nil) ?_
  refine nS ?_
  refine rc_br hres rfl ?_ ?_ <;> clear hres <;> intro b9 hres <;> have d5 := b9 <;> try simp only [qa, qaD] at d5
  · refine sR ?_
    obtain ⟨i9, e2, hres⟩ := let_ex hres
    have f4 := f12_ok   
    rw [e2] at f4
    refine cL f4 rfl rfl clL_nil ?_
    refine mV rfl ?_
    refine nS ?_
    exact rR hres rfl rfl rfl
  · refine rc_skip ?_
    refine pn_seq ?_
    refine sR ?_
    refine mV rfl ?_
    obtain ⟨a0, b1, hres⟩ := let_ex hres
    obtain ⟨i5, g7, b2⟩ := f26_ok  r0 (by first | omega | exact a5 (by assumption))
    rw [b1] at b2
    have e4 : a0.length ≤ 1002 := cyc_len (a5 (by assumption)) b1
    refine cL g7 rfl rfl (clL_cons (TR.clo (tSl (tSl tI)) r0) clL_nil) ?_
    refine mV rfl ?_
    refine nR ?_
    refine mV rfl ?_
    obtain ⟨a1, b7, hres⟩ := let_ex hres
    obtain ⟨i4, e7, c6⟩ := f20_ok  r0 (by first | omega | exact a5 (by assumption))
    rw [b7] at e7 c6
    refine cL e7 rfl rfl (clL_cons (TR.clo (tSl (tSl tI)) r0) clL_nil) ?_
    refine mV rfl ?_
    refine xT rfl rfl ?_
    refine xT rfl rfl ?_
    refine mV rfl ?_
    refine mV rfl ?_
    refine nR ?_
    refine mV rfl ?_
    obtain ⟨a2, b6, hres⟩ := let_ex hres
    obtain ⟨i0, e8, b3⟩ := f22_ok  r0 (by first | omega | exact a5 (by assumption))
    rw [b6] at e8 b3
    refine cL e8 rfl rfl (clL_cons (TR.clo (tSl (tSl tI)) r0) clL_nil) ?_
    refine mV rfl ?_
    refine xT rfl rfl ?_
    refine xT rfl rfl ?_
    refine mV rfl ?_
    refine mV rfl ?_
    refine nR ?_
    refine mV rfl ?_
    obtain ⟨a3, a8, hres⟩ := let_ex hres
    obtain ⟨i1, f6, a9⟩ := f24_ok  r0 (by first | omega | exact a5 (by assumption))
    rw [a8] at f6 a9
    have f3 : a3.1.length ≤ 24001 := lp_len (a5 (by assumption)) a8
    refine cL f6 rfl rfl (clL_cons (TR.clo (tSl (tSl tI)) r0) clL_nil) ?_
    refine mV rfl ?_
    refine xT rfl rfl ?_
    refine xT rfl rfl ?_
    refine mV rfl ?_
    refine mV rfl ?_
    refine nR ?_
    refine mV rfl ?_
    refine rd_op (ov_bi rfl (sl_len b2 Try.underlying31 _)) ?_
    refine bN i_eql rfl rfl ?_
    refine mV rfl ?_
    refine nS ?_
    refine rc_seq ?_
    refine sR ?_
    refine mV rfl ?_
    refine mV rfl ?_
    refine bN (bin_neqb (by rw [Try.underlying4]; rfl)) rfl rfl ?_
    refine mV rfl ?_
    refine rd_cutn 4 (d := 43) (v := vb ((!decide (a1.2 = (decide ((a0.length : Int) = 0)))) || (!decide (a2.2 = (decide ((a0.length : Int) = 0)))))) ?_ ?_
    · intro S Q r
      cases d8 : (!decide (a1.2 = (decide ((a0.length : Int) = 0))))
      · intro k
        have c9 := d8
        try simp only [qa, qaD] at c9
        refine rd_yes rfl rfl (ov_move rfl) ?_
        refine rd_yes rfl rfl (ov_move rfl) ?_
        refine rd_yes rfl rfl (ov_bin rfl rfl (bin_neqb (by rw [Try.underlying4]; rfl))) ?_
        exact gK rfl rfl rfl rfl rfl k
      · exact gN 3 rfl rfl rfl rfl rfl rfl
    refine mV rfl ?_
    refine rd_cutn 4 (d := 48) (v := vb (((!decide (a1.2 = (decide ((a0.length : Int) = 0)))) || (!decide (a2.2 = (decide ((a0.length : Int) = 0))))) || (!decide (a3.2 = (decide ((a0.length : Int) = 0)))))) ?_ ?_
    · intro S Q r
      cases d9 : ((!decide (a1.2 = (decide ((a0.length : Int) = 0)))) || (!decide (a2.2 = (decide ((a0.length : Int) = 0)))))
      · intro k
        have d2 := d9
        try simp only [qa, qaD] at d2
        refine rd_yes rfl rfl (ov_move rfl) ?_
        refine rd_yes rfl rfl (ov_move rfl) ?_
        refine rd_yes rfl rfl (ov_bin rfl rfl (bin_neqb (by rw [Try.underlying4]; rfl))) ?_
        exact gK rfl rfl rfl rfl rfl k
      · exact gN 3 rfl rfl rfl rfl rfl rfl
    refine nS ?_
    refine rc_br hres rfl ?_ ?_ <;> clear hres <;> intro b8 hres <;> have c4 := b8 <;> try simp only [qa, qaD] at c4
    · refine sR ?_
      refine mB rfl ?_
      refine nS ?_
      exact rR hres rfl rfl rfl
    · refine rc_skip ?_
      refine pn_seq ?_
      refine rc_seq ?_
      refine sR ?_
      refine mV rfl ?_
      refine rd_op (ov_not rfl) ?_
      refine nS ?_
      refine rc_br hres rfl ?_ ?_ <;> clear hres <;> intro b5 hres <;> have d0 := b5 <;> try simp only [qa, qaD] at d0
      · refine rc_seq ?_
        refine rc_regionU ?_
        refine rx_step ?_
        refine mV rfl ?_
        refine rx_back ?_
        refine rx_step ?_
        refine rd_op (v := .fs true []) (ov_bslice rfl all_nil) ?_
        have h4 : (tSl tI).R ([] : List Int) (.fs true []) := sl_fs trivial (by simp)
        refine rx_back ?_
        refine rx_step ?_
        refine mV rfl ?_
        refine rx_back ?_
        refine rx_step ?_
        have g9 := h4
        have d1 : All2 tI.R ([] : List Int) ([] : List PV) := sl_all2 g9
        have g4 := mem_acc (sz := 1) (es := ([] : List PV)) (Mem.nil ⟨0, []⟩) 3 (.inr rfl) (All2.cnt (t := tI) d1)
        obtain ⟨a4, f0, c2⟩ := src_of (t := tI) (h := ⟨0, []⟩) b2
        have e0 : fits (([] : List PV).length + a4.length) 8 = true := by rw [All2.length_eq d1, All2.length_eq c2]; (try simp only [List.length_cons, List.length_nil]); exact fits_of (by first | omega | (simp only [List.length_append, List.length_cons, List.length_nil]; omega)) (by first | omega | (simp only [List.length_append, List.length_cons, List.length_nil]; omega))
        refine rd_appW (k := 0) (es := ([] : List PV)) (news := a4) g4 rfl rfl rfl rfl (.inl rfl) f0 e0 (fun i3 h6 g3 e9 h5 => ?_)
        have d3 : All2 tI.R a0 (([] : List PV) ++ a4) := All2.app d1 c2
        have h8 : a0.length ≤ 4611686018427387904 := by rw [← All2.length_eq d3, List.length_append]; exact fits_len e0
        refine rx_back ?_
        refine rx_step ?_
        refine mV rfl ?_
        refine rx_back ?_
        refine rx_step ?_
        refine rd_op (ov_iaddr rfl rfl (slI (i := 0) b2 (by omega) (by omega))) ?_
        refine rx_back ?_
        refine rx_step ?_
        refine lR rfl rfl rfl ?_
        refine rx_back ?_
        refine rx_step ?_
        refine rd_op (v := .fs true [vi (ix a0 0)]) (ov_bslice rfl (all_cons rfl all_nil)) ?_
        have h2 : (tSl tI).R ([(ix a0 0)] : List Int) (.fs true [vi (ix a0 0)]) := sl_fs ⟨rfl, trivial⟩ (by simp)
        refine rx_back ?_
        refine rx_step ?_
        obtain ⟨a7, g0, c3⟩ := src_of (t := tI) (h := h6) h2
        have e3 : fits ((([] : List PV) ++ a4).length + a7.length) 8 = true := by rw [All2.length_eq d3, All2.length_eq c3]; (try simp only [List.length_cons, List.length_nil]); exact fits_of (by first | omega | (simp only [List.length_append, List.length_cons, List.length_nil]; omega)) (by first | omega | (simp only [List.length_append, List.length_cons, List.length_nil]; omega))
        refine rd_appW (k := 0) (es := (([] : List PV) ++ a4)) (news := a7) h5 rfl rfl rfl g3 e9 g0 e3 (fun i6 i8 g8 h9 h0 => ?_)
        have e1 : All2 tI.R (a0 ++ ([(ix a0 0)] : List Int)) ((([] : List PV) ++ a4) ++ a7) := All2.app d3 c3
        have g2 : (a0 ++ ([(ix a0 0)] : List Int)).length ≤ 4611686018427387904 := by rw [← All2.length_eq e1, List.length_append]; exact fits_len e3
        refine rx_back ?_
        refine rx_step ?_
        obtain ⟨i7, h7, h3⟩ := own_sl (P := Try.prog) (k := 0) (t := tI) h0 rfl g8 e1 (Nat.le_trans g2 (by decide))
        obtain ⟨b4, f9, hres⟩ := let_ex hres
        have f2 := f31_ok  r0 h3 (by first | omega | (simp only [List.length_append, List.length_cons, List.length_nil]; omega))
        rw [f9] at f2
        refine rd_call (cv_lend rfl rfl (dl_cons (deep_closed (TR.clo (tSl (tSl tI)) r0)) (dl_cons h7 dl_nil)) f2 rfl) ?_
        refine rx_back ?_
        refine rx_step ?_
        refine mV rfl ?_
        refine rx_back ?_
        refine rx_cutn 10 (d := 71) (v := vb (b4 && (decide ((wr ((wr ((a1.1.length : Int) + (a2.1.length : Int))) + (a3.1.length : Int))) = 0)))) ?_ ?_
        · intro S Q r
          cases g1 : b4
          · intro k
            refine rx_step ?_
            refine rd_skip rfl rfl ?_
            refine rx_back ?_
            refine rx_step ?_
            refine rd_skip rfl rfl ?_
            refine rx_back ?_
            refine rx_step ?_
            refine rd_skip rfl rfl ?_
            refine rx_back ?_
            refine rx_step ?_
            refine rd_skip rfl rfl ?_
            refine rx_back ?_
            refine rx_step ?_
            refine rd_skip rfl rfl ?_
            refine rx_back ?_
            refine rx_step ?_
            refine rd_skip rfl rfl ?_
            refine rx_back ?_
            refine rx_step ?_
            refine rd_skip rfl rfl ?_
            refine rx_back ?_
            refine rx_step ?_
            refine rd_skip rfl rfl ?_
            refine rx_back ?_
            refine rx_step ?_
            refine rd_skip rfl rfl ?_
            refine rx_back ?_
            refine rx_step ?_
            refine rd_op (v := vb false) (ov_pick rfl rfl rfl rfl) ?_
            refine rx_back ?_
            exact rx_weak (sB rfl) k
          · intro k
            have c7 := g1
            try simp only [qa, qaD] at c7
            refine rx_step ?_
            refine rd_yes rfl rfl (ov_move rfl) ?_
            refine rx_back ?_
            refine rx_step ?_
            refine rd_yes rfl rfl (ov_bi rfl (sl_len c6 Try.underlying31 _)) ?_
            refine rx_back ?_
            refine rx_step ?_
            refine rd_yes rfl rfl (ov_move rfl) ?_
            refine rx_back ?_
            refine rx_step ?_
            refine rd_yes rfl rfl (ov_bi rfl (sl_len b3 Try.underlying31 _)) ?_
            refine rx_back ?_
            refine rx_step ?_
            refine rd_yes rfl rfl (ov_bin rfl rfl i_add) ?_
            refine rx_back ?_
            refine rx_step ?_
            refine rd_yes rfl rfl (ov_move rfl) ?_
            refine rx_back ?_
            refine rx_step ?_
            refine rd_yes rfl rfl (ov_bi rfl (sl_len a9 Try.underlying31 _)) ?_
            refine rx_back ?_
            refine rx_step ?_
            refine rd_yes rfl rfl (ov_bin rfl rfl i_add) ?_
            refine rx_back ?_
            refine rx_step ?_
            refine rd_yes rfl rfl (ov_bin rfl rfl i_eql) ?_
            refine rx_back ?_
            refine rx_step ?_
            refine rd_op (v := vb (decide ((wr ((wr ((a1.1.length : Int) + (a2.1.length : Int))) + (a3.1.length : Int))) = 0))) (ov_pick rfl rfl rfl rfl) ?_
            refine rx_back ?_
            exact rx_weak (sB rfl) k
        refine rx_step ?_
        refine mV rfl ?_
        refine rx_back ?_
        refine rx_cutn 2 (d := 74) (v := vb ((b4 && (decide ((wr ((wr ((a1.1.length : Int) + (a2.1.length : Int))) + (a3.1.length : Int))) = 0))) && (law06_works))) ?_ ?_
        · intro S Q r
          cases e6 : (b4 && (decide ((wr ((wr ((a1.1.length : Int) + (a2.1.length : Int))) + (a3.1.length : Int))) = 0)))
          · intro k
            refine rx_step ?_
            refine rd_skip rfl rfl ?_
            refine rx_back ?_
            refine rx_step ?_
            refine rd_op (v := vb false) (ov_pick rfl rfl rfl rfl) ?_
            refine rx_back ?_
            exact rx_weak (sB rfl) k
          · intro k
            have d4 := e6
            try simp only [qa, qaD] at d4
            refine rx_step ?_
            have g5 := f12_ok   
            refine rd_ycall rfl rfl (cv_fn rfl rfl clL_nil g5) ?_
            refine rx_back ?_
            refine rx_step ?_
            refine rd_op (v := vb (law06_works)) (ov_pick rfl rfl rfl rfl) ?_
            refine rx_back ?_
            exact rx_weak (sB rfl) k
        refine rx_step ?_
        refine mV rfl ?_
        refine rx_back ?_
        refine rx_nil ?_
        refine pn_seq ?_
        exact rR hres rfl rfl rfl
      · refine rc_skip ?_
        refine pn_seq ?_
        refine sR ?_
        refine mI rfl ?_
        refine nS ?_
        refine rc_seq ?_
        refine sR ?_
        refine mI rfl ?_
        refine nS ?_
        refine rc_block ?_
        refine wC (law06_DigraphAcyclic_L1_ok b0 b9 b1 e4 b7 b6 b3 a8 f3 b8 b5 ?_  rfl (by omega) hres) rfl
        · intro a6 hres
          refine px_blk ?_
          refine pn_seq ?_
          refine sR ?_
          refine mV rfl ?_
          refine rd_op (ov_bi rfl (sl_len c6 Try.underlying31 _)) ?_
          refine mV rfl ?_
          refine rd_op (ov_bi rfl (sl_len r0 Try.underlying22 _)) ?_
          refine bN i_eql rfl rfl ?_
          refine mV rfl ?_
          refine rd_cutn 6 (d := 98) (v := vb ((decide ((a1.1.length : Int) = (x0.length : Int))) && (decide ((a2.1.length : Int) = (x0.length : Int))))) ?_ ?_
          · intro S Q r
            cases f8 : (decide ((a1.1.length : Int) = (x0.length : Int)))
            · exact gN 5 rfl rfl rfl rfl rfl rfl
            · intro k
              have d7 := f8
              try simp only [qa, qaD] at d7
              refine rd_yes rfl rfl (ov_move rfl) ?_
              refine rd_yes rfl rfl (ov_bi rfl (sl_len b3 Try.underlying31 _)) ?_
              refine rd_yes rfl rfl (ov_move rfl) ?_
              refine rd_yes rfl rfl (ov_bi rfl (sl_len r0 Try.underlying22 _)) ?_
              refine rd_yes rfl rfl (ov_bin rfl rfl i_eql) ?_
              exact gK rfl rfl rfl rfl rfl k
          refine mV rfl ?_
          refine rd_cutn 4 (d := 103) (v := vb (((decide ((a1.1.length : Int) = (x0.length : Int))) && (decide ((a2.1.length : Int) = (x0.length : Int)))) && (law06_path x0 a3.1))) ?_ ?_
          · intro S Q r
            cases e5 : ((decide ((a1.1.length : Int) = (x0.length : Int))) && (decide ((a2.1.length : Int) = (x0.length : Int))))
            · exact gN 3 rfl rfl rfl rfl rfl rfl
            · intro k
              have d6 := e5
              try simp only [qa, qaD] at d6
              refine rd_yes rfl rfl (ov_move rfl) ?_
              refine rd_yes rfl rfl (ov_move rfl) ?_
              have h1 := f31_ok  r0 a9 (by first | omega | (simp only [List.length_append, List.length_cons, List.length_nil]; omega))
              refine rd_ycall rfl rfl (cv_fn rfl rfl (clL_cons (TR.clo (tSl (tSl tI)) r0) (clL_cons (TR.clo (tSl tI) a9) clL_nil)) h1) ?_
              exact gK rfl rfl rfl rfl rfl k
          refine mV rfl ?_
          refine rd_cutn 6 (d := 110) (v := vb ((((decide ((a1.1.length : Int) = (x0.length : Int))) && (decide ((a2.1.length : Int) = (x0.length : Int)))) && (law06_path x0 a3.1)) && (decide ((a3.1.length : Int) = (wr (a6 + 1)))))) ?_ ?_
          · intro S Q r
            cases f5 : (((decide ((a1.1.length : Int) = (x0.length : Int))) && (decide ((a2.1.length : Int) = (x0.length : Int)))) && (law06_path x0 a3.1))
            · exact gN 5 rfl rfl rfl rfl rfl rfl
            · intro k
              have c5 := f5
              try simp only [qa, qaD] at c5
              refine rd_yes rfl rfl (ov_move rfl) ?_
              refine rd_yes rfl rfl (ov_bi rfl (sl_len a9 Try.underlying31 _)) ?_
              refine rd_yes rfl rfl (ov_move rfl) ?_
              refine rd_yes rfl rfl (ov_bin rfl rfl i_add) ?_
              refine rd_yes rfl rfl (ov_bin rfl rfl i_eql) ?_
              exact gK rfl rfl rfl rfl rfl k
          refine mV rfl ?_
          refine rd_cutn 2 (d := 113) (v := vb (((((decide ((a1.1.length : Int) = (x0.length : Int))) && (decide ((a2.1.length : Int) = (x0.length : Int)))) && (law06_path x0 a3.1)) && (decide ((a3.1.length : Int) = (wr (a6 + 1))))) && (law06_works))) ?_ ?_
          · intro S Q r
            cases f7 : ((((decide ((a1.1.length : Int) = (x0.length : Int))) && (decide ((a2.1.length : Int) = (x0.length : Int)))) && (law06_path x0 a3.1)) && (decide ((a3.1.length : Int) = (wr (a6 + 1)))))
            · exact gN 1 rfl rfl rfl rfl rfl rfl
            · intro k
              have c8 := f7
              try simp only [qa, qaD] at c8
              have g6 := f12_ok   
              refine rd_ycall rfl rfl (cv_fn rfl rfl clL_nil g6) ?_
              exact gK rfl rfl rfl rfl rfl k
          refine mV rfl ?_
          refine nS ?_
          exact rR hres rfl rfl rfl

end Go.Proofs.Ytpdimhpjehfjeaa
