/-
  The code of each function does what its plain program says.
-/
import Derived.Test.YtpdimhpjehfjeaaL9W2
set_option linter.unusedVariables false
set_option linter.unusedSimpArgs false
set_option maxRecDepth 100000
namespace Go.Proofs.Ytpdimhpjehfjeaa
open Go Go.Pb Go.RowKit
def RF32 (res : Bool) (r : PV) : Prop := r = vb res
theorem ref06_Edge_L1_ok {S : List Fr} {res : Bool} {x0 : List (List Int)} {x1 x2 : Int} {v0 : PV} (r0 : (tSl (tSl tI)).R x0 v0) (a6 : ((((decide (x1 < 0)) || (decide ((x0.length : Int) ≤ x1))) || (decide (x2 < 0))) || (decide ((x0.length : Int) ≤ x2))) = false) {K0 : Unit → Bool}
    (b1 : K0 () = res → PX Try.prog 0 S (QR Try.prog [(6, none)] (RF32 res)) [] ⟨0, []⟩) :
    ∀ {m : Nat} {a0 : Int} (b0 : m = Int.toNat (((ix x0 x1).length : Int) - a0)) (a5 : 0 ≤ a0), ref06_Edge_L1 x0 x1 x2 K0 m a0 = res → RC Try.prog (.loop ac32_L1) S (QR Try.prog [(6, none)] (RF32 res)) [(7, vi a0), (2, vi x2), (1, vi x1), (0, v0)] ⟨0, []⟩ := by
  have a1 := a6
  try simp only [qa, qaD] at a1
  intro m
  induction m with
  | zero =>
    intro a0 b0 a5 hres
    rw [ref06_Edge_L1] at hres
    refine rc_loop ?_
    refine rc_seq ?_
    refine sR ?_
    refine mV rfl ?_
    refine mV rfl ?_
    refine mV rfl ?_
    obtain ⟨b4, a7, a3⟩ := sl_idx (i := x1) r0 (by omega) (by omega)
    refine rd_op (ov_iaddr rfl rfl a7) ?_
    refine lD a3 rfl rfl rfl ?_
    refine rd_op (ov_bi rfl (sl_len a3 Try.underlying31 _)) ?_
    refine bN i_lss rfl rfl ?_
    refine nS ?_
    refine rc_cond rfl ?_ ?_ <;> intro c <;> try simp only [qa, qaD] at c
    · omega
    refine rc_exit ?_
    refine px_seq ?_
    refine px_again ?_
    exact wP (b1  hres) rfl
  | succ m ih =>
    intro a0 b0 a5 hres
    rw [ref06_Edge_L1] at hres
    refine rc_loop ?_
    refine rc_seq ?_
    refine sR ?_
    refine mV rfl ?_
    refine mV rfl ?_
    refine mV rfl ?_
    obtain ⟨b3, a8, a2⟩ := sl_idx (i := x1) r0 (by omega) (by omega)
    refine rd_op (ov_iaddr rfl rfl a8) ?_
    refine lD a2 rfl rfl rfl ?_
    refine rd_op (ov_bi rfl (sl_len a2 Try.underlying31 _)) ?_
    refine bN i_lss rfl rfl ?_
    refine nS ?_
    refine rc_cond rfl ?_ ?_ <;> intro c <;> try simp only [qa, qaD] at c
    rotate_left
    · omega
    refine rc_skip ?_
    refine pn_seq ?_
    refine rc_seq ?_
    refine rc_block ?_
    refine sR ?_
    refine mV rfl ?_
    refine mV rfl ?_
    obtain ⟨b2, a9, a4⟩ := sl_idx (i := x1) r0 (by omega) (by omega)
    refine rd_op (ov_iaddr rfl rfl a9) ?_
    refine lD a4 rfl rfl rfl ?_
    refine mV rfl ?_
    refine rd_op (ov_iaddr rfl rfl (slI a4 (by omega) (by omega))) ?_
    refine lR rfl rfl rfl ?_
    refine mV rfl ?_
    refine bN i_eql rfl rfl ?_
    refine nS ?_
    refine rc_br hres rfl ?_ ?_ <;> clear hres <;> intro c hres <;> try simp only [qa, qaD] at c
    · refine sR ?_
      refine mB rfl ?_
      refine nS ?_
      exact rR hres rfl rfl rfl
    · refine rc_skip ?_
      refine pn_blk ?_
      refine pn_seq ?_
      refine rc_region ?_
      refine mV rfl ?_
      refine bN i_add rfl rfl ?_
      refine mV rfl ?_
      refine rd_nil ?_
      refine pn_again ?_
      have hbd := sl_bound a2
      have hinc : wr (a0 + 1) = a0 + 1 := wr_of (by omega) (by omega)
      erw [hinc]
      exact wC (ih   (by omega) (by omega) hres) rfl

theorem f32_ok {x0 : List (List Int)} {x1 x2 : Int} {v0 : PV} (r0 : (tSl (tSl tI)).R x0 v0) : FnR Try.prog 32 [v0, vi x1, vi x2] (vb (ref06_Edge x0 x1 x2)) := by
  refine fnS (R := RF32) text32 (fun _ h => h) rfl fun res hres => ?_
  unfold ref06_Edge at hres
  refine sR ?_
  refine mB rfl ?_
  refine nS ?_
  refine rc_seq ?_
  refine sR ?_
  refine mV rfl ?_
  refine bN i_lss rfl rfl ?_
  refine mV rfl ?_
  refine rd_cutn 5 (d := 15) (v := vb ((decide (x1 < 0)) || (decide ((x0.length : Int) ≤ x1)))) ?_ ?_
  · intro S Q r
    cases a5 : (decide (x1 < 0))
    · intro k
      have a2 := a5
      try simp only [qa, qaD] at a2
      refine rd_yes rfl rfl (ov_move rfl) ?_
      refine rd_yes rfl rfl (ov_move rfl) ?_
      refine rd_yes rfl rfl (ov_bi rfl (sl_len r0 Try.underlying22 _)) ?_
      refine rd_yes rfl rfl (ov_bin rfl rfl i_geq) ?_
      exact gK rfl rfl rfl rfl rfl k
    · exact gN 4 rfl rfl rfl rfl rfl rfl
  refine mV rfl ?_
  refine rd_cutn 3 (d := 19) (v := vb (((decide (x1 < 0)) || (decide ((x0.length : Int) ≤ x1))) || (decide (x2 < 0)))) ?_ ?_
  · intro S Q r
    cases a6 : ((decide (x1 < 0)) || (decide ((x0.length : Int) ≤ x1)))
    · intro k
      have a3 := a6
      try simp only [qa, qaD] at a3
      refine rd_yes rfl rfl (ov_move rfl) ?_
      refine rd_yes rfl rfl (ov_bin rfl rfl i_lss) ?_
      exact gK rfl rfl rfl rfl rfl k
    · exact gN 2 rfl rfl rfl rfl rfl rfl
  refine mV rfl ?_
  refine rd_cutn 5 (d := 25) (v := vb ((((decide (x1 < 0)) || (decide ((x0.length : Int) ≤ x1))) || (decide (x2 < 0))) || (decide ((x0.length : Int) ≤ x2)))) ?_ ?_
  · intro S Q r
    cases a7 : (((decide (x1 < 0)) || (decide ((x0.length : Int) ≤ x1))) || (decide (x2 < 0)))
    · intro k
      have a4 := a7
      try simp only [qa, qaD] at a4
      refine rd_yes rfl rfl (ov_move rfl) ?_
      refine rd_yes rfl rfl (ov_move rfl) ?_
      refine rd_yes rfl rfl (ov_bi rfl (sl_len r0 Try.underlying22 _)) ?_
      refine rd_yes rfl rfl (ov_bin rfl rfl i_geq) ?_
      exact gK rfl rfl rfl rfl rfl k
    · exact gN 4 rfl rfl rfl rfl rfl rfl
  refine nS ?_
  refine rc_br hres rfl ?_ ?_ <;> clear hres <;> intro a0 hres <;> have a1 := a0 <;> try simp only [qa, qaD] at a1
  · refine sR ?_
    refine mB rfl ?_
    refine nS ?_
    exact rR hres rfl rfl rfl
  · refine rc_skip ?_
    refine pn_seq ?_
    refine rc_seq ?_
    refine sR ?_
    refine mI rfl ?_
    refine nS ?_
    refine rc_block ?_
    refine wC (ref06_Edge_L1_ok r0 a0 ?_  rfl (by omega) hres) rfl
    · intro  hres
      refine px_blk ?_
      refine pn_seq ?_
      refine sR ?_
      refine mB rfl ?_
      refine nS ?_
      exact rR hres rfl rfl rfl

def RF9 (res : Bool) (r : PV) : Prop := r = vb res
theorem law06_DigraphReverses_L2_ok {S : List Fr} {res : Bool} {x0 : List (List Int)} {x1 x2 : Int} {b5 : Bool} {a3 : (List (List Int))} {b1 : (List Bool)} {b0 : (List Bool)} {a5 : (List Int) × Bool} {a2 : (List (List Int))} {a1 : Int} {v0 a8 : PV} (r0 : (tSl (tSl tI)).R x0 v0) (c7 : law06_large x0 = b5) (c4 : b5 = false) (c9 : digraph_Reverse x0 = a3) (d1 : digraph_Reachable x0 x1 = b1) (c5 : digraph_Reachable a3 x2 = b0) (c8 : digraph_ShortestPath x0 x1 x2 = a5) (c6 : digraph_Reverse a3 = a2) (b8 : (tSl (tSl tI)).R a2 a8) (b3 : (((!decide ((b1.length : Int) = (x0.length : Int))) || (!decide ((b0.length : Int) = (x0.length : Int)))) || (!decide ((a2.length : Int) = (x0.length : Int)))) = false) (b7 : (((((decide (0 ≤ x1)) && (decide (x1 < (x0.length : Int)))) && (decide (0 ≤ x2))) && (decide (x2 < (x0.length : Int)))) && ((!decide ((ix b1 x2) = a5.2)) || (!decide ((ix b0 x1) = a5.2)))) = false) (d3 : 0 ≤ a1) (b6 : (decide (a1 < (x0.length : Int))) = true) {K2 : Unit → Bool}
    (d4 : K2 () = res → PX Try.prog 2 S (QR Try.prog [(6, none)] (RF9 res)) [(0, v0), (12, a8), (13, vi a1)] ⟨0, []⟩) :
    ∀ {m : Nat} {a0 : Int} (d0 : m = Int.toNat ((x0.length : Int) - a0)) (b2 : 0 ≤ a0), law06_DigraphReverses_L2 x0 a2 a1 K2 m a0 = res → RC Try.prog (.loop ac9_L2) S (QR Try.prog [(6, none)] (RF9 res)) [(14, vi a0), (13, vi a1), (12, a8), (0, v0)] ⟨0, []⟩ := by
  have a6 := c4
  try simp only [qa, qaD] at a6
  have a4 := b3
  try simp only [qa, qaD] at a4
  have a7 := b7
  try simp only [qa, qaD] at a7
  have a9 := b6
  try simp only [qa, qaD] at a9
  intro m
  induction m with
  | zero =>
    intro a0 d0 b2 hres
    rw [law06_DigraphReverses_L2] at hres
    refine rc_loop ?_
    refine rc_seq ?_
    refine sR ?_
    refine mV rfl ?_
    refine mV rfl ?_
    refine rd_op (ov_bi rfl (sl_len r0 Try.underlying22 _)) ?_
    refine bN i_lss rfl rfl ?_
    refine nS ?_
    refine rc_cond rfl ?_ ?_ <;> intro c <;> try simp only [qa, qaD] at c
    · omega
    refine rc_exit ?_
    refine px_seq ?_
    refine px_again ?_
    exact wP (d4  hres) rfl
  | succ m ih =>
    intro a0 d0 b2 hres
    rw [law06_DigraphReverses_L2] at hres
    refine rc_loop ?_
    refine rc_seq ?_
    refine sR ?_
    refine mV rfl ?_
    refine mV rfl ?_
    refine rd_op (ov_bi rfl (sl_len r0 Try.underlying22 _)) ?_
    refine bN i_lss rfl rfl ?_
    refine nS ?_
    refine rc_cond rfl ?_ ?_ <;> intro c <;> try simp only [qa, qaD] at c
    rotate_left
    · omega
    refine rc_skip ?_
    refine pn_seq ?_
    refine rc_seq ?_
    refine rc_block ?_
    refine sR ?_
    refine mV rfl ?_
    refine mV rfl ?_
    refine mV rfl ?_
    obtain ⟨d2, b4, hres⟩ := let_ex hres
    have c3 := f32_ok (x1 := a1) (x2 := a0) r0 
    rw [b4] at c3
    refine cL c3 rfl rfl (clL_cons (TR.clo (tSl (tSl tI)) r0) (clL_cons rfl (clL_cons rfl clL_nil))) ?_
    refine mV rfl ?_
    refine mV rfl ?_
    refine mV rfl ?_
    obtain ⟨d5, b9, hres⟩ := let_ex hres
    have c2 := f32_ok (x1 := a1) (x2 := a0) b8 
    rw [b9] at c2
    refine cL c2 rfl rfl (clL_cons (TR.clo (tSl (tSl tI)) b8) (clL_cons rfl (clL_cons rfl clL_nil))) ?_
    refine bN (bin_neqb (by rw [Try.underlying4]; rfl)) rfl rfl ?_
    refine nS ?_
    refine rc_br hres rfl ?_ ?_ <;> clear hres <;> intro c hres <;> try simp only [qa, qaD] at c
    · refine sR ?_
      refine mB rfl ?_
      refine nS ?_
      exact rR hres rfl rfl rfl
    · refine rc_skip ?_
      refine pn_blk ?_
      refine pn_seq ?_
      refine rc_region ?_
      refine mV rfl ?_
      refine bN i_add rfl rfl ?_
      refine mV rfl ?_
      refine rd_nil ?_
      refine pn_again ?_
      have hbd := sl_bound r0
      have hinc : wr (a0 + 1) = a0 + 1 := wr_of (by omega) (by omega)
      erw [hinc]
      exact wC (ih   (by omega) (by omega) hres) rfl

theorem law06_DigraphReverses_L1_ok {S : List Fr} {res : Bool} {x0 : List (List Int)} {x1 x2 : Int} {b9 : Bool} {a6 : (List (List Int))} {b4 : (List Bool)} {b3 : (List Bool)} {a8 : (List Int) × Bool} {a2 : (List (List Int))} {v0 c3 : PV} (r0 : (tSl (tSl tI)).R x0 v0) (b7 : law06_large x0 = b9) (a5 : b9 = false) (c2 : digraph_Reverse x0 = a6) (c4 : digraph_Reachable x0 x1 = b4) (b5 : digraph_Reachable a6 x2 = b3) (b8 : digraph_ShortestPath x0 x1 x2 = a8) (b6 : digraph_Reverse a6 = a2) (c5 : (tSl (tSl tI)).R a2 c3) (a3 : (((!decide ((b4.length : Int) = (x0.length : Int))) || (!decide ((b3.length : Int) = (x0.length : Int)))) || (!decide ((a2.length : Int) = (x0.length : Int)))) = false) (a4 : (((((decide (0 ≤ x1)) && (decide (x1 < (x0.length : Int)))) && (decide (0 ≤ x2))) && (decide (x2 < (x0.length : Int)))) && ((!decide ((ix b4 x2) = a8.2)) || (!decide ((ix b3 x1) = a8.2)))) = false) {K0 : Unit → Bool}
    (c7 : K0 () = res → PX Try.prog 0 S (QR Try.prog [(6, none)] (RF9 res)) [] ⟨0, []⟩) :
    ∀ {m : Nat} {a0 : Int} (c6 : m = Int.toNat ((x0.length : Int) - a0)) (b1 : 0 ≤ a0), law06_DigraphReverses_L1 x0 a2 K0 m a0 = res → RC Try.prog (.loop ac9_L1) S (QR Try.prog [(6, none)] (RF9 res)) [(13, vi a0), (12, c3), (0, v0)] ⟨0, []⟩ := by
  have a9 := a5
  try simp only [qa, qaD] at a9
  have a7 := a3
  try simp only [qa, qaD] at a7
  have b0 := a4
  try simp only [qa, qaD] at b0
  intro m
  induction m with
  | zero =>
    intro a0 c6 b1 hres
    rw [law06_DigraphReverses_L1] at hres
    refine rc_loop ?_
    refine rc_seq ?_
    refine sR ?_
    refine mV rfl ?_
    refine mV rfl ?_
    refine rd_op (ov_bi rfl (sl_len r0 Try.underlying22 _)) ?_
    refine bN i_lss rfl rfl ?_
    refine nS ?_
    refine rc_cond rfl ?_ ?_ <;> intro c <;> try simp only [qa, qaD] at c
    · omega
    refine rc_exit ?_
    refine px_seq ?_
    refine px_again ?_
    exact wP (c7  hres) rfl
  | succ m ih =>
    intro a0 c6 b1 hres
    rw [law06_DigraphReverses_L1] at hres
    refine rc_loop ?_
    refine rc_seq ?_
    refine sR ?_
    refine mV rfl ?_
    refine mV rfl ?_
    refine rd_op (ov_bi rfl (sl_len r0 Try.underlying22 _)) ?_
    refine bN i_lss rfl rfl ?_
    refine nS ?_
    refine rc_cond rfl (fun a1 => ?_) (fun a1 => ?_)
    · have hgo := hres
      have b2 := a1
      try simp only [qa, qaD] at b2
      refine rc_skip ?_
      refine pn_seq ?_
      refine rc_seq ?_
      refine rc_block ?_
      refine sR ?_
      refine mI rfl ?_
      refine nS ?_
      refine rc_block ?_
      refine wC (law06_DigraphReverses_L2_ok r0 b7 a5 c2 c4 b5 b8 b6 c5 a3 a4 b1 a1 ?_  rfl (by omega) hres) rfl
      · intro  hres
        refine px_blk ?_
        refine pn_blk ?_
        refine pn_seq ?_
        refine rc_region ?_
        refine mV rfl ?_
        refine bN i_add rfl rfl ?_
        refine mV rfl ?_
        refine rd_nil ?_
        refine pn_again ?_
        have hbd := sl_bound r0
        have hinc : wr (a0 + 1) = a0 + 1 := wr_of (by omega) (by omega)
        erw [hinc]
        exact wC (ih   (by omega) (by omega) hres) rfl
    · exfalso
      try simp only [qa, qaD] at a1
      omega

theorem f9_ok {x0 : List (List Int)} {x1 x2 : Int} {v0 : PV} (r0 : (tSl (tSl tI)).R x0 v0) : FnR Try.prog 9 [v0, vi x1, vi x2] (vb (law06_DigraphReverses x0 x1 x2)) := by
  refine fnS (R := RF9) text9 (fun _ h => h) rfl fun res hres => ?_
  unfold law06_DigraphReverses at hres
  refine sR ?_
  refine mB rfl ?_
  refine nS ?_
  refine rc_seq ?_
  refine sR ?_
  refine mV rfl ?_
  obtain ⟨f3, a7, hres⟩ := let_ex hres
  have d9 := f13_ok  r0 
  rw [a7] at d9
  have a0 := large_sm a7
  refine cL d9 rfl rfl (clL_cons (TR.clo (tSl (tSl tI)) r0) clL_nil) ?_
  refine nS ?_
  refine rc_br hres rfl ?_ ?_ <;> clear hres <;> intro b4 hres <;> have b9 := b4 <;> try simp only [qa, qaD] at b9
  · refine sR ?_
    obtain ⟨f5, d0, hres⟩ := let_ex hres
    have d5 := f12_ok   
    rw [d0] at d5
    refine cL d5 rfl rfl clL_nil ?_
    refine mV rfl ?_
    refine nS ?_
    exact rR hres rfl rfl rfl
  · refine rc_skip ?_
    refine pn_seq ?_
    refine sR ?_
    refine mV rfl ?_
    obtain ⟨f0, a8, hres⟩ := let_ex hres
    obtain ⟨f7, e4, a5⟩ := f29_ok  r0 (by first | omega | exact a0 (by assumption) | exact a1 (a0 (by assumption)))
    rw [a8] at a5
    have a1 := fun hs => rev_sm hs a8
    refine cL e4 rfl rfl (clL_cons (TR.clo (tSl (tSl tI)) r0) clL_nil) ?_
    refine mV rfl ?_
    refine nR ?_
    refine mV rfl ?_
    refine mV rfl ?_
    obtain ⟨a2, b2, hres⟩ := let_ex hres
    obtain ⟨f6, e6, c5⟩ := f15_ok (x1 := x1) r0 (by first | omega | exact a0 (by assumption) | exact a1 (a0 (by assumption)))
    rw [b2] at c5
    refine cL e6 rfl rfl (clL_cons (TR.clo (tSl (tSl tI)) r0) (clL_cons rfl clL_nil)) ?_
    refine mV rfl ?_
    refine mV rfl ?_
    obtain ⟨a4, a9, hres⟩ := let_ex hres
    obtain ⟨f2, e3, b6⟩ := f15_ok (x1 := x2) a5 (by first | omega | exact a0 (by assumption) | exact a1 (a0 (by assumption)))
    rw [a9] at b6
    refine cL e3 rfl rfl (clL_cons (TR.clo (tSl (tSl tI)) a5) (clL_cons rfl clL_nil)) ?_
    refine mV rfl ?_
    refine mV rfl ?_
    refine nR ?_
    refine mV rfl ?_
    refine mV rfl ?_
    refine mV rfl ?_
    obtain ⟨a3, b1, hres⟩ := let_ex hres
    obtain ⟨f1, d3, e7⟩ := f17_ok (x1 := x1) (x2 := x2) r0 (by first | omega | exact a0 (by assumption) | exact a1 (a0 (by assumption)))
    rw [b1] at d3 e7
    refine cL d3 rfl rfl (clL_cons (TR.clo (tSl (tSl tI)) r0) (clL_cons rfl (clL_cons rfl clL_nil))) ?_
    refine mV rfl ?_
    refine xT rfl rfl ?_
    refine xT rfl rfl ?_
    refine mV rfl ?_
    refine mV rfl ?_
    refine nR ?_
    refine mV rfl ?_
    obtain ⟨e8, a6, hres⟩ := let_ex hres
    obtain ⟨f4, e5, c7⟩ := f29_ok  a5 (by first | omega | exact a0 (by assumption) | exact a1 (a0 (by assumption)))
    rw [a6] at c7
    have e9 := fun hs => rev_sm hs a6
    refine cL e5 rfl rfl (clL_cons (TR.clo (tSl (tSl tI)) a5) clL_nil) ?_
    refine mV rfl ?_
    refine nS ?_
    refine rc_seq ?_
    refine sR ?_
    refine mV rfl ?_
    refine rd_op (ov_bi rfl (sl_len c5 Try.underlying28 _)) ?_
    refine mV rfl ?_
    refine rd_op (ov_bi rfl (sl_len r0 Try.underlying22 _)) ?_
    refine bN i_neq rfl rfl ?_
    refine mV rfl ?_
    refine rd_cutn 6 (d := 46) (v := vb ((!decide ((a2.length : Int) = (x0.length : Int))) || (!decide ((a4.length : Int) = (x0.length : Int))))) ?_ ?_
    · intro S Q r
      cases e0 : (!decide ((a2.length : Int) = (x0.length : Int)))
      · intro k
        have c6 := e0
        try simp only [qa, qaD] at c6
        refine rd_yes rfl rfl (ov_move rfl) ?_
        refine rd_yes rfl rfl (ov_bi rfl (sl_len b6 Try.underlying28 _)) ?_
        refine rd_yes rfl rfl (ov_move rfl) ?_
        refine rd_yes rfl rfl (ov_bi rfl (sl_len r0 Try.underlying22 _)) ?_
        refine rd_yes rfl rfl (ov_bin rfl rfl i_neq) ?_
        exact gK rfl rfl rfl rfl rfl k
      · exact gN 5 rfl rfl rfl rfl rfl rfl
    refine mV rfl ?_
    refine rd_cutn 6 (d := 53) (v := vb (((!decide ((a2.length : Int) = (x0.length : Int))) || (!decide ((a4.length : Int) = (x0.length : Int)))) || (!decide ((e8.length : Int) = (x0.length : Int))))) ?_ ?_
    · intro S Q r
      cases e1 : ((!decide ((a2.length : Int) = (x0.length : Int))) || (!decide ((a4.length : Int) = (x0.length : Int))))
      · intro k
        have c9 := e1
        try simp only [qa, qaD] at c9
        refine rd_yes rfl rfl (ov_move rfl) ?_
        refine rd_yes rfl rfl (ov_bi rfl (sl_len c7 Try.underlying22 _)) ?_
        refine rd_yes rfl rfl (ov_move rfl) ?_
        refine rd_yes rfl rfl (ov_bi rfl (sl_len r0 Try.underlying22 _)) ?_
        refine rd_yes rfl rfl (ov_bin rfl rfl i_neq) ?_
        exact gK rfl rfl rfl rfl rfl k
      · exact gN 5 rfl rfl rfl rfl rfl rfl
    refine nS ?_
    refine rc_br hres rfl ?_ ?_ <;> clear hres <;> intro b0 hres <;> have b8 := b0 <;> try simp only [qa, qaD] at b8
    · refine sR ?_
      refine mB rfl ?_
      refine nS ?_
      exact rR hres rfl rfl rfl
    · refine rc_skip ?_
      refine pn_seq ?_
      refine rc_seq ?_
      refine sR ?_
      refine mV rfl ?_
      refine bN i_geq rfl rfl ?_
      refine mV rfl ?_
      refine rd_cutn 5 (d := 61) (v := vb ((decide (0 ≤ x1)) && (decide (x1 < (x0.length : Int))))) ?_ ?_
      · intro S Q r
        cases d6 : (decide (0 ≤ x1))
        · exact gN 4 rfl rfl rfl rfl rfl rfl
        · intro k
          have b7 := d6
          try simp only [qa, qaD] at b7
          refine rd_yes rfl rfl (ov_move rfl) ?_
          refine rd_yes rfl rfl (ov_move rfl) ?_
          refine rd_yes rfl rfl (ov_bi rfl (sl_len r0 Try.underlying22 _)) ?_
          refine rd_yes rfl rfl (ov_bin rfl rfl i_lss) ?_
          exact gK rfl rfl rfl rfl rfl k
      refine mV rfl ?_
      refine rd_cutn 3 (d := 65) (v := vb (((decide (0 ≤ x1)) && (decide (x1 < (x0.length : Int)))) && (decide (0 ≤ x2)))) ?_ ?_
      · intro S Q r
        cases d8 : ((decide (0 ≤ x1)) && (decide (x1 < (x0.length : Int))))
        · exact gN 2 rfl rfl rfl rfl rfl rfl
        · intro k
          have c8 := d8
          try simp only [qa, qaD] at c8
          refine rd_yes rfl rfl (ov_move rfl) ?_
          refine rd_yes rfl rfl (ov_bin rfl rfl i_geq) ?_
          exact gK rfl rfl rfl rfl rfl k
      refine mV rfl ?_
      refine rd_cutn 5 (d := 71) (v := vb ((((decide (0 ≤ x1)) && (decide (x1 < (x0.length : Int)))) && (decide (0 ≤ x2))) && (decide (x2 < (x0.length : Int))))) ?_ ?_
      · intro S Q r
        cases d2 : (((decide (0 ≤ x1)) && (decide (x1 < (x0.length : Int)))) && (decide (0 ≤ x2)))
        · exact gN 4 rfl rfl rfl rfl rfl rfl
        · intro k
          have c3 := d2
          try simp only [qa, qaD] at c3
          refine rd_yes rfl rfl (ov_move rfl) ?_
          refine rd_yes rfl rfl (ov_move rfl) ?_
          refine rd_yes rfl rfl (ov_bi rfl (sl_len r0 Try.underlying22 _)) ?_
          refine rd_yes rfl rfl (ov_bin rfl rfl i_lss) ?_
          exact gK rfl rfl rfl rfl rfl k
      refine mV rfl ?_
      refine rd_cutn 15 (d := 87) (v := vb (((((decide (0 ≤ x1)) && (decide (x1 < (x0.length : Int)))) && (decide (0 ≤ x2))) && (decide (x2 < (x0.length : Int)))) && ((!decide ((ix a2 x2) = a3.2)) || (!decide ((ix a4 x1) = a3.2))))) ?_ ?_
      · intro S Q r
        cases d7 : ((((decide (0 ≤ x1)) && (decide (x1 < (x0.length : Int)))) && (decide (0 ≤ x2))) && (decide (x2 < (x0.length : Int))))
        · exact gN 14 rfl rfl rfl rfl rfl rfl
        · intro k
          have c4 := d7
          try simp only [qa, qaD] at c4
          refine rd_yes rfl rfl (ov_move rfl) ?_
          refine rd_yes rfl rfl (ov_move rfl) ?_
          refine rd_yes rfl rfl (ov_iaddr rfl rfl (slB c5 (by omega) (by omega))) ?_
          refine rd_yes rfl rfl (ov_load rfl rfl rfl) ?_
          refine rd_yes rfl rfl (ov_move rfl) ?_
          refine rd_yes rfl rfl (ov_bin rfl rfl (bin_neqb (by rw [Try.underlying4]; rfl))) ?_
          refine rd_yes rfl rfl (ov_move rfl) ?_
          refine rd_cutn 7 (d := 86) (v := vb ((!decide ((ix a2 x2) = a3.2)) || (!decide ((ix a4 x1) = a3.2)))) ?_ ?_
          · intro S Q r
            cases e2 : (!decide ((ix a2 x2) = a3.2))
            · intro k
              have b5 := e2
              try simp only [qa, qaD] at b5
              refine rd_yes rfl rfl (ov_move rfl) ?_
              refine rd_yes rfl rfl (ov_move rfl) ?_
              refine rd_yes rfl rfl (ov_iaddr rfl rfl (slB b6 (by omega) (by omega))) ?_
              refine rd_yes rfl rfl (ov_load rfl rfl rfl) ?_
              refine rd_yes rfl rfl (ov_move rfl) ?_
              refine rd_yes rfl rfl (ov_bin rfl rfl (bin_neqb (by rw [Try.underlying4]; rfl))) ?_
              refine rd_yes (v := vb (!decide ((ix a4 x1) = a3.2))) rfl rfl (ov_pick rfl rfl rfl rfl) ?_
              exact wD k rfl
            · intro k
              refine rd_skip rfl rfl ?_
              refine rd_skip rfl rfl ?_
              refine rd_skip rfl rfl ?_
              refine rd_skip rfl rfl ?_
              refine rd_skip rfl rfl ?_
              refine rd_skip rfl rfl ?_
              refine rd_yes (v := vb true) rfl rfl (ov_pick rfl rfl rfl rfl) ?_
              exact wD k rfl
          exact gK rfl rfl rfl rfl rfl k
      refine nS ?_
      refine rc_br hres rfl ?_ ?_ <;> clear hres <;> intro b3 hres <;> have c2 := b3 <;> try simp only [qa, qaD] at c2
      · refine sR ?_
        refine mB rfl ?_
        refine nS ?_
        exact rR hres rfl rfl rfl
      · refine rc_skip ?_
        refine pn_seq ?_
        refine rc_seq ?_
        refine sR ?_
        refine mI rfl ?_
        refine nS ?_
        refine rc_block ?_
        refine wC (law06_DigraphReverses_L1_ok r0 a7 b4 a8 b2 a9 b1 a6 c7 b0 b3 ?_  rfl (by omega) hres) rfl
        · intro  hres
          refine px_blk ?_
          refine pn_seq ?_
          refine sR ?_
          obtain ⟨f8, d1, hres⟩ := let_ex hres
          have d4 := f12_ok   
          rw [d1] at d4
          refine cL d4 rfl rfl clL_nil ?_
          refine mV rfl ?_
          refine nS ?_
          exact rR hres rfl rfl rfl

end Go.Proofs.Ytpdimhpjehfjeaa
