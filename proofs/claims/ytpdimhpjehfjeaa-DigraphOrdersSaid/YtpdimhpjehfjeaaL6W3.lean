/-
  The code of each function does what its plain program says.
-/
import Derived.Test.YtpdimhpjehfjeaaL6W2
set_option linter.unusedVariables false
set_option linter.unusedSimpArgs false
set_option maxRecDepth 100000
namespace Go.Proofs.Ytpdimhpjehfjeaa
open Go Go.Pb Go.RowKit
def RF32 (res : Bool) (r : PV) : Prop := r = vb res
theorem ref06_Edge_L1_ok {S : List Fr} {res : Bool} {x0 : List (List Int)} {x1 x2 : Int} {v0 : PV} (r0 : (tSl (tSl tI)).R x0 v0) (a3 : ((((decide (x1 < 0)) || (decide ((x0.length : Int) ≤ x1))) || (decide (x2 < 0))) || (decide ((x0.length : Int) ≤ x2))) = false) {K0 : Unit → Bool}
    (b3 : K0 () = res → PX Try.prog 0 S (QR Try.prog [(6, none)] (RF32 res)) [] ⟨0, []⟩) :
    ∀ {m : Nat} {a0 : Int} (b0 : m = Int.toNat (((ix x0 x1).length : Int) - a0)) (a5 : 0 ≤ a0), ref06_Edge_L1 x0 x1 x2 K0 m a0 = res → RC Try.prog (.loop ac32_L1) S (QR Try.prog [(6, none)] (RF32 res)) [(7, vi a0), (2, vi x2), (1, vi x1), (0, v0)] ⟨0, []⟩ := by
  have a2 := a3
  try simp only [qa, qaD] at a2
  intro m
  induction m with
  | zero =>
    intro a0 b0 a5 hres
    rw [ref06_Edge_L1] at hres
    refine rc_loop ?_
    refine rc_seq ?_
    refine sR ?_
    refine mV rfl ?_
    refine mV rfl ?_
    refine mV rfl ?_
    obtain ⟨b4, a9, a4⟩ := sl_idx (i := x1) r0 (by omega) (by omega)
    refine rd_op (ov_iaddr rfl rfl a9) ?_
    refine lD a4 rfl rfl rfl ?_
    refine rd_op (ov_bi rfl (sl_len a4 Try.underlying31 _)) ?_
    refine bN i_lss rfl rfl ?_
    refine nS ?_
    refine rc_cond rfl ?_ ?_ <;> intro c <;> try simp only [qa, qaD] at c
    · omega
    refine rc_exit ?_
    refine px_seq ?_
    refine px_again ?_
    exact wP (b3  hres) rfl
  | succ m ih =>
    intro a0 b0 a5 hres
    rw [ref06_Edge_L1] at hres
    refine rc_loop ?_
    refine rc_seq ?_
    refine sR ?_
    refine mV rfl ?_
    refine mV rfl ?_
    refine mV rfl ?_
    obtain ⟨b1, a7, a1⟩ := sl_idx (i := x1) r0 (by omega) (by omega)
    refine rd_op (ov_iaddr rfl rfl a7) ?_
    refine lD a1 rfl rfl rfl ?_
    refine rd_op (ov_bi rfl (sl_len a1 Try.underlying31 _)) ?_
    refine bN i_lss rfl rfl ?_
    refine nS ?_
    refine rc_cond rfl ?_ ?_ <;> intro c <;> try simp only [qa, qaD] at c
    rotate_left
    · omega
    refine rc_skip ?_
    refine pn_seq ?_
    refine rc_seq ?_
    refine rc_block ?_
    refine sR ?_
    refine mV rfl ?_
    refine mV rfl ?_
    obtain ⟨b2, a8, a6⟩ := sl_idx (i := x1) r0 (by omega) (by omega)
    refine rd_op (ov_iaddr rfl rfl a8) ?_
    refine lD a6 rfl rfl rfl ?_
    refine mV rfl ?_
    refine rd_op (ov_iaddr rfl rfl (slI a6 (by omega) (by omega))) ?_
    refine lR rfl rfl rfl ?_
    refine mV rfl ?_
    refine bN i_eql rfl rfl ?_
    refine nS ?_
    refine rc_br hres rfl ?_ ?_ <;> clear hres <;> intro c hres <;> try simp only [qa, qaD] at c
    · refine sR ?_
      refine mB rfl ?_
      refine nS ?_
      exact rR hres rfl rfl rfl
    · refine rc_skip ?_
      refine pn_blk ?_
      refine pn_seq ?_
      refine rc_region ?_
      refine mV rfl ?_
      refine bN i_add rfl rfl ?_
      refine mV rfl ?_
      refine rd_nil ?_
      refine pn_again ?_
      have hbd := sl_bound a1
      have hinc : wr (a0 + 1) = a0 + 1 := wr_of (by omega) (by omega)
      erw [hinc]
      exact wC (ih   (by omega) (by omega) hres) rfl

theorem f32_ok {x0 : List (List Int)} {x1 x2 : Int} {v0 : PV} (r0 : (tSl (tSl tI)).R x0 v0) : FnR Try.prog 32 [v0, vi x1, vi x2] (vb (ref06_Edge x0 x1 x2)) := by
  refine fnS (R := RF32) text32 (fun _ h => h) rfl fun res hres => ?_
  unfold ref06_Edge at hres
  refine sR ?_
  refine mB rfl ?_
  refine nS ?_
  refine rc_seq ?_
  refine sR ?_
  refine mV rfl ?_
  refine bN i_lss rfl rfl ?_
  refine mV rfl ?_
  refine rd_cutn 5 (d := 15) (v := vb ((decide (x1 < 0)) || (decide ((x0.length : Int) ≤ x1)))) ?_ ?_
  · intro S Q r
    cases a6 : (decide (x1 < 0))
    · intro k
      have a2 := a6
      try simp only [qa, qaD] at a2
      refine rd_yes rfl rfl (ov_move rfl) ?_
      refine rd_yes rfl rfl (ov_move rfl) ?_
      refine rd_yes rfl rfl (ov_bi rfl (sl_len r0 Try.underlying22 _)) ?_
      refine rd_yes rfl rfl (ov_bin rfl rfl i_geq) ?_
      exact gK rfl rfl rfl rfl rfl k
    · exact gN 4 rfl rfl rfl rfl rfl rfl
  refine mV rfl ?_
  refine rd_cutn 3 (d := 19) (v := vb (((decide (x1 < 0)) || (decide ((x0.length : Int) ≤ x1))) || (decide (x2 < 0)))) ?_ ?_
  · intro S Q r
    cases a5 : ((decide (x1 < 0)) || (decide ((x0.length : Int) ≤ x1)))
    · intro k
      have a1 := a5
      try simp only [qa, qaD] at a1
      refine rd_yes rfl rfl (ov_move rfl) ?_
      refine rd_yes rfl rfl (ov_bin rfl rfl i_lss) ?_
      exact gK rfl rfl rfl rfl rfl k
    · exact gN 2 rfl rfl rfl rfl rfl rfl
  refine mV rfl ?_
  refine rd_cutn 5 (d := 25) (v := vb ((((decide (x1 < 0)) || (decide ((x0.length : Int) ≤ x1))) || (decide (x2 < 0))) || (decide ((x0.length : Int) ≤ x2)))) ?_ ?_
  · intro S Q r
    cases a7 : (((decide (x1 < 0)) || (decide ((x0.length : Int) ≤ x1))) || (decide (x2 < 0)))
    · intro k
      have a3 := a7
      try simp only [qa, qaD] at a3
      refine rd_yes rfl rfl (ov_move rfl) ?_
      refine rd_yes rfl rfl (ov_move rfl) ?_
      refine rd_yes rfl rfl (ov_bi rfl (sl_len r0 Try.underlying22 _)) ?_
      refine rd_yes rfl rfl (ov_bin rfl rfl i_geq) ?_
      exact gK rfl rfl rfl rfl rfl k
    · exact gN 4 rfl rfl rfl rfl rfl rfl
  refine nS ?_
  refine rc_br hres rfl ?_ ?_ <;> clear hres <;> intro a0 hres <;> have a4 := a0 <;> try simp only [qa, qaD] at a4
  · refine sR ?_
    refine mB rfl ?_
    refine nS ?_
    exact rR hres rfl rfl rfl
  · refine rc_skip ?_
    refine pn_seq ?_
    refine rc_seq ?_
    refine sR ?_
    refine mI rfl ?_
    refine nS ?_
    refine rc_block ?_
    refine wC (ref06_Edge_L1_ok r0 a0 ?_  rfl (by omega) hres) rfl
    · intro  hres
      refine px_blk ?_
      refine pn_seq ?_
      refine sR ?_
      refine mB rfl ?_
      refine nS ?_
      exact rR hres rfl rfl rfl

def RF21 (res : (List Int) × Bool) (r : PV) : Prop := ∃ c0, r = .tup [c0, vb res.2] ∧ (tSl tI).R res.1 c0
theorem ref06_TopologicalOrder_L3_ok {S : List Fr} {res : (List Int) × Bool} {x0 : List (List Int)} {b0 : List Int} {a0 : List Bool} {c7 a8 : Int} {v0 : PV} {a4 : List PV} {a1 : PV} {a3 : List PV} {a7 a6 : Nat} (r0 : (tSl (tSl tI)).R x0 v0) (hn : x0.length ≤ 1000) (d7 : (List.replicate x0.length false).length = x0.length) (e2 : (List.replicate x0.length false).length ≤ 4611686018427387904) (d9 : isL a1 = true) (c8 : Wri a1 a4) (d2 : b0.length ≤ 4611686018427387904) (b9 : All2 tB.R a0 a3) (d3 : a0.length = x0.length) (d1 : a0.length ≤ 4611686018427387904) (c5 : (decide ((b0.length : Int) < (x0.length : Int))) = true) (e3 : 0 ≤ a8) (e0 : c7 < (x0.length : Int)) (c2 : ((decide (a8 < (x0.length : Int))) && (decide (c7 < 0))) = true) (d5 : 0 ≤ a8) (c9 : a8 < (a0.length : Int)) {K4 : Bool → ((List Int) × Bool)}
    (e1 : ∀ {a9 : Bool} {h : Heap} (M0 : Mem h [⟨a1, 3, 1, a4⟩, ⟨.os a7 a6 0 x0.length, 4, 1, a3⟩]), K4 a9 = res → PX Try.prog 4 S (QR Try.prog [(2, none), (3, none)] (RF21 res)) [(0, v0), (4, .os a7 a6 0 x0.length), (5, a1), (6, vi c7), (7, vi a8), (8, vb a9)] h) :
    ∀ {m : Nat} {a9 : Bool} {a2 : Int} (d8 : m = Int.toNat ((x0.length : Int) - a2)) (c6 : 0 ≤ a2) {h : Heap} (M0 : Mem h [⟨a1, 3, 1, a4⟩, ⟨.os a7 a6 0 x0.length, 4, 1, a3⟩]), ref06_TopologicalOrder_L3 x0 a0 a8 K4 m a9 a2 = res → RC Try.prog (.loop ac21_L3) S (QR Try.prog [(2, none), (3, none)] (RF21 res)) [(9, vi a2), (8, vb a9), (7, vi a8), (6, vi c7), (5, a1), (4, .os a7 a6 0 x0.length), (0, v0)] h := by
  have b4 := c5
  try simp only [qa, qaD] at b4
  have b3 := c2
  try simp only [qa, qaD] at b3
  intro m
  induction m with
  | zero =>
    intro a9 a2 d8 c6 h M0 hres
    rw [ref06_TopologicalOrder_L3] at hres
    refine rc_loop ?_
    refine rc_seq ?_
    refine sR ?_
    refine mV rfl ?_
    refine mV rfl ?_
    refine rd_op (ov_bi rfl (sl_len r0 Try.underlying22 _)) ?_
    refine bN i_lss rfl rfl ?_
    refine mV rfl ?_
    refine rd_cutn 2 (d := 39) (v := vb ((decide (a2 < (x0.length : Int))) && a9)) ?_ ?_
    · intro S Q r
      cases c3 : (decide (a2 < (x0.length : Int)))
      · exact gN 1 rfl rfl rfl rfl rfl rfl
      · intro k
        have b1 := c3
        try simp only [qa, qaD] at b1
        refine rd_yes rfl rfl (ov_move rfl) ?_
        exact gK rfl rfl rfl rfl rfl k
    refine nS ?_
    refine rc_cond rfl ?_ ?_ <;> intro c <;> try simp only [qa, qaD] at c
    · omega
    refine rc_exit ?_
    refine px_seq ?_
    refine px_again ?_
    exact wP (e1 (Mem.sub M0 (.cons_cons _ (.cons_cons _ .slnil))) hres) rfl
  | succ m ih =>
    intro a9 a2 d8 c6 h M0 hres
    rw [ref06_TopologicalOrder_L3] at hres
    refine rc_loop ?_
    refine rc_seq ?_
    refine sR ?_
    refine mV rfl ?_
    refine mV rfl ?_
    refine rd_op (ov_bi rfl (sl_len r0 Try.underlying22 _)) ?_
    refine bN i_lss rfl rfl ?_
    refine mV rfl ?_
    refine rd_cutn 2 (d := 39) (v := vb ((decide (a2 < (x0.length : Int))) && a9)) ?_ ?_
    · intro S Q r
      cases c4 : (decide (a2 < (x0.length : Int)))
      · exact gN 1 rfl rfl rfl rfl rfl rfl
      · intro k
        have b2 := c4
        try simp only [qa, qaD] at b2
        refine rd_yes rfl rfl (ov_move rfl) ?_
        exact gK rfl rfl rfl rfl rfl k
    refine nS ?_
    refine rc_br hres rfl ?_ ?_ <;> clear hres <;> intro c hres <;> try simp only [qa, qaD] at c
    · refine rc_skip ?_
      refine pn_seq ?_
      refine rc_seq ?_
      refine rc_block ?_
      refine rc_region ?_
      refine mV rfl ?_
      refine mV rfl ?_
      have a5 : 0 ≤ a2 := (by omega)
      have b7 : a2 < (a0.length : Int) := (by omega)
      refine rd_op (ov_iaddr rfl rfl (n_idx 1 a5 (by omega))) ?_
      obtain ⟨d6, d0, b6⟩ := elem_at (i := a2) b9 a5 b7
      have b6 : d6 = vb (ix a0 a2) := b6; subst b6
      refine rd_op (ov_elem (k := 1) M0 rfl rfl d0 rfl) ?_
      refine mV rfl ?_
      refine rd_cutn 6 (d := 52) (v := vb ((ix a0 a2) || (!(ref06_Edge x0 a2 a8)))) ?_ ?_
      · intro S Q r
        cases b8 : (ix a0 a2)
        · intro k
          have b5 := b8
          try simp only [qa, qaD] at b5
          refine rd_yes rfl rfl (ov_move rfl) ?_
          refine rd_yes rfl rfl (ov_move rfl) ?_
          refine rd_yes rfl rfl (ov_move rfl) ?_
          have d4 := f32_ok (x1 := a2) (x2 := a8) r0 
          refine rd_ycall rfl rfl (cv_fn rfl rfl (clL_cons (TR.clo (tSl (tSl tI)) r0) (clL_cons rfl (clL_cons rfl clL_nil))) d4) ?_
          refine rd_yes rfl rfl (ov_not rfl) ?_
          exact gK rfl rfl rfl rfl rfl k
        · exact gN 5 rfl rfl rfl rfl rfl rfl
      refine mV rfl ?_
      refine rd_nil ?_
      refine pn_blk ?_
      refine pn_seq ?_
      refine rc_region ?_
      refine mV rfl ?_
      refine bN i_add rfl rfl ?_
      refine mV rfl ?_
      refine rd_nil ?_
      refine pn_again ?_
      have hbd := sl_bound r0
      have hinc : wr (a2 + 1) = a2 + 1 := wr_of (by omega) (by omega)
      erw [hinc]
      exact wC (ih   (by omega) (by omega) (Mem.sub M0 (.cons_cons _ (.cons_cons _ .slnil))) hres) rfl
    · refine rc_exit ?_
      refine px_seq ?_
      refine px_again ?_
      exact wP (e1 (Mem.sub M0 (.cons_cons _ (.cons_cons _ .slnil))) hres) rfl

theorem ref06_TopologicalOrder_L2_ok {S : List Fr} {res : (List Int) × Bool} {x0 : List (List Int)} {b3 : List Int} {a1 : List Bool} {v0 : PV} {a4 : List PV} {a0 : PV} {a3 : List PV} {b0 a9 : Nat} (r0 : (tSl (tSl tI)).R x0 v0) (hn : x0.length ≤ 1000) (c7 : (List.replicate x0.length false).length = x0.length) (d2 : (List.replicate x0.length false).length ≤ 4611686018427387904) (c9 : isL a0 = true) (b6 : Wri a0 a4) (c2 : b3.length ≤ 4611686018427387904) (b1 : All2 tB.R a1 a3) (c4 : a1.length = x0.length) (b9 : a1.length ≤ 4611686018427387904) (b4 : (decide ((b3.length : Int) < (x0.length : Int))) = true) {K2 : Int → ((List Int) × Bool)}
    (d6 : ∀ {a7 : Int} (d9 : a7 < (x0.length : Int)) {h : Heap} (M0 : Mem h [⟨a0, 3, 1, a4⟩, ⟨.os b0 a9 0 x0.length, 4, 1, a3⟩]), K2 a7 = res → PX Try.prog 2 S (QR Try.prog [(2, none), (3, none)] (RF21 res)) [(0, v0), (4, .os b0 a9 0 x0.length), (5, a0), (6, vi a7)] h) :
    ∀ {m : Nat} {a7 a2 : Int} (d7 : m = Int.toNat ((x0.length : Int) - a2)) (c3 : 0 ≤ a2) (a8 : a7 < (x0.length : Int)) {h : Heap} (M0 : Mem h [⟨a0, 3, 1, a4⟩, ⟨.os b0 a9 0 x0.length, 4, 1, a3⟩]), ref06_TopologicalOrder_L2 x0 a1 K2 m a7 a2 = res → RC Try.prog (.loop ac21_L2) S (QR Try.prog [(2, none), (3, none)] (RF21 res)) [(7, vi a2), (6, vi a7), (5, a0), (4, .os b0 a9 0 x0.length), (0, v0)] h := by
  have b7 := b4
  try simp only [qa, qaD] at b7
  intro m
  induction m with
  | zero =>
    intro a7 a2 d7 c3 a8 h M0 hres
    rw [ref06_TopologicalOrder_L2] at hres
    refine rc_loop ?_
    refine rc_seq ?_
    refine sR ?_
    refine mV rfl ?_
    refine mV rfl ?_
    refine rd_op (ov_bi rfl (sl_len r0 Try.underlying22 _)) ?_
    refine bN i_lss rfl rfl ?_
    refine mV rfl ?_
    refine rd_cutn 3 (d := 25) (v := vb ((decide (a2 < (x0.length : Int))) && (decide (a7 < 0)))) ?_ ?_
    · intro S Q r
      cases d0 : (decide (a2 < (x0.length : Int)))
      · exact gN 2 rfl rfl rfl rfl rfl rfl
      · intro k
        have b8 := d0
        try simp only [qa, qaD] at b8
        refine rd_yes rfl rfl (ov_move rfl) ?_
        refine rd_yes rfl rfl (ov_bin rfl rfl i_lss) ?_
        exact gK rfl rfl rfl rfl rfl k
    refine nS ?_
    refine rc_cond rfl ?_ ?_ <;> intro c <;> try simp only [qa, qaD] at c
    · omega
    refine rc_exit ?_
    refine px_seq ?_
    refine px_again ?_
    exact wP (d6 (by omega) (Mem.sub M0 (.cons_cons _ (.cons_cons _ .slnil))) hres) rfl
  | succ m ih =>
    intro a7 a2 d7 c3 a8 h M0 hres
    rw [ref06_TopologicalOrder_L2] at hres
    refine rc_loop ?_
    refine rc_seq ?_
    refine sR ?_
    refine mV rfl ?_
    refine mV rfl ?_
    refine rd_op (ov_bi rfl (sl_len r0 Try.underlying22 _)) ?_
    refine bN i_lss rfl rfl ?_
    refine mV rfl ?_
    refine rd_cutn 3 (d := 25) (v := vb ((decide (a2 < (x0.length : Int))) && (decide (a7 < 0)))) ?_ ?_
    · intro S Q r
      cases d1 : (decide (a2 < (x0.length : Int)))
      · exact gN 2 rfl rfl rfl rfl rfl rfl
      · intro k
        have c6 := d1
        try simp only [qa, qaD] at c6
        refine rd_yes rfl rfl (ov_move rfl) ?_
        refine rd_yes rfl rfl (ov_bin rfl rfl i_lss) ?_
        exact gK rfl rfl rfl rfl rfl k
    refine nS ?_
    refine rc_br hres rfl ?_ ?_ <;> clear hres <;> intro b2 hres <;> have b5 := b2 <;> try simp only [qa, qaD] at b5
    · refine rc_skip ?_
      refine pn_seq ?_
      refine rc_seq ?_
      refine rc_block ?_
      refine sR ?_
      refine mV rfl ?_
      refine mV rfl ?_
      have a5 : 0 ≤ a2 := (by omega)
      have a6 : a2 < (a1.length : Int) := (by omega)
      refine rd_op (ov_iaddr rfl rfl (n_idx 1 a5 (by omega))) ?_
      obtain ⟨d4, d5, c5⟩ := elem_at (i := a2) b1 a5 a6
      have c5 : d4 = vb (ix a1 a2) := c5; subst c5
      refine rd_op (ov_elem (k := 1) M0 rfl rfl d5 rfl) ?_
      refine rd_op (ov_not rfl) ?_
      refine mV rfl ?_
      refine nS ?_
      refine rc_seq ?_
      refine sR ?_
      refine mI rfl ?_
      refine nS ?_
      refine rc_block ?_
      refine wC (ref06_TopologicalOrder_L3_ok r0 hn c7 d2 c9 b6 c2 b1 c4 b9 b4 c3 a8 b2 a5 a6 ?_  rfl (by omega) (Mem.sub M0 (.cons_cons _ (.cons_cons _ .slnil))) hres) rfl
      · intro d3 d8 c8 hres
        refine px_blk ?_
        refine pn_seq ?_
        refine sR ?_
        refine mV rfl ?_
        refine nS ?_
        refine rc_br hres rfl ?_ ?_ <;> clear hres <;> intro c hres <;> try simp only [qa, qaD] at c
        · refine rc_region ?_
          refine mV rfl ?_
          refine mV rfl ?_
          refine rd_nil ?_
          refine pn_blk ?_
          refine pn_seq ?_
          refine rc_region ?_
          refine mV rfl ?_
          refine bN i_add rfl rfl ?_
          refine mV rfl ?_
          refine rd_nil ?_
          refine pn_again ?_
          have hbd := sl_bound r0
          have hinc : wr (a2 + 1) = a2 + 1 := wr_of (by omega) (by omega)
          erw [hinc]
          exact wC (ih   (by omega) (by omega) (by first | omega | (simp; done) | (simp only [List.length_append, List.length_cons, List.length_nil, List.length_set]; omega)) (Mem.sub c8 (.cons_cons _ (.cons_cons _ .slnil))) hres) rfl
        · refine rc_skip ?_
          refine pn_blk ?_
          refine pn_seq ?_
          refine rc_region ?_
          refine mV rfl ?_
          refine bN i_add rfl rfl ?_
          refine mV rfl ?_
          refine rd_nil ?_
          refine pn_again ?_
          have hbd := sl_bound r0
          have hinc : wr (a2 + 1) = a2 + 1 := wr_of (by omega) (by omega)
          erw [hinc]
          exact wC (ih   (by omega) (by omega) (by first | omega | (simp; done) | (simp only [List.length_append, List.length_cons, List.length_nil, List.length_set]; omega)) (Mem.sub c8 (.cons_cons _ (.cons_cons _ .slnil))) hres) rfl
    · refine rc_exit ?_
      refine px_seq ?_
      refine px_again ?_
      exact wP (d6 (by omega) (Mem.sub M0 (.cons_cons _ (.cons_cons _ .slnil))) hres) rfl

theorem ref06_TopologicalOrder_L1_ok {S : List Fr} {res : (List Int) × Bool} {x0 : List (List Int)} {v0 : PV} {b9 b6 : Nat} (r0 : (tSl (tSl tI)).R x0 v0) (hn : x0.length ≤ 1000) (c3 : (List.replicate x0.length false).length = x0.length) (d0 : (List.replicate x0.length false).length ≤ 4611686018427387904) {K0 : (List Int) → (List Bool) → ((List Int) × Bool)}
    (e1 : ∀ {a3 : List Int} {a1 : List Bool} {a0 : List PV} {a4 : PV} {a5 : List PV} (b0 : All2 tI.R a3 a0) (a9 : isL a4 = true) (a6 : Wri a4 a0) (b1 : a3.length ≤ 4611686018427387904) (b2 : All2 tB.R a1 a5) (a8 : a1.length = x0.length) (a7 : a1.length ≤ 4611686018427387904) {h : Heap} (M0 : Mem h [⟨a4, 3, 1, a0⟩, ⟨.os b9 b6 0 x0.length, 4, 1, a5⟩]), K0 a3 a1 = res → PX Try.prog 0 S (QR Try.prog [(2, none), (3, none)] (RF21 res)) [(5, a4)] h) :
    ∀ {m : Nat} {a3 : List Int} {a1 : List Bool} {a0 : List PV} {a4 : PV} {a5 : List PV} (b0 : All2 tI.R a3 a0) (a9 : isL a4 = true) (a6 : Wri a4 a0) (b1 : a3.length ≤ 4611686018427387904) (b2 : All2 tB.R a1 a5) (a8 : a1.length = x0.length) (a7 : a1.length ≤ 4611686018427387904) (e0 : (x0.length : Int) - a3.length ≤ (m : Int)) {h : Heap} (M0 : Mem h [⟨a4, 3, 1, a0⟩, ⟨.os b9 b6 0 x0.length, 4, 1, a5⟩]), ref06_TopologicalOrder_L1 x0 K0 m a3 a1 = res → RC Try.prog (.loop ac21_L1) S (QR Try.prog [(2, none), (3, none)] (RF21 res)) [(5, a4), (4, .os b9 b6 0 x0.length), (0, v0)] h := by
  intro m
  induction m with
  | zero =>
    intro a3 a1 a0 a4 a5 b0 a9 a6 b1 b2 a8 a7 e0 h M0 hres
    rw [ref06_TopologicalOrder_L1] at hres
    refine rc_loop ?_
    refine rc_seq ?_
    refine sR ?_
    refine mV rfl ?_
    refine rd_op (ov_bi rfl (own_len (k := 0) M0 rfl Try.underlying31 a9 b0 _)) ?_
    refine mV rfl ?_
    refine rd_op (ov_bi rfl (sl_len r0 Try.underlying22 _)) ?_
    refine bN i_lss rfl rfl ?_
    refine nS ?_
    refine rc_cond rfl ?_ ?_ <;> intro c <;> try simp only [qa, qaD] at c
    · omega
    refine rc_exit ?_
    refine px_seq ?_
    refine px_again ?_
    exact wP (e1 b0 a9 a6 b1 b2 a8 a7 (Mem.sub M0 (.cons_cons _ (.cons_cons _ .slnil))) hres) rfl
  | succ m ih =>
    intro a3 a1 a0 a4 a5 b0 a9 a6 b1 b2 a8 a7 e0 h M0 hres
    rw [ref06_TopologicalOrder_L1] at hres
    refine rc_loop ?_
    refine rc_seq ?_
    refine sR ?_
    refine mV rfl ?_
    refine rd_op (ov_bi rfl (own_len (k := 0) M0 rfl Try.underlying31 a9 b0 _)) ?_
    refine mV rfl ?_
    refine rd_op (ov_bi rfl (sl_len r0 Try.underlying22 _)) ?_
    refine bN i_lss rfl rfl ?_
    refine nS ?_
    refine rc_br hres rfl ?_ ?_ <;> clear hres <;> intro b5 hres <;> have b7 := b5 <;> try simp only [qa, qaD] at b7
    · refine rc_skip ?_
      refine pn_seq ?_
      refine rc_block ?_
      refine sR ?_
      refine mI rfl ?_
      refine nS ?_
      refine rc_seq ?_
      refine sR ?_
      refine mI rfl ?_
      refine nS ?_
      refine rc_block ?_
      refine wC (ref06_TopologicalOrder_L2_ok r0 hn c3 d0 a9 a6 b1 b2 a8 a7 b5 ?_  rfl (by omega) (by first | omega | (simp; done) | (simp only [List.length_append, List.length_cons, List.length_nil, List.length_set]; omega)) (Mem.sub M0 (.cons_cons _ (.cons_cons _ .slnil))) hres) rfl
      · intro a2 d1 e4 d2 hres
        refine px_blk ?_
        refine pn_seq ?_
        refine rc_seq ?_
        refine sR ?_
        refine mV rfl ?_
        refine bN i_lss rfl rfl ?_
        refine nS ?_
        refine rc_br hres rfl ?_ ?_ <;> clear hres <;> intro c hres <;> try simp only [qa, qaD] at c
        · refine sR ?_
          refine rd_op (v := nilS) (ov_move rfl) ?_
          refine mB rfl ?_
          refine nS ?_
          subst hres
          exact rc_retV (.tmp rfl (.tmp rfl .nil)) (deep_closed (show closed (.tup _) = true from (clL_cons (TR.clo (tSl tI) sl_nil) (clL_cons rfl clL_nil)))) ⟨nilS, rfl, sl_nil⟩
        · refine rc_skip ?_
          refine pn_seq ?_
          refine sR ?_
          refine mV rfl ?_
          refine mV rfl ?_
          have b8 : 0 ≤ a2 := (by omega)
          have d8 : a2 < (a1.length : Int) := (by omega)
          refine rd_op (ov_iaddr rfl rfl (n_idx 1 b8 (by omega))) ?_
          refine rd_setO (k := 1) (v := vb true) d2 rfl rfl rfl (by rw [All2.length_eq b2]; omega) rfl (fun d9 d5 => ?_)
          have d4 := All2.set (i := (a2).toNat) b2 (show tB.R true (vb true) from rfl)
          have c8 : (a1.set (a2).toNat true).length ≤ 4611686018427387904 := by simp only [List.length_set]; exact a7
          have c6 : (a1.set (a2).toNat true).length = x0.length := by simp only [List.length_set]; exact a8
          refine nS ?_
          refine rc_region ?_
          refine mV rfl ?_
          refine mV rfl ?_
          refine rd_op (v := .fs true [vi a2]) (ov_bslice rfl (all_cons rfl all_nil)) ?_
          have d6 : (tSl tI).R ([a2] : List Int) (.fs true [vi a2]) := sl_fs ⟨rfl, trivial⟩ (by simp)
          obtain ⟨b3, c5, b4⟩ := src_of (t := tI) (h := d9) d6
          have c7 : fits (a0.length + b3.length) 8 = true := by rw [All2.length_eq b0, All2.length_eq b4]; (try simp only [List.length_cons, List.length_nil]); exact fits_of (by first | omega | (simp only [List.length_append, List.length_cons, List.length_nil]; omega)) (by first | omega | (simp only [List.length_append, List.length_cons, List.length_nil]; omega))
          refine rd_appW (k := 0) (es := a0) (news := b3) d5 rfl rfl rfl a9 a6 c5 c7 (fun e3 e2 d7 c2 d3 => ?_)
          have c4 : All2 tI.R (a3 ++ ([a2] : List Int)) (a0 ++ b3) := All2.app b0 b4
          have c9 : (a3 ++ ([a2] : List Int)).length ≤ 4611686018427387904 := by rw [← All2.length_eq c4, List.length_append]; exact fits_len c7
          refine mV rfl ?_
          refine rd_nil ?_
          refine pn_blk ?_
          refine pn_again ?_
          exact wC (ih  c4 d7 c2 c9 d4 c6 c8 (by (simp only [List.length_append, List.length_cons, List.length_nil]; omega)) (Mem.sub d3 (.cons_cons _ (.cons_cons _ .slnil))) hres) rfl
    · refine rc_exit ?_
      refine px_seq ?_
      refine px_again ?_
      exact wP (e1 b0 a9 a6 b1 b2 a8 a7 (Mem.sub M0 (.cons_cons _ (.cons_cons _ .slnil))) hres) rfl

theorem f21_ok {x0 : List (List Int)} {v0 : PV} (r0 : (tSl (tSl tI)).R x0 v0) (hn : x0.length ≤ 1000) : ∃ c0, FnR Try.prog 21 [v0] (.tup [c0, vb ((ref06_TopologicalOrder x0).2)]) ∧ (tSl tI).R (ref06_TopologicalOrder x0).1 c0 := by
  obtain ⟨res, hres⟩ : ∃ res, ref06_TopologicalOrder x0 = res := ⟨_, rfl⟩
  suffices H : RC Try.prog ac21 [] (QR Try.prog [(2, none), (3, none)] (RF21 res)) (argE 0 [v0]) ⟨0, []⟩ by
    rw [hres]
    obtain ⟨r, h1, c0, rfl, c4⟩ := fnE text21 (by simp) H
    exact ⟨c0, h1, c4⟩
  unfold ref06_TopologicalOrder at hres
  refine sR ?_
  refine rd_op (v := nilS) (ov_move rfl) ?_
  refine mB rfl ?_
  refine nR ?_
  refine mV rfl ?_
  refine rd_op (ov_bi rfl (sl_len r0 Try.underlying22 _)) ?_
  have b4 : fits (x0.length) 1 = true := fits_of (by first | omega | (simp only [List.length_append, List.length_cons, List.length_nil]; omega)) (by first | omega | (simp only [List.length_append, List.length_cons, List.length_nil]; omega))
  refine rd_makeO (sz := 1) (ty := 4) (n := x0.length) (zz := vb false) (Mem.nil ⟨0, []⟩) rfl rfl rfl rfl rfl b4 (fun c7 c5 c6 c2 => ?_)
  have c3 : All2 tB.R (List.replicate x0.length false) (List.replicate x0.length (vb false)) := All2.rep (show tB.R false (vb false) from rfl) _
  have a1 : (List.replicate x0.length false).length = x0.length := List.length_replicate
  have a4 : (List.replicate x0.length false).length ≤ 4611686018427387904 := by rw [a1]; exact fits_len b4
  refine mV rfl ?_
  refine nR ?_
  refine rd_op (v := nilS) (ov_move rfl) ?_
  refine nS ?_
  refine rc_seq ?_
  refine rc_block ?_
  have b6 := mem_acc (sz := 1) (es := []) c2 3 (.inl ⟨none, rfl, rfl⟩) (by simp)
  refine wC (ref06_TopologicalOrder_L1_ok r0 hn a1 a4 ?_  aL rfl (.inl rfl) (by first | decide | simp) c3 a1 a4 (by omega) (Mem.sub b6 (.cons_cons _ (.cons_cons _ .slnil))) hres) rfl
  · intro a8 a7 a9 b2 a5 a3 a2 b0 a0 b3 a6 b1 c8 b8 hres
    refine px_blk ?_
    refine pn_seq ?_
    refine sR ?_
    refine mV rfl ?_
    refine mV rfl ?_
    refine mB rfl ?_
    refine nS ?_
    obtain ⟨b7, b5, b9⟩ := own_sl (P := Try.prog) (k := 0) (t := tI) b8 rfl a2 a3 (Nat.le_trans a0 (by decide))
    subst hres
    exact rc_retV (.tmp rfl (.tmp rfl .nil)) (deep_tup (dl_cons b5 (dl_cons (deep_closed rfl) dl_nil)) (clL_cons b5.1 (clL_cons rfl clL_nil))) ⟨b7, rfl, b9⟩

def RF23 (res : (List Int) × Bool) (r : PV) : Prop := ∃ c0, r = .tup [c0, vb res.2] ∧ (tSl tI).R res.1 c0
theorem ref06_Levels_L2_ok {S : List Fr} {res : (List Int) × Bool} {x0 : List (List Int)} {a1 : (List Int) × Bool} {a7 : Int} {b4 : List Int} {v0 b9 : PV} {b3 b2 : Nat} (r0 : (tSl (tSl tI)).R x0 v0) (hs : Sm x0) (hn : x0.length ≤ 24) (e5 : ref06_TopologicalOrder x0 = a1) (c2 : (tSl tI).R a1.1 b9) (a6 : a1.2 = true → a1.1.length = x0.length ∧ ∀ k : Int, 0 ≤ k → k < a1.1.length → 0 ≤ ix a1.1 k ∧ ix a1.1 k < x0.length) (c6 : (!a1.2) = false) (e3 : (List.replicate x0.length (0 : Int)).length = x0.length) (e4 : (List.replicate x0.length (0 : Int)).length ≤ 4611686018427387904) (d4 : b4.length = x0.length) (d5 : b4.length ≤ 4611686018427387904) (e7 : 0 ≤ a7) (d1 : (decide (a7 < (a1.1.length : Int))) = true) {K2 : (List Int) → ((List Int) × Bool)}
    (e8 : ∀ {a0 : List Int} {a3 : List PV} (a2 : All2 tI.R a0 a3) (a5 : a0.length = x0.length) (a4 : a0.length ≤ 4611686018427387904) {h : Heap} (M0 : Mem h [⟨.os b3 b2 0 x0.length, 3, 1, a3⟩]), K2 a0 = res → PX Try.prog 2 S (QR Try.prog [(2, none), (3, none)] (RF23 res)) [(0, v0), (4, b9), (6, .os b3 b2 0 x0.length), (7, vi a7)] h) :
    ∀ {m : Nat} {a8 : Int} {a0 : List Int} {a3 : List PV} (a2 : All2 tI.R a0 a3) (a5 : a0.length = x0.length) (a4 : a0.length ≤ 4611686018427387904) (e2 : m = Int.toNat ((x0.length : Int) - a8)) (d0 : 0 ≤ a8) {h : Heap} (M0 : Mem h [⟨.os b3 b2 0 x0.length, 3, 1, a3⟩]), ref06_Levels_L2 x0 a1 a7 K2 m a8 a0 = res → RC Try.prog (.loop ac23_L2) S (QR Try.prog [(2, none), (3, none)] (RF23 res)) [(8, vi a8), (7, vi a7), (6, .os b3 b2 0 x0.length), (4, b9), (0, v0)] h := by
  have b6 := c6
  try simp only [qa, qaD] at b6
  have c4 := d1
  try simp only [qa, qaD] at c4
  intro m
  induction m with
  | zero =>
    intro a8 a0 a3 a2 a5 a4 e2 d0 h M0 hres
    rw [ref06_Levels_L2] at hres
    refine rc_loop ?_
    refine rc_seq ?_
    refine sR ?_
    refine mV rfl ?_
    refine mV rfl ?_
    refine rd_op (ov_bi rfl (sl_len r0 Try.underlying22 _)) ?_
    refine bN i_lss rfl rfl ?_
    refine nS ?_
    refine rc_cond rfl ?_ ?_ <;> intro c <;> try simp only [qa, qaD] at c
    · omega
    refine rc_exit ?_
    refine px_seq ?_
    refine px_again ?_
    exact wP (e8 a2 a5 a4 (Mem.sub M0 (.cons_cons _ .slnil)) hres) rfl
  | succ m ih =>
    intro a8 a0 a3 a2 a5 a4 e2 d0 h M0 hres
    rw [ref06_Levels_L2] at hres
    refine rc_loop ?_
    refine rc_seq ?_
    refine sR ?_
    refine mV rfl ?_
    refine mV rfl ?_
    refine rd_op (ov_bi rfl (sl_len r0 Try.underlying22 _)) ?_
    refine bN i_lss rfl rfl ?_
    refine nS ?_
    refine rc_cond rfl ?_ ?_ <;> intro c <;> try simp only [qa, qaD] at c
    rotate_left
    · omega
    refine rc_skip ?_
    refine pn_seq ?_
    refine rc_seq ?_
    refine rc_block ?_
    refine sR ?_
    refine mV rfl ?_
    refine mV rfl ?_
    refine mV rfl ?_
    refine mV rfl ?_
    refine rd_op (ov_iaddr rfl rfl (slI c2 (by first | omega | (have hk := a6 (by assumption); have b1 := hk.2 a7 (by omega) (by omega); omega)) (by first | omega | (have hk := a6 (by assumption); have b1 := hk.2 a7 (by omega) (by omega); omega)))) ?_
    refine lR rfl rfl rfl ?_
    obtain ⟨e9, d2, hres⟩ := let_ex hres
    have c8 := f32_ok (x1 := a8) (x2 := (ix a1.1 a7)) r0 
    rw [d2] at c8
    refine cL c8 rfl rfl (clL_cons (TR.clo (tSl (tSl tI)) r0) (clL_cons rfl (clL_cons rfl clL_nil))) ?_
    refine nS ?_
    refine rc_br hres rfl ?_ ?_ <;> clear hres <;> intro c hres <;> try simp only [qa, qaD] at c
    · refine rc_region ?_
      refine mV rfl ?_
      refine mV rfl ?_
      refine mV rfl ?_
      refine rd_op (ov_iaddr rfl rfl (slI c2 (by first | omega | (have hk := a6 (by assumption); have b1 := hk.2 a7 (by omega) (by omega); omega)) (by first | omega | (have hk := a6 (by assumption); have b1 := hk.2 a7 (by omega) (by omega); omega)))) ?_
      refine lR rfl rfl rfl ?_
      refine mV rfl ?_
      refine mV rfl ?_
      refine mV rfl ?_
      refine rd_op (ov_iaddr rfl rfl (slI c2 (by first | omega | (have hk := a6 (by assumption); have b1 := hk.2 a7 (by omega) (by omega); omega)) (by first | omega | (have hk := a6 (by assumption); have b1 := hk.2 a7 (by omega) (by omega); omega)))) ?_
      refine lR rfl rfl rfl ?_
      have b0 : 0 ≤ (ix a1.1 a7) := (by first | omega | (have hk := a6 (by assumption); have b1 := hk.2 a7 (by omega) (by omega); omega))
      have c3 : (ix a1.1 a7) < (a0.length : Int) := (by first | omega | (have hk := a6 (by assumption); have b1 := hk.2 a7 (by omega) (by omega); omega))
      refine rd_op (ov_iaddr rfl rfl (n_idx 1 b0 (by omega))) ?_
      obtain ⟨e0, d6, c5⟩ := elem_at (i := (ix a1.1 a7)) a2 b0 c3
      have c5 : e0 = vi (ix a0 (ix a1.1 a7)) := c5; subst c5
      refine rd_op (ov_elem (k := 0) M0 rfl rfl d6 rfl) ?_
      refine mV rfl ?_
      refine mV rfl ?_
      have a9 : 0 ≤ a8 := (by first | omega | (have hk := a6 (by assumption); have b1 := hk.2 a7 (by omega) (by omega); omega))
      have b7 : a8 < (a0.length : Int) := (by first | omega | (have hk := a6 (by assumption); have b1 := hk.2 a7 (by omega) (by omega); omega))
      refine rd_op (ov_iaddr rfl rfl (n_idx 1 a9 (by omega))) ?_
      obtain ⟨d7, e1, b5⟩ := elem_at (i := a8) a2 a9 b7
      have b5 : d7 = vi (ix a0 a8) := b5; subst b5
      refine rd_op (ov_elem (k := 0) M0 rfl rfl e1 rfl) ?_
      refine bN i_add rfl rfl ?_
      refine rd_op (ov_bi rfl (max_int _ _)) ?_
      have b8 : 0 ≤ (ix a1.1 a7) := (by first | omega | (have hk := a6 (by assumption); have b1 := hk.2 a7 (by omega) (by omega); omega))
      have d3 : (ix a1.1 a7) < (a0.length : Int) := (by first | omega | (have hk := a6 (by assumption); have b1 := hk.2 a7 (by omega) (by omega); omega))
      refine rd_op (ov_iaddr rfl rfl (n_idx 1 b8 (by omega))) ?_
      refine rd_setO (k := 0) (v := vi (max (ix a0 (ix a1.1 a7)) (wr ((ix a0 a8) + 1)))) M0 rfl rfl rfl (by rw [All2.length_eq a2]; omega) rfl (fun e6 d9 => ?_)
      have d8 := All2.set (i := ((ix a1.1 a7)).toNat) a2 (show tI.R (max (ix a0 (ix a1.1 a7)) (wr ((ix a0 a8) + 1))) (vi (max (ix a0 (ix a1.1 a7)) (wr ((ix a0 a8) + 1)))) from rfl)
      have c9 : (a0.set ((ix a1.1 a7)).toNat (max (ix a0 (ix a1.1 a7)) (wr ((ix a0 a8) + 1)))).length ≤ 4611686018427387904 := by simp only [List.length_set]; exact a4
      have c7 : (a0.set ((ix a1.1 a7)).toNat (max (ix a0 (ix a1.1 a7)) (wr ((ix a0 a8) + 1)))).length = x0.length := by simp only [List.length_set]; exact a5
      refine rd_nil ?_
      refine pn_blk ?_
      refine pn_seq ?_
      refine rc_region ?_
      refine mV rfl ?_
      refine bN i_add rfl rfl ?_
      refine mV rfl ?_
      refine rd_nil ?_
      refine pn_again ?_
      have hbd := sl_bound r0
      have hinc : wr (a8 + 1) = a8 + 1 := wr_of (by omega) (by omega)
      erw [hinc]
      exact wC (ih  d8 c7 c9 (by omega) (by omega) (Mem.sub d9 (.cons_cons _ .slnil)) hres) rfl
    · refine rc_skip ?_
      refine pn_blk ?_
      refine pn_seq ?_
      refine rc_region ?_
      refine mV rfl ?_
      refine bN i_add rfl rfl ?_
      refine mV rfl ?_
      refine rd_nil ?_
      refine pn_again ?_
      have hbd := sl_bound r0
      have hinc : wr (a8 + 1) = a8 + 1 := wr_of (by omega) (by omega)
      erw [hinc]
      exact wC (ih  a2 a5 a4 (by omega) (by omega) (Mem.sub M0 (.cons_cons _ .slnil)) hres) rfl

theorem ref06_Levels_L1_ok {S : List Fr} {res : (List Int) × Bool} {x0 : List (List Int)} {a4 : (List Int) × Bool} {v0 c2 : PV} {b2 b1 : Nat} (r0 : (tSl (tSl tI)).R x0 v0) (hs : Sm x0) (hn : x0.length ≤ 24) (c6 : ref06_TopologicalOrder x0 = a4) (b0 : (tSl tI).R a4.1 c2) (c3 : a4.2 = true → a4.1.length = x0.length ∧ ∀ k : Int, 0 ≤ k → k < a4.1.length → 0 ≤ ix a4.1 k ∧ ix a4.1 k < x0.length) (b4 : (!a4.2) = false) (c4 : (List.replicate x0.length (0 : Int)).length = x0.length) (c5 : (List.replicate x0.length (0 : Int)).length ≤ 4611686018427387904) {K0 : (List Int) → ((List Int) × Bool)}
    (d0 : ∀ {a0 : List Int} {a1 : List PV} (a5 : All2 tI.R a0 a1) (a2 : a0.length = x0.length) (a3 : a0.length ≤ 4611686018427387904) {h : Heap} (M0 : Mem h [⟨.os b2 b1 0 x0.length, 3, 1, a1⟩]), K0 a0 = res → PX Try.prog 0 S (QR Try.prog [(2, none), (3, none)] (RF23 res)) [(6, .os b2 b1 0 x0.length)] h) :
    ∀ {m : Nat} {b5 : Int} {a0 : List Int} {a1 : List PV} (a5 : All2 tI.R a0 a1) (a2 : a0.length = x0.length) (a3 : a0.length ≤ 4611686018427387904) (c8 : m = Int.toNat ((a4.1.length : Int) - b5)) (b7 : 0 ≤ b5) {h : Heap} (M0 : Mem h [⟨.os b2 b1 0 x0.length, 3, 1, a1⟩]), ref06_Levels_L1 x0 a4 K0 m b5 a0 = res → RC Try.prog (.loop ac23_L1) S (QR Try.prog [(2, none), (3, none)] (RF23 res)) [(7, vi b5), (6, .os b2 b1 0 x0.length), (4, c2), (0, v0)] h := by
  have b6 := b4
  try simp only [qa, qaD] at b6
  intro m
  induction m with
  | zero =>
    intro b5 a0 a1 a5 a2 a3 c8 b7 h M0 hres
    rw [ref06_Levels_L1] at hres
    refine rc_loop ?_
    refine rc_seq ?_
    refine sR ?_
    refine mV rfl ?_
    refine mV rfl ?_
    refine rd_op (ov_bi rfl (sl_len b0 Try.underlying31 _)) ?_
    refine bN i_lss rfl rfl ?_
    refine nS ?_
    refine rc_cond rfl ?_ ?_ <;> intro c <;> try simp only [qa, qaD] at c
    · omega
    refine rc_exit ?_
    refine px_seq ?_
    refine px_again ?_
    exact wP (d0 a5 a2 a3 (Mem.sub M0 (.cons_cons _ .slnil)) hres) rfl
  | succ m ih =>
    intro b5 a0 a1 a5 a2 a3 c8 b7 h M0 hres
    rw [ref06_Levels_L1] at hres
    refine rc_loop ?_
    refine rc_seq ?_
    refine sR ?_
    refine mV rfl ?_
    refine mV rfl ?_
    refine rd_op (ov_bi rfl (sl_len b0 Try.underlying31 _)) ?_
    refine bN i_lss rfl rfl ?_
    refine nS ?_
    refine rc_cond rfl (fun a6 => ?_) (fun a6 => ?_)
    · have hgo := hres
      have b8 := a6
      try simp only [qa, qaD] at b8
      refine rc_skip ?_
      refine pn_seq ?_
      refine rc_seq ?_
      refine rc_block ?_
      refine sR ?_
      refine mI rfl ?_
      refine nS ?_
      refine rc_block ?_
      refine wC (ref06_Levels_L2_ok r0 hs hn c6 b0 c3 b4 c4 c5 a2 a3 b7 a6 ?_  a5 a2 a3 rfl (by omega) (Mem.sub M0 (.cons_cons _ .slnil)) hres) rfl
      · intro b3 b9 a9 a8 a7 c9 c7 hres
        refine px_blk ?_
        refine pn_blk ?_
        refine pn_seq ?_
        refine rc_region ?_
        refine mV rfl ?_
        refine bN i_add rfl rfl ?_
        refine mV rfl ?_
        refine rd_nil ?_
        refine pn_again ?_
        have hbd := sl_bound b0
        have hinc : wr (b5 + 1) = b5 + 1 := wr_of (by omega) (by omega)
        erw [hinc]
        exact wC (ih  a9 a8 a7 (by omega) (by omega) (Mem.sub c7 (.cons_cons _ .slnil)) hres) rfl
    · exfalso
      try simp only [qa, qaD] at a6
      omega

theorem f23_ok {x0 : List (List Int)} {v0 : PV} (r0 : (tSl (tSl tI)).R x0 v0) (hs : Sm x0) : ∃ c0, FnR Try.prog 23 [v0] (.tup [c0, vb ((ref06_Levels x0).2)]) ∧ (tSl tI).R (ref06_Levels x0).1 c0 := by
  obtain ⟨res, hres⟩ : ∃ res, ref06_Levels x0 = res := ⟨_, rfl⟩
  suffices H : RC Try.prog ac23 [] (QR Try.prog [(2, none), (3, none)] (RF23 res)) (argE 0 [v0]) ⟨0, []⟩ by
    rw [hres]
    obtain ⟨r, h1, c0, rfl, c3⟩ := fnE text23 (by simp) H
    exact ⟨c0, h1, c3⟩
  unfold ref06_Levels at hres
  have hn : x0.length ≤ 24 := hs.n
  refine sR ?_
  refine rd_op (v := nilS) (ov_move rfl) ?_
  refine mB rfl ?_
  refine nR ?_
  refine mV rfl ?_
  obtain ⟨a4, a3, hres⟩ := let_ex hres
  obtain ⟨c5, b5, b2⟩ := f21_ok  r0 (by first | assumption | omega)
  rw [a3] at b5 b2
  have b1 : a4.2 = true → a4.1.length = x0.length ∧ ∀ k : Int, 0 ≤ k → k < a4.1.length → 0 ≤ ix a4.1 k ∧ ix a4.1 k < x0.length := rt_use a3
  refine cL b5 rfl rfl (clL_cons (TR.clo (tSl (tSl tI)) r0) clL_nil) ?_
  refine mV rfl ?_
  refine xT rfl rfl ?_
  refine xT rfl rfl ?_
  refine mV rfl ?_
  refine mV rfl ?_
  refine nS ?_
  refine rc_seq ?_
  refine sR ?_
  refine mV rfl ?_
  refine rd_op (ov_not rfl) ?_
  refine nS ?_
  refine rc_br hres rfl ?_ ?_ <;> clear hres <;> intro a5 hres <;> have a7 := a5 <;> try simp only [qa, qaD] at a7
  · refine sR ?_
    refine rd_op (v := nilS) (ov_move rfl) ?_
    refine mB rfl ?_
    refine nS ?_
    subst hres
    exact rc_retV (.tmp rfl (.tmp rfl .nil)) (deep_closed (show closed (.tup _) = true from (clL_cons (TR.clo (tSl tI) sl_nil) (clL_cons rfl clL_nil)))) ⟨nilS, rfl, sl_nil⟩
  · refine rc_skip ?_
    refine pn_seq ?_
    refine sR ?_
    refine mV rfl ?_
    refine rd_op (ov_bi rfl (sl_len r0 Try.underlying22 _)) ?_
    have b4 : fits (x0.length) 8 = true := fits_of (by first | omega | (simp only [List.length_append, List.length_cons, List.length_nil] at *; omega)) (by first | omega | (simp only [List.length_append, List.length_cons, List.length_nil] at *; omega))
    refine rd_makeO (sz := 1) (ty := 3) (n := x0.length) (zz := vi 0) (Mem.nil ⟨0, []⟩) rfl rfl rfl rfl rfl b4 (fun c8 c7 c6 b8 => ?_)
    have b9 : All2 tI.R (List.replicate x0.length (0 : Int)) (List.replicate x0.length (vi 0)) := All2.rep (show tI.R (0 : Int) (vi 0) from rfl) _
    have a2 : (List.replicate x0.length (0 : Int)).length = x0.length := List.length_replicate
    have a6 : (List.replicate x0.length (0 : Int)).length ≤ 4611686018427387904 := by rw [a2]; exact fits_len b4
    refine mV rfl ?_
    refine nS ?_
    refine rc_seq ?_
    refine sR ?_
    refine mI rfl ?_
    refine nS ?_
    refine rc_block ?_
    refine wC (ref06_Levels_L1_ok r0 hs hn a3 b2 b1 a5 a2 a6 ?_  b9 a2 a6 rfl (by omega) (Mem.sub b8 (.cons_cons _ .slnil)) hres) rfl
    · intro a8 b0 a1 a9 a0 c4 b6 hres
      refine px_blk ?_
      refine pn_seq ?_
      refine sR ?_
      refine mV rfl ?_
      refine mV rfl ?_
      refine mB rfl ?_
      refine nS ?_
      obtain ⟨b7, b3, c2⟩ := own_sl (P := Try.prog) (k := 0) (t := tI) b6 rfl rfl a1 (Nat.le_trans a0 (by decide))
      subst hres
      exact rc_retV (.tmp rfl (.tmp rfl .nil)) (deep_tup (dl_cons b3 (dl_cons (deep_closed rfl) dl_nil)) (clL_cons b3.1 (clL_cons rfl clL_nil))) ⟨b7, rfl, c2⟩

def RF30 (res : (List (List Int))) (r : PV) : Prop := (tSl (tSl tI)).R res r
theorem ref06_Reverse_L2_ok {S : List Fr} {res : (List (List Int))} {x0 : List (List Int)} {a6 : Int} {b4 : List (List Int)} {v0 : PV} {a9 a8 : Nat} (r0 : (tSl (tSl tI)).R x0 v0) (hs : Sm x0) (hn : x0.length ≤ 24) (f5 : (List.replicate x0.length ([] : List Int)).length = x0.length) (f7 : (List.replicate x0.length ([] : List Int)).length ≤ 4611686018427387904) (e8 : b4.length = x0.length) (e7 : b4.length ≤ 4611686018427387904) (f8 : 0 ≤ a6) (f4 : LB b4 (24 * a6)) (c7 : (decide (a6 < (x0.length : Int))) = true) {K2 : (List (List Int)) → (List (List Int))}
    (g1 : ∀ {a0 : List (List Int)} {a1 : List PV} {a2 : List Ent} (a3 : Ns tI 3 a0 a1 a2) (a5 : a0.length = x0.length) (a4 : a0.length ≤ 4611686018427387904) (g2 : LB a0 (24 * a6 + 24)) {h : Heap} (M0 : Mem h (⟨.os a9 a8 0 x0.length, 31, 1, a1⟩ :: (a2 ++ []))), K2 a0 = res → PX Try.prog 2 S (QR Try.prog [(2, none)] (RF30 res)) [(0, v0), (3, .os a9 a8 0 x0.length), (4, vi a6)] h) :
    ∀ {m : Nat} {a7 : Int} {a0 : List (List Int)} {a1 : List PV} {a2 : List Ent} (a3 : Ns tI 3 a0 a1 a2) (a5 : a0.length = x0.length) (a4 : a0.length ≤ 4611686018427387904) (f6 : m = Int.toNat ((x0.length : Int) - a7)) (d6 : 0 ≤ a7) (b1 : LB a0 (24 * a6 + a7)) (b9 : a7 ≤ (x0.length : Int)) {h : Heap} (M0 : Mem h (⟨.os a9 a8 0 x0.length, 31, 1, a1⟩ :: (a2 ++ []))), ref06_Reverse_L2 x0 a6 K2 m a7 a0 = res → RC Try.prog (.loop ac30_L2) S (QR Try.prog [(2, none)] (RF30 res)) [(5, vi a7), (4, vi a6), (3, .os a9 a8 0 x0.length), (0, v0)] h := by
  have c4 := c7
  try simp only [qa, qaD] at c4
  intro m
  induction m with
  | zero =>
    intro a7 a0 a1 a2 a3 a5 a4 f6 d6 b1 b9 h M0 hres
    rw [ref06_Reverse_L2] at hres
    refine rc_loop ?_
    refine rc_seq ?_
    refine sR ?_
    refine mV rfl ?_
    refine mV rfl ?_
    refine rd_op (ov_bi rfl (sl_len r0 Try.underlying22 _)) ?_
    refine bN i_lss rfl rfl ?_
    refine nS ?_
    refine rc_cond rfl ?_ ?_ <;> intro c <;> try simp only [qa, qaD] at c
    · omega
    refine rc_exit ?_
    refine px_seq ?_
    refine px_again ?_
    exact wP (g1 a3 a5 a4 (by exact LB.mono (by assumption) (by omega)) (Mem.sub M0 (.cons_cons _ (List.Sublist.append_left (List.Sublist.refl _) _))) hres) rfl
  | succ m ih =>
    intro a7 a0 a1 a2 a3 a5 a4 f6 d6 b1 b9 h M0 hres
    rw [ref06_Reverse_L2] at hres
    refine rc_loop ?_
    refine rc_seq ?_
    refine sR ?_
    refine mV rfl ?_
    refine mV rfl ?_
    refine rd_op (ov_bi rfl (sl_len r0 Try.underlying22 _)) ?_
    refine bN i_lss rfl rfl ?_
    refine nS ?_
    refine rc_cond rfl ?_ ?_ <;> intro c <;> try simp only [qa, qaD] at c
    rotate_left
    · omega
    refine rc_skip ?_
    refine pn_seq ?_
    refine rc_seq ?_
    refine rc_block ?_
    refine sR ?_
    refine mV rfl ?_
    refine mV rfl ?_
    refine mV rfl ?_
    obtain ⟨f9, e1, hres⟩ := let_ex hres
    have e3 := f32_ok (x1 := a7) (x2 := a6) r0 
    rw [e1] at e3
    refine cL e3 rfl rfl (clL_cons (TR.clo (tSl (tSl tI)) r0) (clL_cons rfl (clL_cons rfl clL_nil))) ?_
    refine nS ?_
    refine rc_br hres rfl ?_ ?_ <;> clear hres <;> intro c hres <;> try simp only [qa, qaD] at c
    · refine rc_region ?_
      refine mV rfl ?_
      refine mV rfl ?_
      refine mV rfl ?_
      refine mV rfl ?_
      have b6 : 0 ≤ a6 := (by omega)
      have c6 : a6 < (a0.length : Int) := (by omega)
      refine rd_op (ov_iaddr rfl rfl (n_idx 1 b6 (by omega))) ?_
      obtain ⟨e9, b0, c9, d4, e6, e2, f3, d5⟩ := ns_at (i := a6) a3 b6 c6
      have b3 : Mem h (⟨e9, 3, 1, b0⟩ :: ⟨.os a9 a8 0 x0.length, 31, 1, a1⟩ :: ((a2.eraseIdx (a6).toNat) ++ [])) := ns_focus (C := [⟨.os a9 a8 0 x0.length, 31, 1, a1⟩]) M0 d4
      refine rd_op (ov_elem (k := 1) b3 rfl rfl c9 (mem_one (k := 0) b3 rfl e2).2) ?_
      refine mV rfl ?_
      refine rd_op (v := .fs true [vi a7]) (ov_bslice rfl (all_cons rfl all_nil)) ?_
      have f0 : (tSl tI).R ([a7] : List Int) (.fs true [vi a7]) := sl_fs ⟨rfl, trivial⟩ (by simp)
      obtain ⟨b2, c8, b8⟩ := src_of (t := tI) (h := h) f0
      have e5 : fits (b0.length + b2.length) 8 = true := by rw [All2.length_eq e6, All2.length_eq b8]; (try simp only [List.length_cons, List.length_nil]); exact fits_of (by first | omega | (have hk := b1 a6 (by omega) (by omega); first | omega | (simp only [List.length_cons, List.length_nil]; omega))) (by first | omega | (have hk := b1 a6 (by omega) (by omega); first | omega | (simp only [List.length_cons, List.length_nil]; omega)))
      refine rd_appW (k := 0) (es := b0) (news := b2) b3 rfl rfl rfl e2 d5 c8 e5 (fun b7 g0 e4 d2 d3 => ?_)
      have d9 : All2 tI.R ((ix a0 a6) ++ ([a7] : List Int)) (b0 ++ b2) := All2.app e6 b8
      have d0 : ((ix a0 a6) ++ ([a7] : List Int)).length ≤ 4611686018427387904 := by rw [← All2.length_eq d9, List.length_append]; exact fits_len e5
      have c2 : 0 ≤ a6 := (by omega)
      have f2 : a6 < (a0.length : Int) := (by omega)
      refine rd_op (ov_iaddr rfl rfl (n_idx 1 c2 (by omega))) ?_
      refine rd_setO (k := 1) (v := b7) d3 rfl rfl rfl (by rw [(Ns.len a3).1]; omega) (mem_cnt1 (k := 0) d3 rfl e4) (fun e0 c5 => ?_)
      replace c5 : Mem e0 (⟨b7, 3, 1, (b0 ++ b2)⟩ :: ⟨.os a9 a8 0 x0.length, 31, 1, (a1.set (a6).toNat b7)⟩ :: ((a2.eraseIdx (a6).toNat) ++ [])) := c5
      obtain ⟨b5, c3, f1, d8⟩ : ∃ b5 c3, Ns tI 3 (a0.set (a6).toNat ((ix a0 a6) ++ ([a7] : List Int))) b5 c3 ∧ Mem e0 (⟨.os a9 a8 0 x0.length, 31, 1, b5⟩ :: (c3 ++ [])) := ⟨_, _, ns_put a3  d9 e4 d0 d2, ns_back (C := [⟨.os a9 a8 0 x0.length, 31, 1, (a1.set (a6).toNat b7)⟩]) c5 (by rw [(Ns.len a3).2]; omega)⟩
      have d7 : (a0.set (a6).toNat ((ix a0 a6) ++ ([a7] : List Int))).length = x0.length := by rw [List.length_set]; exact a5
      have d1 : (a0.set (a6).toNat ((ix a0 a6) ++ ([a7] : List Int))).length ≤ 4611686018427387904 := by rw [List.length_set]; exact a4
      refine rd_nil ?_
      refine pn_blk ?_
      refine pn_seq ?_
      refine rc_region ?_
      refine mV rfl ?_
      refine bN i_add rfl rfl ?_
      refine mV rfl ?_
      refine rd_nil ?_
      refine pn_again ?_
      have hbd := sl_bound r0
      have hinc : wr (a7 + 1) = a7 + 1 := wr_of (by omega) (by omega)
      erw [hinc]
      exact wC (ih  f1 d7 d1 (by omega) (by omega) (by first | omega | exact LB.mono (by assumption) (by omega) | exact LB.mono (LB.app (by assumption) (by omega) (by omega)) (by omega)) (by first | omega | exact LB.mono (by assumption) (by omega) | exact LB.mono (LB.app (by assumption) (by omega) (by omega)) (by omega)) (Mem.sub d8 (.cons_cons _ (List.Sublist.append_left (List.Sublist.refl _) _))) hres) rfl
    · refine rc_skip ?_
      refine pn_blk ?_
      refine pn_seq ?_
      refine rc_region ?_
      refine mV rfl ?_
      refine bN i_add rfl rfl ?_
      refine mV rfl ?_
      refine rd_nil ?_
      refine pn_again ?_
      have hbd := sl_bound r0
      have hinc : wr (a7 + 1) = a7 + 1 := wr_of (by omega) (by omega)
      erw [hinc]
      exact wC (ih  a3 a5 a4 (by omega) (by omega) (by first | omega | exact LB.mono (by assumption) (by omega) | exact LB.mono (LB.app (by assumption) (by omega) (by omega)) (by omega)) (by first | omega | exact LB.mono (by assumption) (by omega) | exact LB.mono (LB.app (by assumption) (by omega) (by omega)) (by omega)) (Mem.sub M0 (.cons_cons _ (List.Sublist.append_left (List.Sublist.refl _) _))) hres) rfl

theorem ref06_Reverse_L1_ok {S : List Fr} {res : (List (List Int))} {x0 : List (List Int)} {v0 : PV} {b2 b1 : Nat} (r0 : (tSl (tSl tI)).R x0 v0) (hs : Sm x0) (hn : x0.length ≤ 24) (b8 : (List.replicate x0.length ([] : List Int)).length = x0.length) (c2 : (List.replicate x0.length ([] : List Int)).length ≤ 4611686018427387904) {K0 : (List (List Int)) → (List (List Int))}
    (c7 : ∀ {a0 : List (List Int)} {a1 : List PV} {a4 : List Ent} (a5 : Ns tI 3 a0 a1 a4) (a3 : a0.length = x0.length) (a2 : a0.length ≤ 4611686018427387904) {h : Heap} (M0 : Mem h (⟨.os b2 b1 0 x0.length, 31, 1, a1⟩ :: (a4 ++ []))), K0 a0 = res → PX Try.prog 0 S (QR Try.prog [(2, none)] (RF30 res)) [(3, .os b2 b1 0 x0.length)] h) :
    ∀ {m : Nat} {b3 : Int} {a0 : List (List Int)} {a1 : List PV} {a4 : List Ent} (a5 : Ns tI 3 a0 a1 a4) (a3 : a0.length = x0.length) (a2 : a0.length ≤ 4611686018427387904) (c5 : m = Int.toNat ((x0.length : Int) - b3)) (b5 : 0 ≤ b3) (a9 : LB a0 (24 * b3)) {h : Heap} (M0 : Mem h (⟨.os b2 b1 0 x0.length, 31, 1, a1⟩ :: (a4 ++ []))), ref06_Reverse_L1 x0 K0 m b3 a0 = res → RC Try.prog (.loop ac30_L1) S (QR Try.prog [(2, none)] (RF30 res)) [(4, vi b3), (3, .os b2 b1 0 x0.length), (0, v0)] h := by
  intro m
  induction m with
  | zero =>
    intro b3 a0 a1 a4 a5 a3 a2 c5 b5 a9 h M0 hres
    rw [ref06_Reverse_L1] at hres
    refine rc_loop ?_
    refine rc_seq ?_
    refine sR ?_
    refine mV rfl ?_
    refine mV rfl ?_
    refine rd_op (ov_bi rfl (sl_len r0 Try.underlying22 _)) ?_
    refine bN i_lss rfl rfl ?_
    refine nS ?_
    refine rc_cond rfl ?_ ?_ <;> intro c <;> try simp only [qa, qaD] at c
    · omega
    refine rc_exit ?_
    refine px_seq ?_
    refine px_again ?_
    exact wP (c7 a5 a3 a2 (Mem.sub M0 (.cons_cons _ (List.Sublist.append_left (List.Sublist.refl _) _))) hres) rfl
  | succ m ih =>
    intro b3 a0 a1 a4 a5 a3 a2 c5 b5 a9 h M0 hres
    rw [ref06_Reverse_L1] at hres
    refine rc_loop ?_
    refine rc_seq ?_
    refine sR ?_
    refine mV rfl ?_
    refine mV rfl ?_
    refine rd_op (ov_bi rfl (sl_len r0 Try.underlying22 _)) ?_
    refine bN i_lss rfl rfl ?_
    refine nS ?_
    refine rc_cond rfl (fun a6 => ?_) (fun a6 => ?_)
    · have hgo := hres
      have b6 := a6
      try simp only [qa, qaD] at b6
      refine rc_skip ?_
      refine pn_seq ?_
      refine rc_seq ?_
      refine rc_block ?_
      refine sR ?_
      refine mI rfl ?_
      refine nS ?_
      refine rc_block ?_
      refine wC (ref06_Reverse_L2_ok r0 hs hn b8 c2 a3 a2 b5 a9 a6 ?_  a5 a3 a2 rfl (by omega) (by first | omega | exact LB.mono (by assumption) (by omega)) (by first | omega | exact LB.mono (by assumption) (by omega)) (Mem.sub M0 (.cons_cons _ (List.Sublist.append_left (List.Sublist.refl _) _))) hres) rfl
      · intro b4 b7 b9 b0 a8 a7 c3 c6 c4 hres
        refine px_blk ?_
        refine pn_blk ?_
        refine pn_seq ?_
        refine rc_region ?_
        refine mV rfl ?_
        refine bN i_add rfl rfl ?_
        refine mV rfl ?_
        refine rd_nil ?_
        refine pn_again ?_
        have hbd := sl_bound r0
        have hinc : wr (b3 + 1) = b3 + 1 := wr_of (by omega) (by omega)
        erw [hinc]
        exact wC (ih  b0 a8 a7 (by omega) (by omega) (by exact LB.mono (by assumption) (by omega)) (Mem.sub c4 (.cons_cons _ (List.Sublist.append_left (List.Sublist.refl _) _))) hres) rfl
    · exfalso
      try simp only [qa, qaD] at a6
      omega

theorem f30_ok {x0 : List (List Int)} {v0 : PV} (r0 : (tSl (tSl tI)).R x0 v0) (hs : Sm x0) : ∃ r, FnR Try.prog 30 [v0] r ∧ (tSl (tSl tI)).R (ref06_Reverse x0) r := by
  refine fnT (R := RF30) text30 rfl fun res hres => ?_
  unfold ref06_Reverse at hres
  have hn : x0.length ≤ 24 := hs.n
  refine sR ?_
  refine rd_op (v := nilS) (ov_move rfl) ?_
  refine nR ?_
  refine mV rfl ?_
  refine rd_op (ov_bi rfl (sl_len r0 Try.underlying22 _)) ?_
  have b2 : fits (x0.length) 24 = true := fits_of (by first | omega | (have hk := iv2_0 x4_ (by omega) (by omega); first | omega | (simp only [List.length_cons, List.length_nil]; omega))) (by first | omega | (have hk := iv2_0 x4_ (by omega) (by omega); first | omega | (simp only [List.length_cons, List.length_nil]; omega)))
  refine rd_makeO (sz := 1) (ty := 31) (n := x0.length) (zz := nilS) (Mem.nil ⟨0, []⟩) rfl rfl rfl rfl rfl b2 (fun a7 a5 b5 b8 => ?_)
  have c3 : All2 (tSl tI).R (List.replicate x0.length ([] : List Int)) (List.replicate x0.length nilS) := All2.rep (show (tSl tI).R ([] : List Int) nilS from sl_nil) _
  have a2 : (List.replicate x0.length ([] : List Int)).length = x0.length := List.length_replicate
  have a4 : (List.replicate x0.length ([] : List Int)).length ≤ 4611686018427387904 := by rw [a2]; exact fits_len b2
  obtain ⟨a6, b6, b0⟩ : ∃ a6, Ns tI 3 (List.replicate x0.length ([] : List Int)) (List.replicate x0.length nilS) a6 ∧ Mem b5 (⟨.os a7 a5 0 x0.length, 31, 1, (List.replicate x0.length nilS)⟩ :: (a6 ++ [])) := ⟨_, ns_rep _, ns_new (C := [⟨.os a7 a5 0 x0.length, 31, 1, (List.replicate x0.length nilS)⟩]) b8 3 1 _⟩
  refine mV rfl ?_
  refine nS ?_
  refine rc_seq ?_
  refine sR ?_
  refine mI rfl ?_
  refine nS ?_
  refine rc_block ?_
  refine wC (ref06_Reverse_L1_ok r0 hs hn a2 a4 ?_  b6 a2 a4 rfl (by omega) (by exact lb_rep (by omega)) (Mem.sub b0 (.cons_cons _ (List.Sublist.append_left (List.Sublist.refl _) _))) hres) rfl
  · intro a8 a0 b1 a3 a9 a1 c2 b3 hres
    refine px_blk ?_
    refine pn_seq ?_
    refine sR ?_
    refine mV rfl ?_
    refine mV rfl ?_
    refine nS ?_
    obtain ⟨b9, b7, b4⟩ := ns_deep (P := Try.prog) (k := 0) (C := [⟨.os a7 a5 0 x0.length, 31, 1, a0⟩]) b3 rfl rfl a3 (Nat.le_trans a1 (by decide))
    subst hres
    exact rc_retV (.tmp rfl .nil) b7 b4

def RF38 (res : (List Int)) (r : PV) : Prop := (tSl tI).R res r
theorem ref06_descend_L2_ok {S : List Fr} {res : (List Int)} {x0 : List (List Int)} {x1 : List Int} {x2 a4 a2 : Int} {a5 : List Int} {v0 v1 : PV} {a3 : List PV} {a1 : PV} (r0 : (tSl (tSl tI)).R x0 v0) (r1 : (tSl tI).R x1 v1) (hn : x0.length ≤ 1000) (hx : x1.length = x0.length) (ww : WB x1 100000) (h2 : 0 ≤ x2 ∧ x2 < (x0.length : Int)) (c7 : wr ((x0.length : Int) - 1) = (x0.length : Int) - 1) (c5 : isL a1 = true) (b8 : a5.length ≤ 4611686018427387904) (c2 : -100000 ≤ a2) (c3 : (a5.length : Int) + a2 ≤ 100001) (b6 : (decide (0 < a2)) = true) {K2 : Int → (List Int)}
    (c4 : ∀ {a0 : Int} {h : Heap} (M0 : Mem h [⟨a1, 3, 1, a3⟩]), K2 a0 = res → PX Try.prog 2 S (QR Try.prog [(6, none)] (RF38 res)) [(0, v0), (1, v1), (7, a1), (8, vi a2), (9, vi a0)] h) :
    ∀ {m : Nat} {a0 : Int} (c6 : m = Int.toNat ((wr ((x0.length : Int) - 1)) - a0)) (b4 : 0 ≤ a0) {h : Heap} (M0 : Mem h [⟨a1, 3, 1, a3⟩]), ref06_descend_L2 x0 x1 a4 a2 K2 m a0 = res → RC Try.prog (.loop ac38_L2) S (QR Try.prog [(6, none)] (RF38 res)) [(9, vi a0), (8, vi a2), (7, a1), (2, vi a4), (1, v1), (0, v0)] h := by
  have a8 := b6
  try simp only [qa, qaD] at a8
  intro m
  induction m with
  | zero =>
    intro a0 c6 b4 h M0 hres
    rw [ref06_descend_L2] at hres
    refine rc_loop ?_
    refine rc_seq ?_
    refine sR ?_
    refine mV rfl ?_
    refine mV rfl ?_
    refine rd_op (ov_bi rfl (sl_len r0 Try.underlying22 _)) ?_
    refine bN i_sub rfl rfl ?_
    refine bN i_lss rfl rfl ?_
    refine mV rfl ?_
    refine rd_cutn 15 (d := 40) (v := vb ((decide (a0 < (wr ((x0.length : Int) - 1)))) && (!((decide ((ix x1 a0) = (wr (a2 - 1)))) && (ref06_Edge x0 a4 a0))))) ?_ ?_
    · intro S Q r
      cases b1 : (decide (a0 < (wr ((x0.length : Int) - 1))))
      · exact gN 14 rfl rfl rfl rfl rfl rfl
      · intro k
        have a9 := b1
        try simp only [qa, qaD] at a9
        refine rd_yes rfl rfl (ov_move rfl) ?_
        refine rd_yes rfl rfl (ov_move rfl) ?_
        refine rd_yes rfl rfl (ov_iaddr rfl rfl (slI r1 (by omega) (by omega))) ?_
        refine rd_yes rfl rfl (ov_load rfl rfl rfl) ?_
        refine rd_yes rfl rfl (ov_move rfl) ?_
        refine rd_yes rfl rfl (ov_bin rfl rfl i_sub) ?_
        refine rd_yes rfl rfl (ov_bin rfl rfl i_eql) ?_
        refine rd_yes rfl rfl (ov_move rfl) ?_
        refine rd_cutn 5 (d := 38) (v := vb ((decide ((ix x1 a0) = (wr (a2 - 1)))) && (ref06_Edge x0 a4 a0))) ?_ ?_
        · intro S Q r
          cases b5 : (decide ((ix x1 a0) = (wr (a2 - 1))))
          · intro k
            refine rd_skip rfl rfl ?_
            refine rd_skip rfl rfl ?_
            refine rd_skip rfl rfl ?_
            refine rd_skip rfl rfl ?_
            refine rd_yes (v := vb false) rfl rfl (ov_pick rfl rfl rfl rfl) ?_
            exact wD k rfl
          · intro k
            have a6 := b5
            try simp only [qa, qaD] at a6
            refine rd_yes rfl rfl (ov_move rfl) ?_
            refine rd_yes rfl rfl (ov_move rfl) ?_
            refine rd_yes rfl rfl (ov_move rfl) ?_
            have b9 := f32_ok (x1 := a4) (x2 := a0) r0 
            refine rd_ycall rfl rfl (cv_fn rfl rfl (clL_cons (TR.clo (tSl (tSl tI)) r0) (clL_cons rfl (clL_cons rfl clL_nil))) b9) ?_
            refine rd_yes (v := vb (ref06_Edge x0 a4 a0)) rfl rfl (ov_pick rfl rfl rfl rfl) ?_
            exact wD k rfl
        refine rd_yes rfl rfl (ov_not rfl) ?_
        exact gK rfl rfl rfl rfl rfl k
    refine nS ?_
    refine rc_cond rfl ?_ ?_ <;> intro c <;> try simp only [qa, qaD] at c
    · omega
    refine rc_exit ?_
    refine px_seq ?_
    refine px_again ?_
    exact wP (c4 (Mem.sub M0 (.cons_cons _ .slnil)) hres) rfl
  | succ m ih =>
    intro a0 c6 b4 h M0 hres
    rw [ref06_descend_L2] at hres
    refine rc_loop ?_
    refine rc_seq ?_
    refine sR ?_
    refine mV rfl ?_
    refine mV rfl ?_
    refine rd_op (ov_bi rfl (sl_len r0 Try.underlying22 _)) ?_
    refine bN i_sub rfl rfl ?_
    refine bN i_lss rfl rfl ?_
    refine mV rfl ?_
    refine rd_cutn 15 (d := 40) (v := vb ((decide (a0 < (wr ((x0.length : Int) - 1)))) && (!((decide ((ix x1 a0) = (wr (a2 - 1)))) && (ref06_Edge x0 a4 a0))))) ?_ ?_
    · intro S Q r
      cases b2 : (decide (a0 < (wr ((x0.length : Int) - 1))))
      · exact gN 14 rfl rfl rfl rfl rfl rfl
      · intro k
        have b0 := b2
        try simp only [qa, qaD] at b0
        refine rd_yes rfl rfl (ov_move rfl) ?_
        refine rd_yes rfl rfl (ov_move rfl) ?_
        refine rd_yes rfl rfl (ov_iaddr rfl rfl (slI r1 (by omega) (by omega))) ?_
        refine rd_yes rfl rfl (ov_load rfl rfl rfl) ?_
        refine rd_yes rfl rfl (ov_move rfl) ?_
        refine rd_yes rfl rfl (ov_bin rfl rfl i_sub) ?_
        refine rd_yes rfl rfl (ov_bin rfl rfl i_eql) ?_
        refine rd_yes rfl rfl (ov_move rfl) ?_
        refine rd_cutn 5 (d := 38) (v := vb ((decide ((ix x1 a0) = (wr (a2 - 1)))) && (ref06_Edge x0 a4 a0))) ?_ ?_
        · intro S Q r
          cases b3 : (decide ((ix x1 a0) = (wr (a2 - 1))))
          · intro k
            refine rd_skip rfl rfl ?_
            refine rd_skip rfl rfl ?_
            refine rd_skip rfl rfl ?_
            refine rd_skip rfl rfl ?_
            refine rd_yes (v := vb false) rfl rfl (ov_pick rfl rfl rfl rfl) ?_
            exact wD k rfl
          · intro k
            have a7 := b3
            try simp only [qa, qaD] at a7
            refine rd_yes rfl rfl (ov_move rfl) ?_
            refine rd_yes rfl rfl (ov_move rfl) ?_
            refine rd_yes rfl rfl (ov_move rfl) ?_
            have b7 := f32_ok (x1 := a4) (x2 := a0) r0 
            refine rd_ycall rfl rfl (cv_fn rfl rfl (clL_cons (TR.clo (tSl (tSl tI)) r0) (clL_cons rfl (clL_cons rfl clL_nil))) b7) ?_
            refine rd_yes (v := vb (ref06_Edge x0 a4 a0)) rfl rfl (ov_pick rfl rfl rfl rfl) ?_
            exact wD k rfl
        refine rd_yes rfl rfl (ov_not rfl) ?_
        exact gK rfl rfl rfl rfl rfl k
    refine nS ?_
    refine rc_br hres rfl ?_ ?_ <;> clear hres <;> intro c hres <;> try simp only [qa, qaD] at c
    · refine rc_skip ?_
      refine pn_seq ?_
      refine rc_block ?_
      refine rc_region ?_
      refine mV rfl ?_
      refine bN i_add rfl rfl ?_
      refine mV rfl ?_
      refine rd_nil ?_
      refine pn_blk ?_
      refine pn_again ?_
      have hinc : wr (a0 + 1) = a0 + 1 := wr_of (by omega) (by omega)
      erw [hinc]
      exact wC (ih   (by omega) (by omega) (Mem.sub M0 (.cons_cons _ .slnil)) hres) rfl
    · refine rc_exit ?_
      refine px_seq ?_
      refine px_again ?_
      exact wP (c4 (Mem.sub M0 (.cons_cons _ .slnil)) hres) rfl

theorem ref06_descend_L1_ok {S : List Fr} {res : (List Int)} {x0 : List (List Int)} {x1 : List Int} {x2 : Int} {v0 v1 : PV} (r0 : (tSl (tSl tI)).R x0 v0) (r1 : (tSl tI).R x1 v1) (hn : x0.length ≤ 1000) (hx : x1.length = x0.length) (ww : WB x1 100000) (h2 : 0 ≤ x2 ∧ x2 < (x0.length : Int)) (d0 : wr ((x0.length : Int) - 1) = (x0.length : Int) - 1) {K0 : (List Int) → (List Int)}
    (c7 : ∀ {a1 : List Int} {a0 : List PV} {a2 : PV} (a4 : All2 tI.R a1 a0) (a6 : isL a2 = true) (a3 : a1.length ≤ 4611686018427387904) {h : Heap} (M0 : Mem h [⟨a2, 3, 1, a0⟩]), K0 a1 = res → PX Try.prog 0 S (QR Try.prog [(6, none)] (RF38 res)) [(7, a2)] h) :
    ∀ {m : Nat} {b8 b3 : Int} {a1 : List Int} {a0 : List PV} {a2 : PV} (a4 : All2 tI.R a1 a0) (a6 : isL a2 = true) (a3 : a1.length ≤ 4611686018427387904) (c6 : b3 ≤ (m : Int)) (a7 : -100000 ≤ b3) (a8 : (a1.length : Int) + b3 ≤ 100001) {h : Heap} (M0 : Mem h [⟨a2, 3, 1, a0⟩]), ref06_descend_L1 x0 x1 K0 m b8 b3 a1 = res → RC Try.prog (.loop ac38_L1) S (QR Try.prog [(6, none)] (RF38 res)) [(8, vi b3), (7, a2), (2, vi b8), (1, v1), (0, v0)] h := by
  intro m
  induction m with
  | zero =>
    intro b8 b3 a1 a0 a2 a4 a6 a3 c6 a7 a8 h M0 hres
    rw [ref06_descend_L1] at hres
    refine rc_loop ?_
    refine rc_seq ?_
    refine sR ?_
    refine mV rfl ?_
    refine bN i_gtr rfl rfl ?_
    refine nS ?_
    refine rc_cond rfl ?_ ?_ <;> intro c <;> try simp only [qa, qaD] at c
    · omega
    refine rc_exit ?_
    refine px_seq ?_
    refine px_again ?_
    exact wP (c7 a4 a6 a3 (Mem.sub M0 (.cons_cons _ .slnil)) hres) rfl
  | succ m ih =>
    intro b8 b3 a1 a0 a2 a4 a6 a3 c6 a7 a8 h M0 hres
    rw [ref06_descend_L1] at hres
    refine rc_loop ?_
    refine rc_seq ?_
    refine sR ?_
    refine mV rfl ?_
    refine bN i_gtr rfl rfl ?_
    refine nS ?_
    refine rc_br hres rfl ?_ ?_ <;> clear hres <;> intro b1 hres <;> have b2 := b1 <;> try simp only [qa, qaD] at b2
    · refine rc_skip ?_
      refine pn_seq ?_
      refine rc_seq ?_
      refine rc_block ?_
      refine sR ?_
      refine mI rfl ?_
      refine nS ?_
      refine rc_seq ?_
      refine rc_block ?_
      refine wC (ref06_descend_L2_ok r0 r1 hn hx ww h2 d0 a6 a3 a7 a8 b1 ?_  rfl (by omega) (Mem.sub M0 (.cons_cons _ .slnil)) hres) rfl
      · intro a5 c3 c2 hres
        refine px_blk ?_
        refine pn_seq ?_
        refine sR ?_
        refine mV rfl ?_
        refine mV rfl ?_
        refine rd_op (v := .fs true [vi a5]) (ov_bslice rfl (all_cons rfl all_nil)) ?_
        have b9 : (tSl tI).R ([a5] : List Int) (.fs true [vi a5]) := sl_fs ⟨rfl, trivial⟩ (by simp)
        obtain ⟨a9, b6, b0⟩ := src_of (t := tI) (h := c3) b9
        have b5 : fits (a0.length + a9.length) 8 = true := by rw [All2.length_eq a4, All2.length_eq b0]; (try simp only [List.length_cons, List.length_nil]); exact fits_of (by first | omega | (simp only [List.length_append, List.length_cons, List.length_nil]; omega)) (by first | omega | (simp only [List.length_append, List.length_cons, List.length_nil]; omega))
        refine rd_appO (k := 0) (es := a0) (news := a9) c2 rfl rfl rfl a6 b6 b5 (fun c8 c9 c4 c5 => ?_)
        have b7 : All2 tI.R (a1 ++ ([a5] : List Int)) (a0 ++ a9) := All2.app a4 b0
        have b4 : (a1 ++ ([a5] : List Int)).length ≤ 4611686018427387904 := by rw [← All2.length_eq b7, List.length_append]; exact fits_len b5
        refine mV rfl ?_
        refine nS ?_
        refine rc_region ?_
        refine mV rfl ?_
        refine mV rfl ?_
        refine rd_nil ?_
        refine pn_blk ?_
        refine pn_seq ?_
        refine rc_region ?_
        refine mV rfl ?_
        refine bN i_sub rfl rfl ?_
        refine mV rfl ?_
        refine rd_nil ?_
        refine pn_again ?_
        exact wC (ih  b7 c4 b4 (by (rw [wr_of (by omega) (by omega)]; omega)) (by (rw [wr_of (by omega) (by omega)]; first | omega | (simp only [List.length_append, List.length_cons, List.length_nil]; omega))) (by (rw [wr_of (by omega) (by omega)]; first | omega | (simp only [List.length_append, List.length_cons, List.length_nil]; omega))) (Mem.sub c5 (.cons_cons _ .slnil)) hres) rfl
    · refine rc_exit ?_
      refine px_seq ?_
      refine px_again ?_
      exact wP (c7 a4 a6 a3 (Mem.sub M0 (.cons_cons _ .slnil)) hres) rfl

theorem f38_ok {x0 : List (List Int)} {x1 : List Int} {x2 : Int} {v0 v1 : PV} (r0 : (tSl (tSl tI)).R x0 v0) (r1 : (tSl tI).R x1 v1) (hn : x0.length ≤ 1000) (hx : x1.length = x0.length) (ww : WB x1 100000) (h2 : 0 ≤ x2 ∧ x2 < (x0.length : Int)) : ∃ r, FnR Try.prog 38 [v0, v1, vi x2] r ∧ (tSl tI).R (ref06_descend x0 x1 x2) r := by
  refine fnT (R := RF38) text38 rfl fun res hres => ?_
  unfold ref06_descend at hres
  have b4 : wr ((x0.length : Int) - 1) = (x0.length : Int) - 1 := wr_of (by omega) (by omega)
  refine sR ?_
  refine rd_op (v := nilS) (ov_move rfl) ?_
  refine nR ?_
  refine mV rfl ?_
  refine rd_op (v := .fs true [vi x2]) (ov_bslice rfl (all_cons rfl all_nil)) ?_
  have b1 : (tSl tI).R ([x2] : List Int) (.fs true [vi x2]) := sl_fs ⟨rfl, trivial⟩ (by simp)
  refine mV rfl ?_
  refine nS ?_
  refine rc_seq ?_
  refine sR ?_
  refine mV rfl ?_
  refine mV rfl ?_
  refine rd_op (ov_iaddr rfl rfl (slI r1 (by omega) (by omega))) ?_
  refine lR rfl rfl rfl ?_
  refine mV rfl ?_
  refine nS ?_
  refine rc_block ?_
  have a7 := b1
  have a5 : All2 tI.R ([x2] : List Int) [vi x2] := sl_all2 a7
  have a8 := mem_acc (sz := 1) (es := [vi x2]) (Mem.nil ⟨0, []⟩) 3 (.inr rfl) (All2.cnt (t := tI) a5)
  refine wC (ref06_descend_L1_ok r0 r1 hn hx ww h2 b4 ?_  a5 rfl (by simp only [List.length_cons, List.length_nil]; decide) (by omega) (by (have hq := ww.at_dec (k := x2) (by omega) (by omega) (by omega); first | omega | (simp only [List.length_cons, List.length_nil]; omega))) (by (have hq := ww.at_dec (k := x2) (by omega) (by omega) (by omega); first | omega | (simp only [List.length_cons, List.length_nil]; omega))) (Mem.sub a8 (.cons_cons _ .slnil)) hres) rfl
  · intro a3 a4 a6 a2 a1 a0 b3 b2 hres
    refine px_blk ?_
    refine pn_seq ?_
    refine sR ?_
    refine mV rfl ?_
    refine mV rfl ?_
    refine nS ?_
    obtain ⟨b5, a9, b0⟩ := own_sl (P := Try.prog) (k := 0) (t := tI) b2 rfl a1 a2 (Nat.le_trans a0 (by decide))
    subst hres
    exact rc_retV (.tmp rfl .nil) a9 b0

end Go.Proofs.Ytpdimhpjehfjeaa
