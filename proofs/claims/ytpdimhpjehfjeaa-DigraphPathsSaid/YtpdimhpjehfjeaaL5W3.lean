/-
  The code of each function does what its plain program says.
-/
import Derived.Test.YtpdimhpjehfjeaaL5W2
set_option linter.unusedVariables false
set_option linter.unusedSimpArgs false
set_option maxRecDepth 100000
namespace Go.Proofs.Ytpdimhpjehfjeaa
open Go Go.Pb Go.RowKit
def RF32 (res : Bool) (r : PV) : Prop := r = vb res
theorem ref06_Edge_L1_ok {S : List Fr} {res : Bool} {x0 : List (List Int)} {x1 x2 : Int} {v0 : PV} (r0 : (tSl (tSl tI)).R x0 v0) (a3 : ((((decide (x1 < 0)) || (decide ((x0.length : Int) ≤ x1))) || (decide (x2 < 0))) || (decide ((x0.length : Int) ≤ x2))) = false) {K0 : Unit → Bool}
    (b4 : K0 () = res → PX Try.prog 0 S (QR Try.prog [(6, none)] (RF32 res)) [] ⟨0, []⟩) :
    ∀ {m : Nat} {a0 : Int} (b0 : m = Int.toNat (((ix x0 x1).length : Int) - a0)) (a4 : 0 ≤ a0), ref06_Edge_L1 x0 x1 x2 K0 m a0 = res → RC Try.prog (.loop ac32_L1) S (QR Try.prog [(6, none)] (RF32 res)) [(7, vi a0), (2, vi x2), (1, vi x1), (0, v0)] ⟨0, []⟩ := by
  have a2 := a3
  try simp only [qa, qaD] at a2
  intro m
  induction m with
  | zero =>
    intro a0 b0 a4 hres
    rw [ref06_Edge_L1] at hres
    refine rc_loop ?_
    refine rc_seq ?_
    refine sR ?_
    refine mV rfl ?_
    refine mV rfl ?_
    refine mV rfl ?_
    obtain ⟨b1, a8, a6⟩ := sl_idx (i := x1) r0 (by omega) (by omega)
    refine rd_op (ov_iaddr rfl rfl a8) ?_
    refine lD a6 rfl rfl rfl ?_
    refine rd_op (ov_bi rfl (sl_len a6 Try.underlying31 _)) ?_
    refine bN i_lss rfl rfl ?_
    refine nS ?_
    refine rc_cond rfl ?_ ?_ <;> intro c <;> try simp only [qa, qaD] at c
    · omega
    refine rc_exit ?_
    refine px_seq ?_
    refine px_again ?_
    exact wP (b4  hres) rfl
  | succ m ih =>
    intro a0 b0 a4 hres
    rw [ref06_Edge_L1] at hres
    refine rc_loop ?_
    refine rc_seq ?_
    refine sR ?_
    refine mV rfl ?_
    refine mV rfl ?_
    refine mV rfl ?_
    obtain ⟨b2, a9, a1⟩ := sl_idx (i := x1) r0 (by omega) (by omega)
    refine rd_op (ov_iaddr rfl rfl a9) ?_
    refine lD a1 rfl rfl rfl ?_
    refine rd_op (ov_bi rfl (sl_len a1 Try.underlying31 _)) ?_
    refine bN i_lss rfl rfl ?_
    refine nS ?_
    refine rc_cond rfl ?_ ?_ <;> intro c <;> try simp only [qa, qaD] at c
    rotate_left
    · omega
    refine rc_skip ?_
    refine pn_seq ?_
    refine rc_seq ?_
    refine rc_block ?_
    refine sR ?_
    refine mV rfl ?_
    refine mV rfl ?_
    obtain ⟨b3, a7, a5⟩ := sl_idx (i := x1) r0 (by omega) (by omega)
    refine rd_op (ov_iaddr rfl rfl a7) ?_
    refine lD a5 rfl rfl rfl ?_
    refine mV rfl ?_
    refine rd_op (ov_iaddr rfl rfl (slI a5 (by omega) (by omega))) ?_
    refine lR rfl rfl rfl ?_
    refine mV rfl ?_
    refine bN i_eql rfl rfl ?_
    refine nS ?_
    refine rc_br hres rfl ?_ ?_ <;> clear hres <;> intro c hres <;> try simp only [qa, qaD] at c
    · refine sR ?_
      refine mB rfl ?_
      refine nS ?_
      exact rR hres rfl rfl rfl
    · refine rc_skip ?_
      refine pn_blk ?_
      refine pn_seq ?_
      refine rc_region ?_
      refine mV rfl ?_
      refine bN i_add rfl rfl ?_
      refine mV rfl ?_
      refine rd_nil ?_
      refine pn_again ?_
      have hbd := sl_bound a1
      have hinc : wr (a0 + 1) = a0 + 1 := wr_of (by omega) (by omega)
      erw [hinc]
      exact wC (ih   (by omega) (by omega) hres) rfl

theorem f32_ok {x0 : List (List Int)} {x1 x2 : Int} {v0 : PV} (r0 : (tSl (tSl tI)).R x0 v0) : FnR Try.prog 32 [v0, vi x1, vi x2] (vb (ref06_Edge x0 x1 x2)) := by
  refine fnS (R := RF32) text32 (fun _ h => h) rfl fun res hres => ?_
  unfold ref06_Edge at hres
  refine sR ?_
  refine mB rfl ?_
  refine nS ?_
  refine rc_seq ?_
  refine sR ?_
  refine mV rfl ?_
  refine bN i_lss rfl rfl ?_
  refine mV rfl ?_
  refine rd_cutn 5 (d := 15) (v := vb ((decide (x1 < 0)) || (decide ((x0.length : Int) ≤ x1)))) ?_ ?_
  · intro S Q r
    cases a6 : (decide (x1 < 0))
    · intro k
      have a4 := a6
      try simp only [qa, qaD] at a4
      refine rd_yes rfl rfl (ov_move rfl) ?_
      refine rd_yes rfl rfl (ov_move rfl) ?_
      refine rd_yes rfl rfl (ov_bi rfl (sl_len r0 Try.underlying22 _)) ?_
      refine rd_yes rfl rfl (ov_bin rfl rfl i_geq) ?_
      exact gK rfl rfl rfl rfl rfl k
    · exact gN 4 rfl rfl rfl rfl rfl rfl
  refine mV rfl ?_
  refine rd_cutn 3 (d := 19) (v := vb (((decide (x1 < 0)) || (decide ((x0.length : Int) ≤ x1))) || (decide (x2 < 0)))) ?_ ?_
  · intro S Q r
    cases a5 : ((decide (x1 < 0)) || (decide ((x0.length : Int) ≤ x1)))
    · intro k
      have a3 := a5
      try simp only [qa, qaD] at a3
      refine rd_yes rfl rfl (ov_move rfl) ?_
      refine rd_yes rfl rfl (ov_bin rfl rfl i_lss) ?_
      exact gK rfl rfl rfl rfl rfl k
    · exact gN 2 rfl rfl rfl rfl rfl rfl
  refine mV rfl ?_
  refine rd_cutn 5 (d := 25) (v := vb ((((decide (x1 < 0)) || (decide ((x0.length : Int) ≤ x1))) || (decide (x2 < 0))) || (decide ((x0.length : Int) ≤ x2)))) ?_ ?_
  · intro S Q r
    cases a7 : (((decide (x1 < 0)) || (decide ((x0.length : Int) ≤ x1))) || (decide (x2 < 0)))
    · intro k
      have a2 := a7
      try simp only [qa, qaD] at a2
      refine rd_yes rfl rfl (ov_move rfl) ?_
      refine rd_yes rfl rfl (ov_move rfl) ?_
      refine rd_yes rfl rfl (ov_bi rfl (sl_len r0 Try.underlying22 _)) ?_
      refine rd_yes rfl rfl (ov_bin rfl rfl i_geq) ?_
      exact gK rfl rfl rfl rfl rfl k
    · exact gN 4 rfl rfl rfl rfl rfl rfl
  refine nS ?_
  refine rc_br hres rfl ?_ ?_ <;> clear hres <;> intro a0 hres <;> have a1 := a0 <;> try simp only [qa, qaD] at a1
  · refine sR ?_
    refine mB rfl ?_
    refine nS ?_
    exact rR hres rfl rfl rfl
  · refine rc_skip ?_
    refine pn_seq ?_
    refine rc_seq ?_
    refine sR ?_
    refine mI rfl ?_
    refine nS ?_
    refine rc_block ?_
    refine wC (ref06_Edge_L1_ok r0 a0 ?_  rfl (by omega) hres) rfl
    · intro  hres
      refine px_blk ?_
      refine pn_seq ?_
      refine sR ?_
      refine mB rfl ?_
      refine nS ?_
      exact rR hres rfl rfl rfl

def RF35 (res : (List Int)) (r : PV) : Prop := (tSl tI).R res r
theorem ref06_distances_L1_ok {S : List Fr} {res : (List Int)} {x0 : List (List Int)} {x1 : Int} {v0 : PV} {a6 a7 : Nat} (r0 : (tSl (tSl tI)).R x0 v0) (hn : x0.length ≤ 1000) (b7 : (List.replicate x0.length (0 : Int)).length = x0.length) (b6 : (List.replicate x0.length (0 : Int)).length ≤ 4611686018427387904) {K0 : (List Int) → (List Int)}
    (b9 : ∀ {a0 : List Int} {a1 : List PV} (a4 : All2 tI.R a0 a1) (a3 : a0.length = x0.length) (a2 : a0.length ≤ 4611686018427387904) {h : Heap} (M0 : Mem h [⟨.os a6 a7 0 x0.length, 3, 1, a1⟩]), K0 a0 = res → PX Try.prog 0 S (QR Try.prog [(4, none)] (RF35 res)) [(0, v0), (1, vi x1), (5, .os a6 a7 0 x0.length)] h) :
    ∀ {m : Nat} {a5 : Int} {a0 : List Int} {a1 : List PV} (a4 : All2 tI.R a0 a1) (a3 : a0.length = x0.length) (a2 : a0.length ≤ 4611686018427387904) (b5 : m = Int.toNat ((x0.length : Int) - a5)) (b0 : 0 ≤ a5) {h : Heap} (M0 : Mem h [⟨.os a6 a7 0 x0.length, 3, 1, a1⟩]), ref06_distances_L1 K0 m a5 a0 = res → RC Try.prog (.loop ac35_L1) S (QR Try.prog [(4, none)] (RF35 res)) [(6, vi a5), (5, .os a6 a7 0 x0.length), (1, vi x1), (0, v0)] h := by
  intro m
  induction m with
  | zero =>
    intro a5 a0 a1 a4 a3 a2 b5 b0 h M0 hres
    rw [ref06_distances_L1] at hres
    refine rc_loop ?_
    refine rc_seq ?_
    refine sR ?_
    refine mV rfl ?_
    refine mV rfl ?_
    refine rd_op (ov_bi rfl (sl_len r0 Try.underlying22 _)) ?_
    refine bN i_lss rfl rfl ?_
    refine nS ?_
    refine rc_cond rfl ?_ ?_ <;> intro c <;> try simp only [qa, qaD] at c
    · omega
    refine rc_exit ?_
    refine px_seq ?_
    refine px_again ?_
    exact wP (b9 a4 a3 a2 (Mem.sub M0 (.cons_cons _ .slnil)) hres) rfl
  | succ m ih =>
    intro a5 a0 a1 a4 a3 a2 b5 b0 h M0 hres
    rw [ref06_distances_L1] at hres
    refine rc_loop ?_
    refine rc_seq ?_
    refine sR ?_
    refine mV rfl ?_
    refine mV rfl ?_
    refine rd_op (ov_bi rfl (sl_len r0 Try.underlying22 _)) ?_
    refine bN i_lss rfl rfl ?_
    refine nS ?_
    refine rc_cond rfl ?_ ?_ <;> intro c <;> try simp only [qa, qaD] at c
    rotate_left
    · omega
    refine rc_skip ?_
    refine pn_seq ?_
    refine rc_seq ?_
    refine rc_block ?_
    refine rc_region ?_
    refine mV rfl ?_
    refine mV rfl ?_
    have a8 : 0 ≤ a5 := (by omega)
    have b4 : a5 < (a0.length : Int) := (by omega)
    refine rd_op (ov_iaddr rfl rfl (n_idx 1 a8 (by omega))) ?_
    refine rd_setO (k := 0) (v := vi (-1)) M0 rfl rfl rfl (by rw [All2.length_eq a4]; omega) rfl (fun b8 b3 => ?_)
    have b2 := All2.set (i := (a5).toNat) a4 (show tI.R (-1) (vi (-1)) from rfl)
    have a9 : (a0.set (a5).toNat (-1)).length ≤ 4611686018427387904 := by simp only [List.length_set]; exact a2
    have b1 : (a0.set (a5).toNat (-1)).length = x0.length := by simp only [List.length_set]; exact a3
    refine rd_nil ?_
    refine pn_blk ?_
    refine pn_seq ?_
    refine rc_region ?_
    refine mV rfl ?_
    refine bN i_add rfl rfl ?_
    refine mV rfl ?_
    refine rd_nil ?_
    refine pn_again ?_
    have hbd := sl_bound r0
    have hinc : wr (a5 + 1) = a5 + 1 := wr_of (by omega) (by omega)
    erw [hinc]
    exact wC (ih  b2 b1 a9 (by omega) (by omega) (Mem.sub b3 (.cons_cons _ .slnil)) hres) rfl

theorem ref06_distances_L4_ok {S : List Fr} {res : (List Int)} {x0 : List (List Int)} {x1 : Int} {a5 : List Int} {a9 : Int} {b5 : List Int} {a7 : Int} {a8 : List Int} {v0 : PV} {b3 b4 : Nat} (r0 : (tSl (tSl tI)).R x0 v0) (hn : x0.length ≤ 1000) (f9 : (List.replicate x0.length (0 : Int)).length = x0.length) (g3 : (List.replicate x0.length (0 : Int)).length ≤ 4611686018427387904) (d1 : a5.length = x0.length) (d2 : a5.length ≤ 4611686018427387904) (d8 : ((decide (x1 < 0)) || (decide ((x0.length : Int) ≤ x1))) = false) (f0 : 0 ≤ x1) (e4 : x1 < (a5.length : Int)) (f8 : (a5.set (x1).toNat 0).length ≤ 4611686018427387904) (g0 : (a5.set (x1).toNat 0).length = x0.length) (f1 : b5.length = x0.length) (e8 : b5.length ≤ 4611686018427387904) (g5 : 0 ≤ a9) (d5 : (decide (a9 < (x0.length : Int))) = true) (d7 : a8.length = x0.length) (d6 : a8.length ≤ 4611686018427387904) (g6 : 0 ≤ a7) (e1 : (decide (a7 < (x0.length : Int))) = true) {K6 : (List Int) → (List Int)}
    (g1 : ∀ {a0 : List Int} {a4 : List PV} (a1 : All2 tI.R a0 a4) (a3 : a0.length = x0.length) (a2 : a0.length ≤ 4611686018427387904) {h : Heap} (M0 : Mem h [⟨.os b3 b4 0 x0.length, 3, 1, a4⟩]), K6 a0 = res → PX Try.prog 6 S (QR Try.prog [(4, none)] (RF35 res)) [(0, v0), (5, .os b3 b4 0 x0.length), (7, vi a9), (8, vi a7)] h) :
    ∀ {m : Nat} {a6 : Int} {a0 : List Int} {a4 : List PV} (a1 : All2 tI.R a0 a4) (a3 : a0.length = x0.length) (a2 : a0.length ≤ 4611686018427387904) (g2 : m = Int.toNat ((x0.length : Int) - a6)) (d4 : 0 ≤ a6) {h : Heap} (M0 : Mem h [⟨.os b3 b4 0 x0.length, 3, 1, a4⟩]), ref06_distances_L4 x0 a9 a7 K6 m a6 a0 = res → RC Try.prog (.loop ac35_L4) S (QR Try.prog [(4, none)] (RF35 res)) [(9, vi a6), (8, vi a7), (7, vi a9), (5, .os b3 b4 0 x0.length), (0, v0)] h := by
  have c3 := d8
  try simp only [qa, qaD] at c3
  have b7 := d5
  try simp only [qa, qaD] at b7
  have d0 := e1
  try simp only [qa, qaD] at d0
  intro m
  induction m with
  | zero =>
    intro a6 a0 a4 a1 a3 a2 g2 d4 h M0 hres
    rw [ref06_distances_L4] at hres
    refine rc_loop ?_
    refine rc_seq ?_
    refine sR ?_
    refine mV rfl ?_
    refine mV rfl ?_
    refine rd_op (ov_bi rfl (sl_len r0 Try.underlying22 _)) ?_
    refine bN i_lss rfl rfl ?_
    refine mV rfl ?_
    refine rd_cutn 6 (d := 56) (v := vb ((decide (a6 < (x0.length : Int))) && (decide ((ix a0 a7) < 0)))) ?_ ?_
    · intro S Q r
      cases e3 : (decide (a6 < (x0.length : Int)))
      · exact gN 5 rfl rfl rfl rfl rfl rfl
      · intro k
        have c5 := e3
        try simp only [qa, qaD] at c5
        refine rd_yes rfl rfl (ov_move rfl) ?_
        refine rd_yes rfl rfl (ov_move rfl) ?_
        have b0 : 0 ≤ a7 := (by omega)
        have b9 : a7 < (a0.length : Int) := (by omega)
        refine rd_yes rfl rfl (ov_iaddr rfl rfl (n_idx 1 b0 (by omega))) ?_
        obtain ⟨e6, f4, c6⟩ := elem_at (i := a7) a1 b0 b9
        have c6 : e6 = vi (ix a0 a7) := c6; subst c6
        refine rd_yes rfl rfl (ov_elem (k := 0) M0 rfl rfl f4 rfl) ?_
        refine rd_yes rfl rfl (ov_bin rfl rfl i_lss) ?_
        exact gK rfl rfl rfl rfl rfl k
    refine nS ?_
    refine rc_cond rfl ?_ ?_ <;> intro c <;> try simp only [qa, qaD] at c
    · omega
    refine rc_exit ?_
    refine px_seq ?_
    refine px_again ?_
    exact wP (g1 a1 a3 a2 (Mem.sub M0 (.cons_cons _ .slnil)) hres) rfl
  | succ m ih =>
    intro a6 a0 a4 a1 a3 a2 g2 d4 h M0 hres
    rw [ref06_distances_L4] at hres
    refine rc_loop ?_
    refine rc_seq ?_
    refine sR ?_
    refine mV rfl ?_
    refine mV rfl ?_
    refine rd_op (ov_bi rfl (sl_len r0 Try.underlying22 _)) ?_
    refine bN i_lss rfl rfl ?_
    refine mV rfl ?_
    refine rd_cutn 6 (d := 56) (v := vb ((decide (a6 < (x0.length : Int))) && (decide ((ix a0 a7) < 0)))) ?_ ?_
    · intro S Q r
      cases e0 : (decide (a6 < (x0.length : Int)))
      · exact gN 5 rfl rfl rfl rfl rfl rfl
      · intro k
        have c8 := e0
        try simp only [qa, qaD] at c8
        refine rd_yes rfl rfl (ov_move rfl) ?_
        refine rd_yes rfl rfl (ov_move rfl) ?_
        have b2 : 0 ≤ a7 := (by omega)
        have c9 : a7 < (a0.length : Int) := (by omega)
        refine rd_yes rfl rfl (ov_iaddr rfl rfl (n_idx 1 b2 (by omega))) ?_
        obtain ⟨e7, f3, c2⟩ := elem_at (i := a7) a1 b2 c9
        have c2 : e7 = vi (ix a0 a7) := c2; subst c2
        refine rd_yes rfl rfl (ov_elem (k := 0) M0 rfl rfl f3 rfl) ?_
        refine rd_yes rfl rfl (ov_bin rfl rfl i_lss) ?_
        exact gK rfl rfl rfl rfl rfl k
    refine nS ?_
    refine rc_br hres rfl ?_ ?_ <;> clear hres <;> intro c hres <;> try simp only [qa, qaD] at c
    · refine rc_skip ?_
      refine pn_seq ?_
      refine rc_seq ?_
      refine rc_block ?_
      refine sR ?_
      refine mV rfl ?_
      refine mV rfl ?_
      have b1 : 0 ≤ a6 := (by omega)
      have b8 : a6 < (a0.length : Int) := (by omega)
      refine rd_op (ov_iaddr rfl rfl (n_idx 1 b1 (by omega))) ?_
      obtain ⟨f5, f2, b6⟩ := elem_at (i := a6) a1 b1 b8
      have b6 : f5 = vi (ix a0 a6) := b6; subst b6
      refine rd_op (ov_elem (k := 0) M0 rfl rfl f2 rfl) ?_
      refine mV rfl ?_
      refine bN i_eql rfl rfl ?_
      refine mV rfl ?_
      refine rd_cutn 5 (d := 70) (v := vb ((decide ((ix a0 a6) = a9)) && (ref06_Edge x0 a7 a6))) ?_ ?_
      · intro S Q r
        cases d9 : (decide ((ix a0 a6) = a9))
        · exact gN 4 rfl rfl rfl rfl rfl rfl
        · intro k
          have c7 := d9
          try simp only [qa, qaD] at c7
          refine rd_yes rfl rfl (ov_move rfl) ?_
          refine rd_yes rfl rfl (ov_move rfl) ?_
          refine rd_yes rfl rfl (ov_move rfl) ?_
          have e9 := f32_ok (x1 := a7) (x2 := a6) r0 
          refine rd_ycall rfl rfl (cv_fn rfl rfl (clL_cons (TR.clo (tSl (tSl tI)) r0) (clL_cons rfl (clL_cons rfl clL_nil))) e9) ?_
          exact gK rfl rfl rfl rfl rfl k
      refine nS ?_
      refine rc_br hres rfl ?_ ?_ <;> clear hres <;> intro c hres <;> try simp only [qa, qaD] at c
      · refine rc_region ?_
        refine mV rfl ?_
        refine mV rfl ?_
        refine mV rfl ?_
        refine bN i_add rfl rfl ?_
        have c4 : 0 ≤ a7 := (by omega)
        have e5 : a7 < (a0.length : Int) := (by omega)
        refine rd_op (ov_iaddr rfl rfl (n_idx 1 c4 (by omega))) ?_
        refine rd_setO (k := 0) (v := vi (wr (a9 + 1))) M0 rfl rfl rfl (by rw [All2.length_eq a1]; omega) rfl (fun g4 f6 => ?_)
        have f7 := All2.set (i := (a7).toNat) a1 (show tI.R (wr (a9 + 1)) (vi (wr (a9 + 1))) from rfl)
        have d3 : (a0.set (a7).toNat (wr (a9 + 1))).length ≤ 4611686018427387904 := by simp only [List.length_set]; exact a2
        have e2 : (a0.set (a7).toNat (wr (a9 + 1))).length = x0.length := by simp only [List.length_set]; exact a3
        refine rd_nil ?_
        refine pn_blk ?_
        refine pn_seq ?_
        refine rc_region ?_
        refine mV rfl ?_
        refine bN i_add rfl rfl ?_
        refine mV rfl ?_
        refine rd_nil ?_
        refine pn_again ?_
        have hbd := sl_bound r0
        have hinc : wr (a6 + 1) = a6 + 1 := wr_of (by omega) (by omega)
        erw [hinc]
        exact wC (ih  f7 e2 d3 (by omega) (by omega) (Mem.sub f6 (.cons_cons _ .slnil)) hres) rfl
      · refine rc_skip ?_
        refine pn_blk ?_
        refine pn_seq ?_
        refine rc_region ?_
        refine mV rfl ?_
        refine bN i_add rfl rfl ?_
        refine mV rfl ?_
        refine rd_nil ?_
        refine pn_again ?_
        have hbd := sl_bound r0
        have hinc : wr (a6 + 1) = a6 + 1 := wr_of (by omega) (by omega)
        erw [hinc]
        exact wC (ih  a1 a3 a2 (by omega) (by omega) (Mem.sub M0 (.cons_cons _ .slnil)) hres) rfl
    · refine rc_exit ?_
      refine px_seq ?_
      refine px_again ?_
      exact wP (g1 a1 a3 a2 (Mem.sub M0 (.cons_cons _ .slnil)) hres) rfl

theorem ref06_distances_L3_ok {S : List Fr} {res : (List Int)} {x0 : List (List Int)} {x1 : Int} {a4 : List Int} {d1 : Int} {b4 : List Int} {v0 : PV} {b2 b3 : Nat} (r0 : (tSl (tSl tI)).R x0 v0) (hn : x0.length ≤ 1000) (d3 : (List.replicate x0.length (0 : Int)).length = x0.length) (d2 : (List.replicate x0.length (0 : Int)).length ≤ 4611686018427387904) (b0 : a4.length = x0.length) (a7 : a4.length ≤ 4611686018427387904) (b5 : ((decide (x1 < 0)) || (decide ((x0.length : Int) ≤ x1))) = false) (c4 : 0 ≤ x1) (c2 : x1 < (a4.length : Int)) (d0 : (a4.set (x1).toNat 0).length ≤ 4611686018427387904) (d4 : (a4.set (x1).toNat 0).length = x0.length) (c6 : b4.length = x0.length) (c3 : b4.length ≤ 4611686018427387904) (d5 : 0 ≤ d1) (b8 : (decide (d1 < (x0.length : Int))) = true) {K4 : (List Int) → (List Int)}
    (d9 : ∀ {a0 : List Int} {a1 : List PV} (a5 : All2 tI.R a0 a1) (a3 : a0.length = x0.length) (a2 : a0.length ≤ 4611686018427387904) {h : Heap} (M0 : Mem h [⟨.os b2 b3 0 x0.length, 3, 1, a1⟩]), K4 a0 = res → PX Try.prog 4 S (QR Try.prog [(4, none)] (RF35 res)) [(0, v0), (5, .os b2 b3 0 x0.length), (7, vi d1)] h) :
    ∀ {m : Nat} {b6 : Int} {a0 : List Int} {a1 : List PV} (a5 : All2 tI.R a0 a1) (a3 : a0.length = x0.length) (a2 : a0.length ≤ 4611686018427387904) (d7 : m = Int.toNat ((x0.length : Int) - b6)) (c5 : 0 ≤ b6) {h : Heap} (M0 : Mem h [⟨.os b2 b3 0 x0.length, 3, 1, a1⟩]), ref06_distances_L3 x0 d1 K4 m b6 a0 = res → RC Try.prog (.loop ac35_L3) S (QR Try.prog [(4, none)] (RF35 res)) [(8, vi b6), (7, vi d1), (5, .os b2 b3 0 x0.length), (0, v0)] h := by
  have b9 := b5
  try simp only [qa, qaD] at b9
  have c8 := b8
  try simp only [qa, qaD] at c8
  intro m
  induction m with
  | zero =>
    intro b6 a0 a1 a5 a3 a2 d7 c5 h M0 hres
    rw [ref06_distances_L3] at hres
    refine rc_loop ?_
    refine rc_seq ?_
    refine sR ?_
    refine mV rfl ?_
    refine mV rfl ?_
    refine rd_op (ov_bi rfl (sl_len r0 Try.underlying22 _)) ?_
    refine bN i_lss rfl rfl ?_
    refine nS ?_
    refine rc_cond rfl ?_ ?_ <;> intro c <;> try simp only [qa, qaD] at c
    · omega
    refine rc_exit ?_
    refine px_seq ?_
    refine px_again ?_
    exact wP (d9 a5 a3 a2 (Mem.sub M0 (.cons_cons _ .slnil)) hres) rfl
  | succ m ih =>
    intro b6 a0 a1 a5 a3 a2 d7 c5 h M0 hres
    rw [ref06_distances_L3] at hres
    refine rc_loop ?_
    refine rc_seq ?_
    refine sR ?_
    refine mV rfl ?_
    refine mV rfl ?_
    refine rd_op (ov_bi rfl (sl_len r0 Try.underlying22 _)) ?_
    refine bN i_lss rfl rfl ?_
    refine nS ?_
    refine rc_cond rfl (fun a6 => ?_) (fun a6 => ?_)
    · have hgo := hres
      have c7 := a6
      try simp only [qa, qaD] at c7
      refine rc_skip ?_
      refine pn_seq ?_
      refine rc_seq ?_
      refine rc_block ?_
      refine sR ?_
      refine mI rfl ?_
      refine nS ?_
      refine rc_block ?_
      refine wC (ref06_distances_L4_ok r0 hn d3 d2 b0 a7 b5 c4 c2 d0 d4 c6 c3 d5 b8 a3 a2 c5 a6 ?_  a5 a3 a2 rfl (by omega) (Mem.sub M0 (.cons_cons _ .slnil)) hres) rfl
      · intro b7 c9 b1 a8 a9 d8 d6 hres
        refine px_blk ?_
        refine pn_blk ?_
        refine pn_seq ?_
        refine rc_region ?_
        refine mV rfl ?_
        refine bN i_add rfl rfl ?_
        refine mV rfl ?_
        refine rd_nil ?_
        refine pn_again ?_
        have hbd := sl_bound r0
        have hinc : wr (b6 + 1) = b6 + 1 := wr_of (by omega) (by omega)
        erw [hinc]
        exact wC (ih  b1 a8 a9 (by omega) (by omega) (Mem.sub d6 (.cons_cons _ .slnil)) hres) rfl
    · exfalso
      try simp only [qa, qaD] at a6
      omega

theorem ref06_distances_L2_ok {S : List Fr} {res : (List Int)} {x0 : List (List Int)} {x1 : Int} {a0 : List Int} {v0 : PV} {b2 b3 : Nat} (r0 : (tSl (tSl tI)).R x0 v0) (hn : x0.length ≤ 1000) (c7 : (List.replicate x0.length (0 : Int)).length = x0.length) (c6 : (List.replicate x0.length (0 : Int)).length ≤ 4611686018427387904) (a9 : a0.length = x0.length) (a7 : a0.length ≤ 4611686018427387904) (b5 : ((decide (x1 < 0)) || (decide ((x0.length : Int) ≤ x1))) = false) (c2 : 0 ≤ x1) (b9 : x1 < (a0.length : Int)) (c5 : (a0.set (x1).toNat 0).length ≤ 4611686018427387904) (c8 : (a0.set (x1).toNat 0).length = x0.length) {K2 : (List Int) → (List Int)}
    (d2 : ∀ {a1 : List Int} {a2 : List PV} (a5 : All2 tI.R a1 a2) (a4 : a1.length = x0.length) (a3 : a1.length ≤ 4611686018427387904) {h : Heap} (M0 : Mem h [⟨.os b2 b3 0 x0.length, 3, 1, a2⟩]), K2 a1 = res → PX Try.prog 2 S (QR Try.prog [(4, none)] (RF35 res)) [(5, .os b2 b3 0 x0.length)] h) :
    ∀ {m : Nat} {b4 : Int} {a1 : List Int} {a2 : List PV} (a5 : All2 tI.R a1 a2) (a4 : a1.length = x0.length) (a3 : a1.length ≤ 4611686018427387904) (d0 : m = Int.toNat ((x0.length : Int) - b4)) (b7 : 0 ≤ b4) {h : Heap} (M0 : Mem h [⟨.os b2 b3 0 x0.length, 3, 1, a2⟩]), ref06_distances_L2 x0 K2 m b4 a1 = res → RC Try.prog (.loop ac35_L2) S (QR Try.prog [(4, none)] (RF35 res)) [(7, vi b4), (5, .os b2 b3 0 x0.length), (0, v0)] h := by
  have b8 := b5
  try simp only [qa, qaD] at b8
  intro m
  induction m with
  | zero =>
    intro b4 a1 a2 a5 a4 a3 d0 b7 h M0 hres
    rw [ref06_distances_L2] at hres
    refine rc_loop ?_
    refine rc_seq ?_
    refine sR ?_
    refine mV rfl ?_
    refine mV rfl ?_
    refine rd_op (ov_bi rfl (sl_len r0 Try.underlying22 _)) ?_
    refine bN i_lss rfl rfl ?_
    refine nS ?_
    refine rc_cond rfl ?_ ?_ <;> intro c <;> try simp only [qa, qaD] at c
    · omega
    refine rc_exit ?_
    refine px_seq ?_
    refine px_again ?_
    exact wP (d2 a5 a4 a3 (Mem.sub M0 (.cons_cons _ .slnil)) hres) rfl
  | succ m ih =>
    intro b4 a1 a2 a5 a4 a3 d0 b7 h M0 hres
    rw [ref06_distances_L2] at hres
    refine rc_loop ?_
    refine rc_seq ?_
    refine sR ?_
    refine mV rfl ?_
    refine mV rfl ?_
    refine rd_op (ov_bi rfl (sl_len r0 Try.underlying22 _)) ?_
    refine bN i_lss rfl rfl ?_
    refine nS ?_
    refine rc_cond rfl (fun a6 => ?_) (fun a6 => ?_)
    · have hgo := hres
      have c3 := a6
      try simp only [qa, qaD] at c3
      refine rc_skip ?_
      refine pn_seq ?_
      refine rc_seq ?_
      refine rc_block ?_
      refine sR ?_
      refine mI rfl ?_
      refine nS ?_
      refine rc_block ?_
      refine wC (ref06_distances_L3_ok r0 hn c7 c6 a9 a7 b5 c2 b9 c5 c8 a4 a3 b7 a6 ?_  a5 a4 a3 rfl (by omega) (Mem.sub M0 (.cons_cons _ .slnil)) hres) rfl
      · intro b6 c4 b1 a8 b0 d1 c9 hres
        refine px_blk ?_
        refine pn_blk ?_
        refine pn_seq ?_
        refine rc_region ?_
        refine mV rfl ?_
        refine bN i_add rfl rfl ?_
        refine mV rfl ?_
        refine rd_nil ?_
        refine pn_again ?_
        have hbd := sl_bound r0
        have hinc : wr (b4 + 1) = b4 + 1 := wr_of (by omega) (by omega)
        erw [hinc]
        exact wC (ih  b1 a8 b0 (by omega) (by omega) (Mem.sub c9 (.cons_cons _ .slnil)) hres) rfl
    · exfalso
      try simp only [qa, qaD] at a6
      omega

theorem f35_ok {x0 : List (List Int)} {x1 : Int} {v0 : PV} (r0 : (tSl (tSl tI)).R x0 v0) (hn : x0.length ≤ 1000) : ∃ r, FnR Try.prog 35 [v0, vi x1] r ∧ (tSl tI).R (ref06_distances x0 x1) r := by
  refine fnT (R := RF35) text35 rfl fun res hres => ?_
  unfold ref06_distances at hres
  refine sR ?_
  refine rd_op (v := nilS) (ov_move rfl) ?_
  refine nR ?_
  refine mV rfl ?_
  refine rd_op (ov_bi rfl (sl_len r0 Try.underlying22 _)) ?_
  have b9 : fits (x0.length) 8 = true := fits_of (by first | omega | (simp only [List.length_append, List.length_cons, List.length_nil] at *; omega)) (by first | omega | (simp only [List.length_append, List.length_cons, List.length_nil] at *; omega))
  refine rd_makeO (sz := 1) (ty := 3) (n := x0.length) (zz := vi 0) (Mem.nil ⟨0, []⟩) rfl rfl rfl rfl rfl b9 (fun d7 d9 d6 d0 => ?_)
  have c7 : All2 tI.R (List.replicate x0.length (0 : Int)) (List.replicate x0.length (vi 0)) := All2.rep (show tI.R (0 : Int) (vi 0) from rfl) _
  have a4 : (List.replicate x0.length (0 : Int)).length = x0.length := List.length_replicate
  have a6 : (List.replicate x0.length (0 : Int)).length ≤ 4611686018427387904 := by rw [a4]; exact fits_len b9
  refine mV rfl ?_
  refine nS ?_
  refine rc_seq ?_
  refine sR ?_
  refine mI rfl ?_
  refine nS ?_
  refine rc_block ?_
  refine wC (ref06_distances_L1_ok r0 hn a4 a6 ?_  c7 a4 a6 rfl (by omega) (Mem.sub d0 (.cons_cons _ .slnil)) hres) rfl
  · intro a1 b7 a2 a3 a0 d4 c3 hres
    refine px_blk ?_
    refine pn_seq ?_
    refine rc_seq ?_
    refine sR ?_
    refine mV rfl ?_
    refine bN i_lss rfl rfl ?_
    refine mV rfl ?_
    refine rd_cutn 5 (d := 29) (v := vb ((decide (x1 < 0)) || (decide ((x0.length : Int) ≤ x1)))) ?_ ?_
    · intro S Q r
      cases c2 : (decide (x1 < 0))
      · intro k
        have b4 := c2
        try simp only [qa, qaD] at b4
        refine rd_yes rfl rfl (ov_move rfl) ?_
        refine rd_yes rfl rfl (ov_move rfl) ?_
        refine rd_yes rfl rfl (ov_bi rfl (sl_len r0 Try.underlying22 _)) ?_
        refine rd_yes rfl rfl (ov_bin rfl rfl i_geq) ?_
        exact gK rfl rfl rfl rfl rfl k
      · exact gN 4 rfl rfl rfl rfl rfl rfl
    refine nS ?_
    refine rc_br hres rfl ?_ ?_ <;> clear hres <;> intro b0 hres <;> have b2 := b0 <;> try simp only [qa, qaD] at b2
    · refine sR ?_
      refine mV rfl ?_
      refine mV rfl ?_
      refine nS ?_
      obtain ⟨d5, d2, c5⟩ := own_sl (P := Try.prog) (k := 0) (t := tI) c3 rfl rfl a2 (Nat.le_trans a0 (by decide))
      subst hres
      exact rc_retV (.tmp rfl .nil) d2 c5
    · refine rc_skip ?_
      refine pn_seq ?_
      refine sR ?_
      refine mV rfl ?_
      refine mV rfl ?_
      have a8 : 0 ≤ x1 := (by omega)
      have b3 : x1 < (a1.length : Int) := (by omega)
      refine rd_op (ov_iaddr rfl rfl (n_idx 1 a8 (by omega))) ?_
      refine rd_setO (k := 0) (v := vi 0) c3 rfl rfl rfl (by rw [All2.length_eq a2]; omega) rfl (fun d3 d1 => ?_)
      have c8 := All2.set (i := (x1).toNat) a2 (show tI.R 0 (vi 0) from rfl)
      have a9 : (a1.set (x1).toNat 0).length ≤ 4611686018427387904 := by simp only [List.length_set]; exact a0
      have b1 : (a1.set (x1).toNat 0).length = x0.length := by simp only [List.length_set]; exact a3
      refine nS ?_
      refine rc_seq ?_
      refine sR ?_
      refine mI rfl ?_
      refine nS ?_
      refine rc_block ?_
      refine wC (ref06_distances_L2_ok r0 hn a4 a6 a3 a0 b0 a8 b3 a9 b1 ?_  c8 b1 a9 rfl (by omega) (Mem.sub d1 (.cons_cons _ .slnil)) hres) rfl
      · intro b6 b5 a7 b8 a5 d8 c6 hres
        refine px_blk ?_
        refine pn_seq ?_
        refine sR ?_
        refine mV rfl ?_
        refine mV rfl ?_
        refine nS ?_
        obtain ⟨e0, c4, c9⟩ := own_sl (P := Try.prog) (k := 0) (t := tI) c6 rfl rfl a7 (Nat.le_trans a5 (by decide))
        subst hres
        exact rc_retV (.tmp rfl .nil) c4 c9

def RF38 (res : (List Int)) (r : PV) : Prop := (tSl tI).R res r
theorem ref06_descend_L2_ok {S : List Fr} {res : (List Int)} {x0 : List (List Int)} {x1 : List Int} {x2 a4 a2 : Int} {a5 : List Int} {v0 v1 : PV} {a3 : List PV} {a1 : PV} (r0 : (tSl (tSl tI)).R x0 v0) (r1 : (tSl tI).R x1 v1) (hn : x0.length ≤ 1000) (hx : x1.length = x0.length) (ww : WB x1 100000) (h2 : 0 ≤ x2 ∧ x2 < (x0.length : Int)) (c7 : wr ((x0.length : Int) - 1) = (x0.length : Int) - 1) (c3 : isL a1 = true) (b8 : a5.length ≤ 4611686018427387904) (c6 : -100000 ≤ a2) (c5 : (a5.length : Int) + a2 ≤ 100001) (b4 : (decide (0 < a2)) = true) {K2 : Int → (List Int)}
    (c4 : ∀ {a0 : Int} {h : Heap} (M0 : Mem h [⟨a1, 3, 1, a3⟩]), K2 a0 = res → PX Try.prog 2 S (QR Try.prog [(6, none)] (RF38 res)) [(0, v0), (1, v1), (7, a1), (8, vi a2), (9, vi a0)] h) :
    ∀ {m : Nat} {a0 : Int} (c2 : m = Int.toNat ((wr ((x0.length : Int) - 1)) - a0)) (b2 : 0 ≤ a0) {h : Heap} (M0 : Mem h [⟨a1, 3, 1, a3⟩]), ref06_descend_L2 x0 x1 a4 a2 K2 m a0 = res → RC Try.prog (.loop ac38_L2) S (QR Try.prog [(6, none)] (RF38 res)) [(9, vi a0), (8, vi a2), (7, a1), (2, vi a4), (1, v1), (0, v0)] h := by
  have b0 := b4
  try simp only [qa, qaD] at b0
  intro m
  induction m with
  | zero =>
    intro a0 c2 b2 h M0 hres
    rw [ref06_descend_L2] at hres
    refine rc_loop ?_
    refine rc_seq ?_
    refine sR ?_
    refine mV rfl ?_
    refine mV rfl ?_
    refine rd_op (ov_bi rfl (sl_len r0 Try.underlying22 _)) ?_
    refine bN i_sub rfl rfl ?_
    refine bN i_lss rfl rfl ?_
    refine mV rfl ?_
    refine rd_cutn 15 (d := 40) (v := vb ((decide (a0 < (wr ((x0.length : Int) - 1)))) && (!((decide ((ix x1 a0) = (wr (a2 - 1)))) && (ref06_Edge x0 a4 a0))))) ?_ ?_
    · intro S Q r
      cases b3 : (decide (a0 < (wr ((x0.length : Int) - 1))))
      · exact gN 14 rfl rfl rfl rfl rfl rfl
      · intro k
        have a7 := b3
        try simp only [qa, qaD] at a7
        refine rd_yes rfl rfl (ov_move rfl) ?_
        refine rd_yes rfl rfl (ov_move rfl) ?_
        refine rd_yes rfl rfl (ov_iaddr rfl rfl (slI r1 (by omega) (by omega))) ?_
        refine rd_yes rfl rfl (ov_load rfl rfl rfl) ?_
        refine rd_yes rfl rfl (ov_move rfl) ?_
        refine rd_yes rfl rfl (ov_bin rfl rfl i_sub) ?_
        refine rd_yes rfl rfl (ov_bin rfl rfl i_eql) ?_
        refine rd_yes rfl rfl (ov_move rfl) ?_
        refine rd_cutn 5 (d := 38) (v := vb ((decide ((ix x1 a0) = (wr (a2 - 1)))) && (ref06_Edge x0 a4 a0))) ?_ ?_
        · intro S Q r
          cases b1 : (decide ((ix x1 a0) = (wr (a2 - 1))))
          · intro k
            refine rd_skip rfl rfl ?_
            refine rd_skip rfl rfl ?_
            refine rd_skip rfl rfl ?_
            refine rd_skip rfl rfl ?_
            refine rd_yes (v := vb false) rfl rfl (ov_pick rfl rfl rfl rfl) ?_
            exact wD k rfl
          · intro k
            have a6 := b1
            try simp only [qa, qaD] at a6
            refine rd_yes rfl rfl (ov_move rfl) ?_
            refine rd_yes rfl rfl (ov_move rfl) ?_
            refine rd_yes rfl rfl (ov_move rfl) ?_
            have b7 := f32_ok (x1 := a4) (x2 := a0) r0 
            refine rd_ycall rfl rfl (cv_fn rfl rfl (clL_cons (TR.clo (tSl (tSl tI)) r0) (clL_cons rfl (clL_cons rfl clL_nil))) b7) ?_
            refine rd_yes (v := vb (ref06_Edge x0 a4 a0)) rfl rfl (ov_pick rfl rfl rfl rfl) ?_
            exact wD k rfl
        refine rd_yes rfl rfl (ov_not rfl) ?_
        exact gK rfl rfl rfl rfl rfl k
    refine nS ?_
    refine rc_cond rfl ?_ ?_ <;> intro c <;> try simp only [qa, qaD] at c
    · omega
    refine rc_exit ?_
    refine px_seq ?_
    refine px_again ?_
    exact wP (c4 (Mem.sub M0 (.cons_cons _ .slnil)) hres) rfl
  | succ m ih =>
    intro a0 c2 b2 h M0 hres
    rw [ref06_descend_L2] at hres
    refine rc_loop ?_
    refine rc_seq ?_
    refine sR ?_
    refine mV rfl ?_
    refine mV rfl ?_
    refine rd_op (ov_bi rfl (sl_len r0 Try.underlying22 _)) ?_
    refine bN i_sub rfl rfl ?_
    refine bN i_lss rfl rfl ?_
    refine mV rfl ?_
    refine rd_cutn 15 (d := 40) (v := vb ((decide (a0 < (wr ((x0.length : Int) - 1)))) && (!((decide ((ix x1 a0) = (wr (a2 - 1)))) && (ref06_Edge x0 a4 a0))))) ?_ ?_
    · intro S Q r
      cases b5 : (decide (a0 < (wr ((x0.length : Int) - 1))))
      · exact gN 14 rfl rfl rfl rfl rfl rfl
      · intro k
        have a8 := b5
        try simp only [qa, qaD] at a8
        refine rd_yes rfl rfl (ov_move rfl) ?_
        refine rd_yes rfl rfl (ov_move rfl) ?_
        refine rd_yes rfl rfl (ov_iaddr rfl rfl (slI r1 (by omega) (by omega))) ?_
        refine rd_yes rfl rfl (ov_load rfl rfl rfl) ?_
        refine rd_yes rfl rfl (ov_move rfl) ?_
        refine rd_yes rfl rfl (ov_bin rfl rfl i_sub) ?_
        refine rd_yes rfl rfl (ov_bin rfl rfl i_eql) ?_
        refine rd_yes rfl rfl (ov_move rfl) ?_
        refine rd_cutn 5 (d := 38) (v := vb ((decide ((ix x1 a0) = (wr (a2 - 1)))) && (ref06_Edge x0 a4 a0))) ?_ ?_
        · intro S Q r
          cases b6 : (decide ((ix x1 a0) = (wr (a2 - 1))))
          · intro k
            refine rd_skip rfl rfl ?_
            refine rd_skip rfl rfl ?_
            refine rd_skip rfl rfl ?_
            refine rd_skip rfl rfl ?_
            refine rd_yes (v := vb false) rfl rfl (ov_pick rfl rfl rfl rfl) ?_
            exact wD k rfl
          · intro k
            have a9 := b6
            try simp only [qa, qaD] at a9
            refine rd_yes rfl rfl (ov_move rfl) ?_
            refine rd_yes rfl rfl (ov_move rfl) ?_
            refine rd_yes rfl rfl (ov_move rfl) ?_
            have b9 := f32_ok (x1 := a4) (x2 := a0) r0 
            refine rd_ycall rfl rfl (cv_fn rfl rfl (clL_cons (TR.clo (tSl (tSl tI)) r0) (clL_cons rfl (clL_cons rfl clL_nil))) b9) ?_
            refine rd_yes (v := vb (ref06_Edge x0 a4 a0)) rfl rfl (ov_pick rfl rfl rfl rfl) ?_
            exact wD k rfl
        refine rd_yes rfl rfl (ov_not rfl) ?_
        exact gK rfl rfl rfl rfl rfl k
    refine nS ?_
    refine rc_br hres rfl ?_ ?_ <;> clear hres <;> intro c hres <;> try simp only [qa, qaD] at c
    · refine rc_skip ?_
      refine pn_seq ?_
      refine rc_block ?_
      refine rc_region ?_
      refine mV rfl ?_
      refine bN i_add rfl rfl ?_
      refine mV rfl ?_
      refine rd_nil ?_
      refine pn_blk ?_
      refine pn_again ?_
      have hinc : wr (a0 + 1) = a0 + 1 := wr_of (by omega) (by omega)
      erw [hinc]
      exact wC (ih   (by omega) (by omega) (Mem.sub M0 (.cons_cons _ .slnil)) hres) rfl
    · refine rc_exit ?_
      refine px_seq ?_
      refine px_again ?_
      exact wP (c4 (Mem.sub M0 (.cons_cons _ .slnil)) hres) rfl

theorem ref06_descend_L1_ok {S : List Fr} {res : (List Int)} {x0 : List (List Int)} {x1 : List Int} {x2 : Int} {v0 v1 : PV} (r0 : (tSl (tSl tI)).R x0 v0) (r1 : (tSl tI).R x1 v1) (hn : x0.length ≤ 1000) (hx : x1.length = x0.length) (ww : WB x1 100000) (h2 : 0 ≤ x2 ∧ x2 < (x0.length : Int)) (c8 : wr ((x0.length : Int) - 1) = (x0.length : Int) - 1) {K0 : (List Int) → (List Int)}
    (c7 : ∀ {a1 : List Int} {a0 : List PV} {a2 : PV} (a6 : All2 tI.R a1 a0) (a4 : isL a2 = true) (a3 : a1.length ≤ 4611686018427387904) {h : Heap} (M0 : Mem h [⟨a2, 3, 1, a0⟩]), K0 a1 = res → PX Try.prog 0 S (QR Try.prog [(6, none)] (RF38 res)) [(7, a2)] h) :
    ∀ {m : Nat} {b8 b2 : Int} {a1 : List Int} {a0 : List PV} {a2 : PV} (a6 : All2 tI.R a1 a0) (a4 : isL a2 = true) (a3 : a1.length ≤ 4611686018427387904) (c6 : b2 ≤ (m : Int)) (a8 : -100000 ≤ b2) (a7 : (a1.length : Int) + b2 ≤ 100001) {h : Heap} (M0 : Mem h [⟨a2, 3, 1, a0⟩]), ref06_descend_L1 x0 x1 K0 m b8 b2 a1 = res → RC Try.prog (.loop ac38_L1) S (QR Try.prog [(6, none)] (RF38 res)) [(8, vi b2), (7, a2), (2, vi b8), (1, v1), (0, v0)] h := by
  intro m
  induction m with
  | zero =>
    intro b8 b2 a1 a0 a2 a6 a4 a3 c6 a8 a7 h M0 hres
    rw [ref06_descend_L1] at hres
    refine rc_loop ?_
    refine rc_seq ?_
    refine sR ?_
    refine mV rfl ?_
    refine bN i_gtr rfl rfl ?_
    refine nS ?_
    refine rc_cond rfl ?_ ?_ <;> intro c <;> try simp only [qa, qaD] at c
    · omega
    refine rc_exit ?_
    refine px_seq ?_
    refine px_again ?_
    exact wP (c7 a6 a4 a3 (Mem.sub M0 (.cons_cons _ .slnil)) hres) rfl
  | succ m ih =>
    intro b8 b2 a1 a0 a2 a6 a4 a3 c6 a8 a7 h M0 hres
    rw [ref06_descend_L1] at hres
    refine rc_loop ?_
    refine rc_seq ?_
    refine sR ?_
    refine mV rfl ?_
    refine bN i_gtr rfl rfl ?_
    refine nS ?_
    refine rc_br hres rfl ?_ ?_ <;> clear hres <;> intro b1 hres <;> have b3 := b1 <;> try simp only [qa, qaD] at b3
    · refine rc_skip ?_
      refine pn_seq ?_
      refine rc_seq ?_
      refine rc_block ?_
      refine sR ?_
      refine mI rfl ?_
      refine nS ?_
      refine rc_seq ?_
      refine rc_block ?_
      refine wC (ref06_descend_L2_ok r0 r1 hn hx ww h2 c8 a4 a3 a8 a7 b1 ?_  rfl (by omega) (Mem.sub M0 (.cons_cons _ .slnil)) hres) rfl
      · intro a5 c2 c3 hres
        refine px_blk ?_
        refine pn_seq ?_
        refine sR ?_
        refine mV rfl ?_
        refine mV rfl ?_
        refine rd_op (v := .fs true [vi a5]) (ov_bslice rfl (all_cons rfl all_nil)) ?_
        have b9 : (tSl tI).R ([a5] : List Int) (.fs true [vi a5]) := sl_fs ⟨rfl, trivial⟩ (by simp)
        obtain ⟨a9, b4, b0⟩ := src_of (t := tI) (h := c2) b9
        have b7 : fits (a0.length + a9.length) 8 = true := by rw [All2.length_eq a6, All2.length_eq b0]; (try simp only [List.length_cons, List.length_nil]); exact fits_of (by first | omega | (simp only [List.length_append, List.length_cons, List.length_nil]; omega)) (by first | omega | (simp only [List.length_append, List.length_cons, List.length_nil]; omega))
        refine rd_appO (k := 0) (es := a0) (news := a9) c3 rfl rfl rfl a4 b4 b7 (fun d0 c9 c5 c4 => ?_)
        have b5 : All2 tI.R (a1 ++ ([a5] : List Int)) (a0 ++ a9) := All2.app a6 b0
        have b6 : (a1 ++ ([a5] : List Int)).length ≤ 4611686018427387904 := by rw [← All2.length_eq b5, List.length_append]; exact fits_len b7
        refine mV rfl ?_
        refine nS ?_
        refine rc_region ?_
        refine mV rfl ?_
        refine mV rfl ?_
        refine rd_nil ?_
        refine pn_blk ?_
        refine pn_seq ?_
        refine rc_region ?_
        refine mV rfl ?_
        refine bN i_sub rfl rfl ?_
        refine mV rfl ?_
        refine rd_nil ?_
        refine pn_again ?_
        exact wC (ih  b5 c5 b6 (by (rw [wr_of (by omega) (by omega)]; omega)) (by (rw [wr_of (by omega) (by omega)]; first | omega | (simp only [List.length_append, List.length_cons, List.length_nil]; omega))) (by (rw [wr_of (by omega) (by omega)]; first | omega | (simp only [List.length_append, List.length_cons, List.length_nil]; omega))) (Mem.sub c4 (.cons_cons _ .slnil)) hres) rfl
    · refine rc_exit ?_
      refine px_seq ?_
      refine px_again ?_
      exact wP (c7 a6 a4 a3 (Mem.sub M0 (.cons_cons _ .slnil)) hres) rfl

theorem f38_ok {x0 : List (List Int)} {x1 : List Int} {x2 : Int} {v0 v1 : PV} (r0 : (tSl (tSl tI)).R x0 v0) (r1 : (tSl tI).R x1 v1) (hn : x0.length ≤ 1000) (hx : x1.length = x0.length) (ww : WB x1 100000) (h2 : 0 ≤ x2 ∧ x2 < (x0.length : Int)) : ∃ r, FnR Try.prog 38 [v0, v1, vi x2] r ∧ (tSl tI).R (ref06_descend x0 x1 x2) r := by
  refine fnT (R := RF38) text38 rfl fun res hres => ?_
  unfold ref06_descend at hres
  have b4 : wr ((x0.length : Int) - 1) = (x0.length : Int) - 1 := wr_of (by omega) (by omega)
  refine sR ?_
  refine rd_op (v := nilS) (ov_move rfl) ?_
  refine nR ?_
  refine mV rfl ?_
  refine rd_op (v := .fs true [vi x2]) (ov_bslice rfl (all_cons rfl all_nil)) ?_
  have b2 : (tSl tI).R ([x2] : List Int) (.fs true [vi x2]) := sl_fs ⟨rfl, trivial⟩ (by simp)
  refine mV rfl ?_
  refine nS ?_
  refine rc_seq ?_
  refine sR ?_
  refine mV rfl ?_
  refine mV rfl ?_
  refine rd_op (ov_iaddr rfl rfl (slI r1 (by omega) (by omega))) ?_
  refine lR rfl rfl rfl ?_
  refine mV rfl ?_
  refine nS ?_
  refine rc_block ?_
  have a9 := b2
  have a6 : All2 tI.R ([x2] : List Int) [vi x2] := sl_all2 a9
  have b0 := mem_acc (sz := 1) (es := [vi x2]) (Mem.nil ⟨0, []⟩) 3 (.inr rfl) (All2.cnt (t := tI) a6)
  refine wC (ref06_descend_L1_ok r0 r1 hn hx ww h2 b4 ?_  a6 rfl (by simp only [List.length_cons, List.length_nil]; decide) (by omega) (by (have hq := ww.at_dec (k := x2) (by omega) (by omega) (by omega); first | omega | (simp only [List.length_cons, List.length_nil]; omega))) (by (have hq := ww.at_dec (k := x2) (by omega) (by omega) (by omega); first | omega | (simp only [List.length_cons, List.length_nil]; omega))) (Mem.sub b0 (.cons_cons _ .slnil)) hres) rfl
  · intro a3 a4 a5 a1 a2 a0 b3 a8 hres
    refine px_blk ?_
    refine pn_seq ?_
    refine sR ?_
    refine mV rfl ?_
    refine mV rfl ?_
    refine nS ?_
    obtain ⟨b5, b1, a7⟩ := own_sl (P := Try.prog) (k := 0) (t := tI) a8 rfl a2 a1 (Nat.le_trans a0 (by decide))
    subst hres
    exact rc_retV (.tmp rfl .nil) b1 a7

def RF18 (res : (List Int) × Bool) (r : PV) : Prop := ∃ c0, r = .tup [c0, vb res.2] ∧ (tSl tI).R res.1 c0
theorem f18_ok {x0 : List (List Int)} {x1 x2 : Int} {v0 : PV} (r0 : (tSl (tSl tI)).R x0 v0) (hs : Sm x0) : ∃ c0, FnR Try.prog 18 [v0, vi x1, vi x2] (.tup [c0, vb ((ref06_ShortestPath x0 x1 x2).2)]) ∧ (tSl tI).R (ref06_ShortestPath x0 x1 x2).1 c0 := by
  obtain ⟨res, hres⟩ : ∃ res, ref06_ShortestPath x0 x1 x2 = res := ⟨_, rfl⟩
  suffices H : RC Try.prog ac18 [] (QR Try.prog [(6, none), (7, none)] (RF18 res)) (argE 0 [v0, vi x1, vi x2]) ⟨0, []⟩ by
    rw [hres]
    obtain ⟨r, h1, c0, rfl, b5⟩ := fnE text18 (by simp) H
    exact ⟨c0, h1, b5⟩
  unfold ref06_ShortestPath at hres
  have hn : x0.length ≤ 24 := hs.n
  refine sR ?_
  refine rd_op (v := nilS) (ov_move rfl) ?_
  refine mB rfl ?_
  refine nR ?_
  refine mV rfl ?_
  refine mV rfl ?_
  obtain ⟨a6, a2, hres⟩ := let_ex hres
  obtain ⟨b4, b2, a1⟩ := f35_ok (x1 := x2) r0 (by first | assumption | omega)
  rw [a2] at a1
  have a0 : a6.length = x0.length ∧ WB a6 1000 := rdist_use (by omega) a2
  refine cL b2 rfl rfl (clL_cons (TR.clo (tSl (tSl tI)) r0) (clL_cons rfl clL_nil)) ?_
  refine mV rfl ?_
  refine nS ?_
  refine rc_seq ?_
  refine sR ?_
  refine mV rfl ?_
  refine bN i_lss rfl rfl ?_
  refine mV rfl ?_
  refine rd_cutn 5 (d := 19) (v := vb ((decide (x1 < 0)) || (decide ((x0.length : Int) ≤ x1)))) ?_ ?_
  · intro S Q r
    cases a9 : (decide (x1 < 0))
    · intro k
      have a5 := a9
      try simp only [qa, qaD] at a5
      refine rd_yes rfl rfl (ov_move rfl) ?_
      refine rd_yes rfl rfl (ov_move rfl) ?_
      refine rd_yes rfl rfl (ov_bi rfl (sl_len r0 Try.underlying22 _)) ?_
      refine rd_yes rfl rfl (ov_bin rfl rfl i_geq) ?_
      exact gK rfl rfl rfl rfl rfl k
    · exact gN 4 rfl rfl rfl rfl rfl rfl
  refine mV rfl ?_
  refine rd_cutn 6 (d := 26) (v := vb (((decide (x1 < 0)) || (decide ((x0.length : Int) ≤ x1))) || (decide ((ix a6 x1) < 0)))) ?_ ?_
  · intro S Q r
    cases a7 : ((decide (x1 < 0)) || (decide ((x0.length : Int) ≤ x1)))
    · intro k
      have a4 := a7
      try simp only [qa, qaD] at a4
      refine rd_yes rfl rfl (ov_move rfl) ?_
      refine rd_yes rfl rfl (ov_move rfl) ?_
      refine rd_yes rfl rfl (ov_iaddr rfl rfl (slI a1 (by omega) (by omega))) ?_
      refine rd_yes rfl rfl (ov_load rfl rfl rfl) ?_
      refine rd_yes rfl rfl (ov_bin rfl rfl i_lss) ?_
      exact gK rfl rfl rfl rfl rfl k
    · exact gN 5 rfl rfl rfl rfl rfl rfl
  refine nS ?_
  refine rc_br hres rfl ?_ ?_ <;> clear hres <;> intro c hres <;> try simp only [qa, qaD] at c
  · refine sR ?_
    refine rd_op (v := nilS) (ov_move rfl) ?_
    refine mB rfl ?_
    refine nS ?_
    subst hres
    exact rc_retV (.tmp rfl (.tmp rfl .nil)) (deep_closed (show closed (.tup _) = true from (clL_cons (TR.clo (tSl tI) sl_nil) (clL_cons rfl clL_nil)))) ⟨nilS, rfl, sl_nil⟩
  · refine rc_skip ?_
    refine pn_seq ?_
    refine sR ?_
    refine mV rfl ?_
    refine mV rfl ?_
    refine mV rfl ?_
    obtain ⟨b3, a8, hres⟩ := let_ex hres
    obtain ⟨b0, b1, a3⟩ := f38_ok (x2 := x1) r0 a1 (by first | omega | exact WB.mono a0.2 (by omega)) (by first | omega | exact WB.mono a0.2 (by omega)) (by first | omega | exact WB.mono a0.2 (by omega)) (by first | omega | exact WB.mono a0.2 (by omega))
    rw [a8] at a3
    refine cL b1 rfl rfl (clL_cons (TR.clo (tSl (tSl tI)) r0) (clL_cons (TR.clo (tSl tI) a1) (clL_cons rfl clL_nil))) ?_
    refine mV rfl ?_
    refine mB rfl ?_
    refine nS ?_
    subst hres
    exact rc_retV (.tmp rfl (.tmp rfl .nil)) (deep_closed (show closed (.tup _) = true from (clL_cons (TR.clo (tSl tI) a3) (clL_cons rfl clL_nil)))) ⟨b0, rfl, a3⟩

def RF5 (res : Bool) (r : PV) : Prop := r = vb res
theorem f5_ok {x0 : List (List Int)} {x1 x2 : Int} {v0 : PV} (r0 : (tSl (tSl tI)).R x0 v0) : FnR Try.prog 5 [v0, vi x1, vi x2] (vb (law06_DigraphPaths x0 x1 x2)) := by
  refine fnS (R := RF5) text5 (fun _ h => h) rfl fun res hres => ?_
  unfold law06_DigraphPaths at hres
  refine sR ?_
  refine mB rfl ?_
  refine nS ?_
  refine rc_seq ?_
  refine sR ?_
  refine mV rfl ?_
  obtain ⟨c5, a2, hres⟩ := let_ex hres
  have b4 := f13_ok  r0 
  rw [a2] at b4
  have a1 := large_sm a2
  refine cL b4 rfl rfl (clL_cons (TR.clo (tSl (tSl tI)) r0) clL_nil) ?_
  refine nS ?_
  refine rc_br hres rfl ?_ ?_ <;> clear hres <;> intro c hres <;> try simp only [qa, qaD] at c
  · refine sR ?_
    obtain ⟨c6, b8, hres⟩ := let_ex hres
    have a9 := f12_ok   
    rw [b8] at a9
    refine cL a9 rfl rfl clL_nil ?_
    refine mV rfl ?_
    refine nS ?_
    exact rR hres rfl rfl rfl
  · refine rc_skip ?_
    refine pn_seq ?_
    refine sR ?_
    refine mV rfl ?_
    refine mV rfl ?_
    refine mV rfl ?_
    obtain ⟨a3, b1, hres⟩ := let_ex hres
    obtain ⟨c3, b2, a7⟩ := f17_ok (x1 := x1) (x2 := x2) r0 (by first | omega | exact a1 (by assumption))
    rw [b1] at b2 a7
    refine cL b2 rfl rfl (clL_cons (TR.clo (tSl (tSl tI)) r0) (clL_cons rfl (clL_cons rfl clL_nil))) ?_
    refine mV rfl ?_
    refine xT rfl rfl ?_
    refine xT rfl rfl ?_
    refine mV rfl ?_
    refine mV rfl ?_
    refine nR ?_
    refine mV rfl ?_
    refine mV rfl ?_
    refine mV rfl ?_
    obtain ⟨a4, b7, hres⟩ := let_ex hres
    obtain ⟨c4, b3, a5⟩ := f18_ok (x1 := x1) (x2 := x2) r0 (by first | omega | exact a1 (by assumption))
    rw [b7] at b3 a5
    refine cL b3 rfl rfl (clL_cons (TR.clo (tSl (tSl tI)) r0) (clL_cons rfl (clL_cons rfl clL_nil))) ?_
    refine mV rfl ?_
    refine xT rfl rfl ?_
    refine xT rfl rfl ?_
    refine mV rfl ?_
    refine mV rfl ?_
    refine nR ?_
    refine mV rfl ?_
    refine mV rfl ?_
    obtain ⟨a0, b0, hres⟩ := let_ex hres
    have b5 := f19_ok  a7 a5 
    rw [b0] at b5
    refine cL b5 rfl rfl (clL_cons (TR.clo (tSl tI) a7) (clL_cons (TR.clo (tSl tI) a5) clL_nil)) ?_
    refine mV rfl ?_
    refine rd_cutn 4 (d := 35) (v := vb (a0 && (decide (a3.2 = a4.2)))) ?_ ?_
    · intro S Q r
      cases b9 : a0
      · exact gN 3 rfl rfl rfl rfl rfl rfl
      · intro k
        have a6 := b9
        try simp only [qa, qaD] at a6
        refine rd_yes rfl rfl (ov_move rfl) ?_
        refine rd_yes rfl rfl (ov_move rfl) ?_
        refine rd_yes rfl rfl (ov_bin rfl rfl (bin_eqlb (by rw [Try.underlying4]; rfl))) ?_
        exact gK rfl rfl rfl rfl rfl k
    refine mV rfl ?_
    refine rd_cutn 2 (d := 38) (v := vb ((a0 && (decide (a3.2 = a4.2))) && (law06_works))) ?_ ?_
    · intro S Q r
      cases b6 : (a0 && (decide (a3.2 = a4.2)))
      · exact gN 1 rfl rfl rfl rfl rfl rfl
      · intro k
        have a8 := b6
        try simp only [qa, qaD] at a8
        have c2 := f12_ok   
        refine rd_ycall rfl rfl (cv_fn rfl rfl clL_nil c2) ?_
        exact gK rfl rfl rfl rfl rfl k
    refine mV rfl ?_
    refine nS ?_
    exact rR hres rfl rfl rfl

end Go.Proofs.Ytpdimhpjehfjeaa
