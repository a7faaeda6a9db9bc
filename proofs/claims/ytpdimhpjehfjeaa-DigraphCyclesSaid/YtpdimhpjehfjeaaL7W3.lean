/-
  The code of each function does what its plain program says.
-/
import Derived.Test.YtpdimhpjehfjeaaL7W2
set_option linter.unusedVariables false
set_option linter.unusedSimpArgs false
set_option maxRecDepth 100000
namespace Go.Proofs.Ytpdimhpjehfjeaa
open Go Go.Pb Go.RowKit
def RF32 (res : Bool) (r : PV) : Prop := r = vb res
theorem ref06_Edge_L1_ok {S : List Fr} {res : Bool} {x0 : List (List Int)} {x1 x2 : Int} {v0 : PV} (r0 : (tSl (tSl tI)).R x0 v0) (a6 : ((((decide (x1 < 0)) || (decide ((x0.length : Int) ≤ x1))) || (decide (x2 < 0))) || (decide ((x0.length : Int) ≤ x2))) = false) {K0 : Unit → Bool}
    (b4 : K0 () = res → PX Try.prog 0 S (QR Try.prog [(6, none)] (RF32 res)) [] ⟨0, []⟩) :
    ∀ {m : Nat} {a0 : Int} (b0 : m = Int.toNat (((ix x0 x1).length : Int) - a0)) (a5 : 0 ≤ a0), ref06_Edge_L1 x0 x1 x2 K0 m a0 = res → RC Try.prog (.loop ac32_L1) S (QR Try.prog [(6, none)] (RF32 res)) [(7, vi a0), (2, vi x2), (1, vi x1), (0, v0)] ⟨0, []⟩ := by
  have a2 := a6
  try simp only [qa, qaD] at a2
  intro m
  induction m with
  | zero =>
    intro a0 b0 a5 hres
    rw [ref06_Edge_L1] at hres
    refine rc_loop ?_
    refine rc_seq ?_
    refine sR ?_
    refine mV rfl ?_
    refine mV rfl ?_
    refine mV rfl ?_
    obtain ⟨b1, a8, a3⟩ := sl_idx (i := x1) r0 (by omega) (by omega)
    refine rd_op (ov_iaddr rfl rfl a8) ?_
    refine lD a3 rfl rfl rfl ?_
    refine rd_op (ov_bi rfl (sl_len a3 Try.underlying31 _)) ?_
    refine bN i_lss rfl rfl ?_
    refine nS ?_
    refine rc_cond rfl ?_ ?_ <;> intro c <;> try simp only [qa, qaD] at c
    · omega
    refine rc_exit ?_
    refine px_seq ?_
    refine px_again ?_
    exact wP (b4  hres) rfl
  | succ m ih =>
    intro a0 b0 a5 hres
    rw [ref06_Edge_L1] at hres
    refine rc_loop ?_
    refine rc_seq ?_
    refine sR ?_
    refine mV rfl ?_
    refine mV rfl ?_
    refine mV rfl ?_
    obtain ⟨b3, a9, a1⟩ := sl_idx (i := x1) r0 (by omega) (by omega)
    refine rd_op (ov_iaddr rfl rfl a9) ?_
    refine lD a1 rfl rfl rfl ?_
    refine rd_op (ov_bi rfl (sl_len a1 Try.underlying31 _)) ?_
    refine bN i_lss rfl rfl ?_
    refine nS ?_
    refine rc_cond rfl ?_ ?_ <;> intro c <;> try simp only [qa, qaD] at c
    rotate_left
    · omega
    refine rc_skip ?_
    refine pn_seq ?_
    refine rc_seq ?_
    refine rc_block ?_
    refine sR ?_
    refine mV rfl ?_
    refine mV rfl ?_
    obtain ⟨b2, a7, a4⟩ := sl_idx (i := x1) r0 (by omega) (by omega)
    refine rd_op (ov_iaddr rfl rfl a7) ?_
    refine lD a4 rfl rfl rfl ?_
    refine mV rfl ?_
    refine rd_op (ov_iaddr rfl rfl (slI a4 (by omega) (by omega))) ?_
    refine lR rfl rfl rfl ?_
    refine mV rfl ?_
    refine bN i_eql rfl rfl ?_
    refine nS ?_
    refine rc_br hres rfl ?_ ?_ <;> clear hres <;> intro c hres <;> try simp only [qa, qaD] at c
    · refine sR ?_
      refine mB rfl ?_
      refine nS ?_
      exact rR hres rfl rfl rfl
    · refine rc_skip ?_
      refine pn_blk ?_
      refine pn_seq ?_
      refine rc_region ?_
      refine mV rfl ?_
      refine bN i_add rfl rfl ?_
      refine mV rfl ?_
      refine rd_nil ?_
      refine pn_again ?_
      have hbd := sl_bound a1
      have hinc : wr (a0 + 1) = a0 + 1 := wr_of (by omega) (by omega)
      erw [hinc]
      exact wC (ih   (by omega) (by omega) hres) rfl

theorem f32_ok {x0 : List (List Int)} {x1 x2 : Int} {v0 : PV} (r0 : (tSl (tSl tI)).R x0 v0) : FnR Try.prog 32 [v0, vi x1, vi x2] (vb (ref06_Edge x0 x1 x2)) := by
  refine fnS (R := RF32) text32 (fun _ h => h) rfl fun res hres => ?_
  unfold ref06_Edge at hres
  refine sR ?_
  refine mB rfl ?_
  refine nS ?_
  refine rc_seq ?_
  refine sR ?_
  refine mV rfl ?_
  refine bN i_lss rfl rfl ?_
  refine mV rfl ?_
  refine rd_cutn 5 (d := 15) (v := vb ((decide (x1 < 0)) || (decide ((x0.length : Int) ≤ x1)))) ?_ ?_
  · intro S Q r
    cases a7 : (decide (x1 < 0))
    · intro k
      have a1 := a7
      try simp only [qa, qaD] at a1
      refine rd_yes rfl rfl (ov_move rfl) ?_
      refine rd_yes rfl rfl (ov_move rfl) ?_
      refine rd_yes rfl rfl (ov_bi rfl (sl_len r0 Try.underlying22 _)) ?_
      refine rd_yes rfl rfl (ov_bin rfl rfl i_geq) ?_
      exact gK rfl rfl rfl rfl rfl k
    · exact gN 4 rfl rfl rfl rfl rfl rfl
  refine mV rfl ?_
  refine rd_cutn 3 (d := 19) (v := vb (((decide (x1 < 0)) || (decide ((x0.length : Int) ≤ x1))) || (decide (x2 < 0)))) ?_ ?_
  · intro S Q r
    cases a5 : ((decide (x1 < 0)) || (decide ((x0.length : Int) ≤ x1)))
    · intro k
      have a3 := a5
      try simp only [qa, qaD] at a3
      refine rd_yes rfl rfl (ov_move rfl) ?_
      refine rd_yes rfl rfl (ov_bin rfl rfl i_lss) ?_
      exact gK rfl rfl rfl rfl rfl k
    · exact gN 2 rfl rfl rfl rfl rfl rfl
  refine mV rfl ?_
  refine rd_cutn 5 (d := 25) (v := vb ((((decide (x1 < 0)) || (decide ((x0.length : Int) ≤ x1))) || (decide (x2 < 0))) || (decide ((x0.length : Int) ≤ x2)))) ?_ ?_
  · intro S Q r
    cases a6 : (((decide (x1 < 0)) || (decide ((x0.length : Int) ≤ x1))) || (decide (x2 < 0)))
    · intro k
      have a2 := a6
      try simp only [qa, qaD] at a2
      refine rd_yes rfl rfl (ov_move rfl) ?_
      refine rd_yes rfl rfl (ov_move rfl) ?_
      refine rd_yes rfl rfl (ov_bi rfl (sl_len r0 Try.underlying22 _)) ?_
      refine rd_yes rfl rfl (ov_bin rfl rfl i_geq) ?_
      exact gK rfl rfl rfl rfl rfl k
    · exact gN 4 rfl rfl rfl rfl rfl rfl
  refine nS ?_
  refine rc_br hres rfl ?_ ?_ <;> clear hres <;> intro a0 hres <;> have a4 := a0 <;> try simp only [qa, qaD] at a4
  · refine sR ?_
    refine mB rfl ?_
    refine nS ?_
    exact rR hres rfl rfl rfl
  · refine rc_skip ?_
    refine pn_seq ?_
    refine rc_seq ?_
    refine sR ?_
    refine mI rfl ?_
    refine nS ?_
    refine rc_block ?_
    refine wC (ref06_Edge_L1_ok r0 a0 ?_  rfl (by omega) hres) rfl
    · intro  hres
      refine px_blk ?_
      refine pn_seq ?_
      refine sR ?_
      refine mB rfl ?_
      refine nS ?_
      exact rR hres rfl rfl rfl

def RF35 (res : (List Int)) (r : PV) : Prop := (tSl tI).R res r
theorem ref06_distances_L1_ok {S : List Fr} {res : (List Int)} {x0 : List (List Int)} {x1 : Int} {v0 : PV} {a6 a7 : Nat} (r0 : (tSl (tSl tI)).R x0 v0) (hn : x0.length ≤ 1000) (b5 : (List.replicate x0.length (0 : Int)).length = x0.length) (b7 : (List.replicate x0.length (0 : Int)).length ≤ 4611686018427387904) {K0 : (List Int) → (List Int)}
    (b9 : ∀ {a0 : List Int} {a1 : List PV} (a4 : All2 tI.R a0 a1) (a3 : a0.length = x0.length) (a2 : a0.length ≤ 4611686018427387904) {h : Heap} (M0 : Mem h [⟨.os a6 a7 0 x0.length, 3, 1, a1⟩]), K0 a0 = res → PX Try.prog 0 S (QR Try.prog [(4, none)] (RF35 res)) [(0, v0), (1, vi x1), (5, .os a6 a7 0 x0.length)] h) :
    ∀ {m : Nat} {a5 : Int} {a0 : List Int} {a1 : List PV} (a4 : All2 tI.R a0 a1) (a3 : a0.length = x0.length) (a2 : a0.length ≤ 4611686018427387904) (b6 : m = Int.toNat ((x0.length : Int) - a5)) (a9 : 0 ≤ a5) {h : Heap} (M0 : Mem h [⟨.os a6 a7 0 x0.length, 3, 1, a1⟩]), ref06_distances_L1 K0 m a5 a0 = res → RC Try.prog (.loop ac35_L1) S (QR Try.prog [(4, none)] (RF35 res)) [(6, vi a5), (5, .os a6 a7 0 x0.length), (1, vi x1), (0, v0)] h := by
  intro m
  induction m with
  | zero =>
    intro a5 a0 a1 a4 a3 a2 b6 a9 h M0 hres
    rw [ref06_distances_L1] at hres
    refine rc_loop ?_
    refine rc_seq ?_
    refine sR ?_
    refine mV rfl ?_
    refine mV rfl ?_
    refine rd_op (ov_bi rfl (sl_len r0 Try.underlying22 _)) ?_
    refine bN i_lss rfl rfl ?_
    refine nS ?_
    refine rc_cond rfl ?_ ?_ <;> intro c <;> try simp only [qa, qaD] at c
    · omega
    refine rc_exit ?_
    refine px_seq ?_
    refine px_again ?_
    exact wP (b9 a4 a3 a2 (Mem.sub M0 (.cons_cons _ .slnil)) hres) rfl
  | succ m ih =>
    intro a5 a0 a1 a4 a3 a2 b6 a9 h M0 hres
    rw [ref06_distances_L1] at hres
    refine rc_loop ?_
    refine rc_seq ?_
    refine sR ?_
    refine mV rfl ?_
    refine mV rfl ?_
    refine rd_op (ov_bi rfl (sl_len r0 Try.underlying22 _)) ?_
    refine bN i_lss rfl rfl ?_
    refine nS ?_
    refine rc_cond rfl ?_ ?_ <;> intro c <;> try simp only [qa, qaD] at c
    rotate_left
    · omega
    refine rc_skip ?_
    refine pn_seq ?_
    refine rc_seq ?_
    refine rc_block ?_
    refine rc_region ?_
    refine mV rfl ?_
    refine mV rfl ?_
    have a8 : 0 ≤ a5 := (by omega)
    have b4 : a5 < (a0.length : Int) := (by omega)
    refine rd_op (ov_iaddr rfl rfl (n_idx 1 a8 (by omega))) ?_
    refine rd_setO (k := 0) (v := vi (-1)) M0 rfl rfl rfl (by rw [All2.length_eq a4]; omega) rfl (fun b8 b3 => ?_)
    have b2 := All2.set (i := (a5).toNat) a4 (show tI.R (-1) (vi (-1)) from rfl)
    have b0 : (a0.set (a5).toNat (-1)).length ≤ 4611686018427387904 := by simp only [List.length_set]; exact a2
    have b1 : (a0.set (a5).toNat (-1)).length = x0.length := by simp only [List.length_set]; exact a3
    refine rd_nil ?_
    refine pn_blk ?_
    refine pn_seq ?_
    refine rc_region ?_
    refine mV rfl ?_
    refine bN i_add rfl rfl ?_
    refine mV rfl ?_
    refine rd_nil ?_
    refine pn_again ?_
    have hbd := sl_bound r0
    have hinc : wr (a5 + 1) = a5 + 1 := wr_of (by omega) (by omega)
    erw [hinc]
    exact wC (ih  b2 b1 b0 (by omega) (by omega) (Mem.sub b3 (.cons_cons _ .slnil)) hres) rfl

theorem ref06_distances_L4_ok {S : List Fr} {res : (List Int)} {x0 : List (List Int)} {x1 : Int} {a5 : List Int} {a9 : Int} {b5 : List Int} {a6 : Int} {a8 : List Int} {v0 : PV} {b4 b3 : Nat} (r0 : (tSl (tSl tI)).R x0 v0) (hn : x0.length ≤ 1000) (f8 : (List.replicate x0.length (0 : Int)).length = x0.length) (g1 : (List.replicate x0.length (0 : Int)).length ≤ 4611686018427387904) (d2 : a5.length = x0.length) (d1 : a5.length ≤ 4611686018427387904) (d8 : ((decide (x1 < 0)) || (decide ((x0.length : Int) ≤ x1))) = false) (e5 : 0 ≤ x1) (f0 : x1 < (a5.length : Int)) (f9 : (a5.set (x1).toNat 0).length ≤ 4611686018427387904) (g2 : (a5.set (x1).toNat 0).length = x0.length) (e8 : b5.length = x0.length) (f3 : b5.length ≤ 4611686018427387904) (g4 : 0 ≤ a9) (d6 : (decide (a9 < (x0.length : Int))) = true) (e2 : a8.length = x0.length) (d3 : a8.length ≤ 4611686018427387904) (g6 : 0 ≤ a6) (e3 : (decide (a6 < (x0.length : Int))) = true) {K6 : (List Int) → (List Int)}
    (g0 : ∀ {a0 : List Int} {a2 : List PV} (a1 : All2 tI.R a0 a2) (a4 : a0.length = x0.length) (a3 : a0.length ≤ 4611686018427387904) {h : Heap} (M0 : Mem h [⟨.os b4 b3 0 x0.length, 3, 1, a2⟩]), K6 a0 = res → PX Try.prog 6 S (QR Try.prog [(4, none)] (RF35 res)) [(0, v0), (5, .os b4 b3 0 x0.length), (7, vi a9), (8, vi a6)] h) :
    ∀ {m : Nat} {a7 : Int} {a0 : List Int} {a2 : List PV} (a1 : All2 tI.R a0 a2) (a4 : a0.length = x0.length) (a3 : a0.length ≤ 4611686018427387904) (g3 : m = Int.toNat ((x0.length : Int) - a7)) (e1 : 0 ≤ a7) {h : Heap} (M0 : Mem h [⟨.os b4 b3 0 x0.length, 3, 1, a2⟩]), ref06_distances_L4 x0 a9 a6 K6 m a7 a0 = res → RC Try.prog (.loop ac35_L4) S (QR Try.prog [(4, none)] (RF35 res)) [(9, vi a7), (8, vi a6), (7, vi a9), (5, .os b4 b3 0 x0.length), (0, v0)] h := by
  have b7 := d8
  try simp only [qa, qaD] at b7
  have b9 := d6
  try simp only [qa, qaD] at b9
  have c8 := e3
  try simp only [qa, qaD] at c8
  intro m
  induction m with
  | zero =>
    intro a7 a0 a2 a1 a4 a3 g3 e1 h M0 hres
    rw [ref06_distances_L4] at hres
    refine rc_loop ?_
    refine rc_seq ?_
    refine sR ?_
    refine mV rfl ?_
    refine mV rfl ?_
    refine rd_op (ov_bi rfl (sl_len r0 Try.underlying22 _)) ?_
    refine bN i_lss rfl rfl ?_
    refine mV rfl ?_
    refine rd_cutn 6 (d := 56) (v := vb ((decide (a7 < (x0.length : Int))) && (decide ((ix a0 a6) < 0)))) ?_ ?_
    · intro S Q r
      cases d7 : (decide (a7 < (x0.length : Int)))
      · exact gN 5 rfl rfl rfl rfl rfl rfl
      · intro k
        have c7 := d7
        try simp only [qa, qaD] at c7
        refine rd_yes rfl rfl (ov_move rfl) ?_
        refine rd_yes rfl rfl (ov_move rfl) ?_
        have b0 : 0 ≤ a6 := (by omega)
        have c9 : a6 < (a0.length : Int) := (by omega)
        refine rd_yes rfl rfl (ov_iaddr rfl rfl (n_idx 1 b0 (by omega))) ?_
        obtain ⟨f4, e9, c4⟩ := elem_at (i := a6) a1 b0 c9
        have c4 : f4 = vi (ix a0 a6) := c4; subst c4
        refine rd_yes rfl rfl (ov_elem (k := 0) M0 rfl rfl e9 rfl) ?_
        refine rd_yes rfl rfl (ov_bin rfl rfl i_lss) ?_
        exact gK rfl rfl rfl rfl rfl k
    refine nS ?_
    refine rc_cond rfl ?_ ?_ <;> intro c <;> try simp only [qa, qaD] at c
    · omega
    refine rc_exit ?_
    refine px_seq ?_
    refine px_again ?_
    exact wP (g0 a1 a4 a3 (Mem.sub M0 (.cons_cons _ .slnil)) hres) rfl
  | succ m ih =>
    intro a7 a0 a2 a1 a4 a3 g3 e1 h M0 hres
    rw [ref06_distances_L4] at hres
    refine rc_loop ?_
    refine rc_seq ?_
    refine sR ?_
    refine mV rfl ?_
    refine mV rfl ?_
    refine rd_op (ov_bi rfl (sl_len r0 Try.underlying22 _)) ?_
    refine bN i_lss rfl rfl ?_
    refine mV rfl ?_
    refine rd_cutn 6 (d := 56) (v := vb ((decide (a7 < (x0.length : Int))) && (decide ((ix a0 a6) < 0)))) ?_ ?_
    · intro S Q r
      cases d9 : (decide (a7 < (x0.length : Int)))
      · exact gN 5 rfl rfl rfl rfl rfl rfl
      · intro k
        have c3 := d9
        try simp only [qa, qaD] at c3
        refine rd_yes rfl rfl (ov_move rfl) ?_
        refine rd_yes rfl rfl (ov_move rfl) ?_
        have b1 : 0 ≤ a6 := (by omega)
        have c2 : a6 < (a0.length : Int) := (by omega)
        refine rd_yes rfl rfl (ov_iaddr rfl rfl (n_idx 1 b1 (by omega))) ?_
        obtain ⟨f1, f6, c6⟩ := elem_at (i := a6) a1 b1 c2
        have c6 : f1 = vi (ix a0 a6) := c6; subst c6
        refine rd_yes rfl rfl (ov_elem (k := 0) M0 rfl rfl f6 rfl) ?_
        refine rd_yes rfl rfl (ov_bin rfl rfl i_lss) ?_
        exact gK rfl rfl rfl rfl rfl k
    refine nS ?_
    refine rc_br hres rfl ?_ ?_ <;> clear hres <;> intro c hres <;> try simp only [qa, qaD] at c
    · refine rc_skip ?_
      refine pn_seq ?_
      refine rc_seq ?_
      refine rc_block ?_
      refine sR ?_
      refine mV rfl ?_
      refine mV rfl ?_
      have b2 : 0 ≤ a7 := (by omega)
      have b8 : a7 < (a0.length : Int) := (by omega)
      refine rd_op (ov_iaddr rfl rfl (n_idx 1 b2 (by omega))) ?_
      obtain ⟨f2, e4, c5⟩ := elem_at (i := a7) a1 b2 b8
      have c5 : f2 = vi (ix a0 a7) := c5; subst c5
      refine rd_op (ov_elem (k := 0) M0 rfl rfl e4 rfl) ?_
      refine mV rfl ?_
      refine bN i_eql rfl rfl ?_
      refine mV rfl ?_
      refine rd_cutn 5 (d := 70) (v := vb ((decide ((ix a0 a7) = a9)) && (ref06_Edge x0 a6 a7))) ?_ ?_
      · intro S Q r
        cases e0 : (decide ((ix a0 a7) = a9))
        · exact gN 4 rfl rfl rfl rfl rfl rfl
        · intro k
          have b6 := e0
          try simp only [qa, qaD] at b6
          refine rd_yes rfl rfl (ov_move rfl) ?_
          refine rd_yes rfl rfl (ov_move rfl) ?_
          refine rd_yes rfl rfl (ov_move rfl) ?_
          have e6 := f32_ok (x1 := a6) (x2 := a7) r0 
          refine rd_ycall rfl rfl (cv_fn rfl rfl (clL_cons (TR.clo (tSl (tSl tI)) r0) (clL_cons rfl (clL_cons rfl clL_nil))) e6) ?_
          exact gK rfl rfl rfl rfl rfl k
      refine nS ?_
      refine rc_br hres rfl ?_ ?_ <;> clear hres <;> intro c hres <;> try simp only [qa, qaD] at c
      · refine rc_region ?_
        refine mV rfl ?_
        refine mV rfl ?_
        refine mV rfl ?_
        refine bN i_add rfl rfl ?_
        have d0 : 0 ≤ a6 := (by omega)
        have f5 : a6 < (a0.length : Int) := (by omega)
        refine rd_op (ov_iaddr rfl rfl (n_idx 1 d0 (by omega))) ?_
        refine rd_setO (k := 0) (v := vi (wr (a9 + 1))) M0 rfl rfl rfl (by rw [All2.length_eq a1]; omega) rfl (fun g5 f7 => ?_)
        have e7 := All2.set (i := (a6).toNat) a1 (show tI.R (wr (a9 + 1)) (vi (wr (a9 + 1))) from rfl)
        have d4 : (a0.set (a6).toNat (wr (a9 + 1))).length ≤ 4611686018427387904 := by simp only [List.length_set]; exact a3
        have d5 : (a0.set (a6).toNat (wr (a9 + 1))).length = x0.length := by simp only [List.length_set]; exact a4
        refine rd_nil ?_
        refine pn_blk ?_
        refine pn_seq ?_
        refine rc_region ?_
        refine mV rfl ?_
        refine bN i_add rfl rfl ?_
        refine mV rfl ?_
        refine rd_nil ?_
        refine pn_again ?_
        have hbd := sl_bound r0
        have hinc : wr (a7 + 1) = a7 + 1 := wr_of (by omega) (by omega)
        erw [hinc]
        exact wC (ih  e7 d5 d4 (by omega) (by omega) (Mem.sub f7 (.cons_cons _ .slnil)) hres) rfl
      · refine rc_skip ?_
        refine pn_blk ?_
        refine pn_seq ?_
        refine rc_region ?_
        refine mV rfl ?_
        refine bN i_add rfl rfl ?_
        refine mV rfl ?_
        refine rd_nil ?_
        refine pn_again ?_
        have hbd := sl_bound r0
        have hinc : wr (a7 + 1) = a7 + 1 := wr_of (by omega) (by omega)
        erw [hinc]
        exact wC (ih  a1 a4 a3 (by omega) (by omega) (Mem.sub M0 (.cons_cons _ .slnil)) hres) rfl
    · refine rc_exit ?_
      refine px_seq ?_
      refine px_again ?_
      exact wP (g0 a1 a4 a3 (Mem.sub M0 (.cons_cons _ .slnil)) hres) rfl

theorem ref06_distances_L3_ok {S : List Fr} {res : (List Int)} {x0 : List (List Int)} {x1 : Int} {a4 : List Int} {d1 : Int} {b4 : List Int} {v0 : PV} {b2 b3 : Nat} (r0 : (tSl (tSl tI)).R x0 v0) (hn : x0.length ≤ 1000) (d0 : (List.replicate x0.length (0 : Int)).length = x0.length) (d3 : (List.replicate x0.length (0 : Int)).length ≤ 4611686018427387904) (b0 : a4.length = x0.length) (a9 : a4.length ≤ 4611686018427387904) (b6 : ((decide (x1 < 0)) || (decide ((x0.length : Int) ≤ x1))) = false) (c3 : 0 ≤ x1) (c6 : x1 < (a4.length : Int)) (d2 : (a4.set (x1).toNat 0).length ≤ 4611686018427387904) (d4 : (a4.set (x1).toNat 0).length = x0.length) (c7 : b4.length = x0.length) (c4 : b4.length ≤ 4611686018427387904) (d5 : 0 ≤ d1) (b8 : (decide (d1 < (x0.length : Int))) = true) {K4 : (List Int) → (List Int)}
    (d9 : ∀ {a0 : List Int} {a1 : List PV} (a5 : All2 tI.R a0 a1) (a2 : a0.length = x0.length) (a3 : a0.length ≤ 4611686018427387904) {h : Heap} (M0 : Mem h [⟨.os b2 b3 0 x0.length, 3, 1, a1⟩]), K4 a0 = res → PX Try.prog 4 S (QR Try.prog [(4, none)] (RF35 res)) [(0, v0), (5, .os b2 b3 0 x0.length), (7, vi d1)] h) :
    ∀ {m : Nat} {b5 : Int} {a0 : List Int} {a1 : List PV} (a5 : All2 tI.R a0 a1) (a2 : a0.length = x0.length) (a3 : a0.length ≤ 4611686018427387904) (d7 : m = Int.toNat ((x0.length : Int) - b5)) (c5 : 0 ≤ b5) {h : Heap} (M0 : Mem h [⟨.os b2 b3 0 x0.length, 3, 1, a1⟩]), ref06_distances_L3 x0 d1 K4 m b5 a0 = res → RC Try.prog (.loop ac35_L3) S (QR Try.prog [(4, none)] (RF35 res)) [(8, vi b5), (7, vi d1), (5, .os b2 b3 0 x0.length), (0, v0)] h := by
  have b9 := b6
  try simp only [qa, qaD] at b9
  have c2 := b8
  try simp only [qa, qaD] at c2
  intro m
  induction m with
  | zero =>
    intro b5 a0 a1 a5 a2 a3 d7 c5 h M0 hres
    rw [ref06_distances_L3] at hres
    refine rc_loop ?_
    refine rc_seq ?_
    refine sR ?_
    refine mV rfl ?_
    refine mV rfl ?_
    refine rd_op (ov_bi rfl (sl_len r0 Try.underlying22 _)) ?_
    refine bN i_lss rfl rfl ?_
    refine nS ?_
    refine rc_cond rfl ?_ ?_ <;> intro c <;> try simp only [qa, qaD] at c
    · omega
    refine rc_exit ?_
    refine px_seq ?_
    refine px_again ?_
    exact wP (d9 a5 a2 a3 (Mem.sub M0 (.cons_cons _ .slnil)) hres) rfl
  | succ m ih =>
    intro b5 a0 a1 a5 a2 a3 d7 c5 h M0 hres
    rw [ref06_distances_L3] at hres
    refine rc_loop ?_
    refine rc_seq ?_
    refine sR ?_
    refine mV rfl ?_
    refine mV rfl ?_
    refine rd_op (ov_bi rfl (sl_len r0 Try.underlying22 _)) ?_
    refine bN i_lss rfl rfl ?_
    refine nS ?_
    refine rc_cond rfl (fun a6 => ?_) (fun a6 => ?_)
    · have hgo := hres
      have c8 := a6
      try simp only [qa, qaD] at c8
      refine rc_skip ?_
      refine pn_seq ?_
      refine rc_seq ?_
      refine rc_block ?_
      refine sR ?_
      refine mI rfl ?_
      refine nS ?_
      refine rc_block ?_
      refine wC (ref06_distances_L4_ok r0 hn d0 d3 b0 a9 b6 c3 c6 d2 d4 c7 c4 d5 b8 a2 a3 c5 a6 ?_  a5 a2 a3 rfl (by omega) (Mem.sub M0 (.cons_cons _ .slnil)) hres) rfl
      · intro b7 c9 b1 a7 a8 d8 d6 hres
        refine px_blk ?_
        refine pn_blk ?_
        refine pn_seq ?_
        refine rc_region ?_
        refine mV rfl ?_
        refine bN i_add rfl rfl ?_
        refine mV rfl ?_
        refine rd_nil ?_
        refine pn_again ?_
        have hbd := sl_bound r0
        have hinc : wr (b5 + 1) = b5 + 1 := wr_of (by omega) (by omega)
        erw [hinc]
        exact wC (ih  b1 a7 a8 (by omega) (by omega) (Mem.sub d6 (.cons_cons _ .slnil)) hres) rfl
    · exfalso
      try simp only [qa, qaD] at a6
      omega

theorem ref06_distances_L2_ok {S : List Fr} {res : (List Int)} {x0 : List (List Int)} {x1 : Int} {a0 : List Int} {v0 : PV} {b2 b3 : Nat} (r0 : (tSl (tSl tI)).R x0 v0) (hn : x0.length ≤ 1000) (c5 : (List.replicate x0.length (0 : Int)).length = x0.length) (c7 : (List.replicate x0.length (0 : Int)).length ≤ 4611686018427387904) (b0 : a0.length = x0.length) (a7 : a0.length ≤ 4611686018427387904) (b5 : ((decide (x1 < 0)) || (decide ((x0.length : Int) ≤ x1))) = false) (c2 : 0 ≤ x1) (c3 : x1 < (a0.length : Int)) (c6 : (a0.set (x1).toNat 0).length ≤ 4611686018427387904) (c8 : (a0.set (x1).toNat 0).length = x0.length) {K2 : (List Int) → (List Int)}
    (d1 : ∀ {a1 : List Int} {a2 : List PV} (a5 : All2 tI.R a1 a2) (a4 : a1.length = x0.length) (a3 : a1.length ≤ 4611686018427387904) {h : Heap} (M0 : Mem h [⟨.os b2 b3 0 x0.length, 3, 1, a2⟩]), K2 a1 = res → PX Try.prog 2 S (QR Try.prog [(4, none)] (RF35 res)) [(5, .os b2 b3 0 x0.length)] h) :
    ∀ {m : Nat} {b4 : Int} {a1 : List Int} {a2 : List PV} (a5 : All2 tI.R a1 a2) (a4 : a1.length = x0.length) (a3 : a1.length ≤ 4611686018427387904) (d0 : m = Int.toNat ((x0.length : Int) - b4)) (b8 : 0 ≤ b4) {h : Heap} (M0 : Mem h [⟨.os b2 b3 0 x0.length, 3, 1, a2⟩]), ref06_distances_L2 x0 K2 m b4 a1 = res → RC Try.prog (.loop ac35_L2) S (QR Try.prog [(4, none)] (RF35 res)) [(7, vi b4), (5, .os b2 b3 0 x0.length), (0, v0)] h := by
  have b7 := b5
  try simp only [qa, qaD] at b7
  intro m
  induction m with
  | zero =>
    intro b4 a1 a2 a5 a4 a3 d0 b8 h M0 hres
    rw [ref06_distances_L2] at hres
    refine rc_loop ?_
    refine rc_seq ?_
    refine sR ?_
    refine mV rfl ?_
    refine mV rfl ?_
    refine rd_op (ov_bi rfl (sl_len r0 Try.underlying22 _)) ?_
    refine bN i_lss rfl rfl ?_
    refine nS ?_
    refine rc_cond rfl ?_ ?_ <;> intro c <;> try simp only [qa, qaD] at c
    · omega
    refine rc_exit ?_
    refine px_seq ?_
    refine px_again ?_
    exact wP (d1 a5 a4 a3 (Mem.sub M0 (.cons_cons _ .slnil)) hres) rfl
  | succ m ih =>
    intro b4 a1 a2 a5 a4 a3 d0 b8 h M0 hres
    rw [ref06_distances_L2] at hres
    refine rc_loop ?_
    refine rc_seq ?_
    refine sR ?_
    refine mV rfl ?_
    refine mV rfl ?_
    refine rd_op (ov_bi rfl (sl_len r0 Try.underlying22 _)) ?_
    refine bN i_lss rfl rfl ?_
    refine nS ?_
    refine rc_cond rfl (fun a6 => ?_) (fun a6 => ?_)
    · have hgo := hres
      have b9 := a6
      try simp only [qa, qaD] at b9
      refine rc_skip ?_
      refine pn_seq ?_
      refine rc_seq ?_
      refine rc_block ?_
      refine sR ?_
      refine mI rfl ?_
      refine nS ?_
      refine rc_block ?_
      refine wC (ref06_distances_L3_ok r0 hn c5 c7 b0 a7 b5 c2 c3 c6 c8 a4 a3 b8 a6 ?_  a5 a4 a3 rfl (by omega) (Mem.sub M0 (.cons_cons _ .slnil)) hres) rfl
      · intro b6 c4 b1 a9 a8 d2 c9 hres
        refine px_blk ?_
        refine pn_blk ?_
        refine pn_seq ?_
        refine rc_region ?_
        refine mV rfl ?_
        refine bN i_add rfl rfl ?_
        refine mV rfl ?_
        refine rd_nil ?_
        refine pn_again ?_
        have hbd := sl_bound r0
        have hinc : wr (b4 + 1) = b4 + 1 := wr_of (by omega) (by omega)
        erw [hinc]
        exact wC (ih  b1 a9 a8 (by omega) (by omega) (Mem.sub c9 (.cons_cons _ .slnil)) hres) rfl
    · exfalso
      try simp only [qa, qaD] at a6
      omega

theorem f35_ok {x0 : List (List Int)} {x1 : Int} {v0 : PV} (r0 : (tSl (tSl tI)).R x0 v0) (hn : x0.length ≤ 1000) : ∃ r, FnR Try.prog 35 [v0, vi x1] r ∧ (tSl tI).R (ref06_distances x0 x1) r := by
  refine fnT (R := RF35) text35 rfl fun res hres => ?_
  unfold ref06_distances at hres
  refine sR ?_
  refine rd_op (v := nilS) (ov_move rfl) ?_
  refine nR ?_
  refine mV rfl ?_
  refine rd_op (ov_bi rfl (sl_len r0 Try.underlying22 _)) ?_
  have c3 : fits (x0.length) 8 = true := fits_of (by first | omega | (simp only [List.length_append, List.length_cons, List.length_nil] at *; omega)) (by first | omega | (simp only [List.length_append, List.length_cons, List.length_nil] at *; omega))
  refine rd_makeO (sz := 1) (ty := 3) (n := x0.length) (zz := vi 0) (Mem.nil ⟨0, []⟩) rfl rfl rfl rfl rfl c3 (fun d4 d7 d5 d1 => ?_)
  have c4 : All2 tI.R (List.replicate x0.length (0 : Int)) (List.replicate x0.length (vi 0)) := All2.rep (show tI.R (0 : Int) (vi 0) from rfl) _
  have a4 : (List.replicate x0.length (0 : Int)).length = x0.length := List.length_replicate
  have a7 : (List.replicate x0.length (0 : Int)).length ≤ 4611686018427387904 := by rw [a4]; exact fits_len c3
  refine mV rfl ?_
  refine nS ?_
  refine rc_seq ?_
  refine sR ?_
  refine mI rfl ?_
  refine nS ?_
  refine rc_block ?_
  refine wC (ref06_distances_L1_ok r0 hn a4 a7 ?_  c4 a4 a7 rfl (by omega) (Mem.sub d1 (.cons_cons _ .slnil)) hres) rfl
  · intro a0 b7 a2 a3 a1 d9 b9 hres
    refine px_blk ?_
    refine pn_seq ?_
    refine rc_seq ?_
    refine sR ?_
    refine mV rfl ?_
    refine bN i_lss rfl rfl ?_
    refine mV rfl ?_
    refine rd_cutn 5 (d := 29) (v := vb ((decide (x1 < 0)) || (decide ((x0.length : Int) ≤ x1)))) ?_ ?_
    · intro S Q r
      cases c2 : (decide (x1 < 0))
      · intro k
        have b3 := c2
        try simp only [qa, qaD] at b3
        refine rd_yes rfl rfl (ov_move rfl) ?_
        refine rd_yes rfl rfl (ov_move rfl) ?_
        refine rd_yes rfl rfl (ov_bi rfl (sl_len r0 Try.underlying22 _)) ?_
        refine rd_yes rfl rfl (ov_bin rfl rfl i_geq) ?_
        exact gK rfl rfl rfl rfl rfl k
      · exact gN 4 rfl rfl rfl rfl rfl rfl
    refine nS ?_
    refine rc_br hres rfl ?_ ?_ <;> clear hres <;> intro a9 hres <;> have b2 := a9 <;> try simp only [qa, qaD] at b2
    · refine sR ?_
      refine mV rfl ?_
      refine mV rfl ?_
      refine nS ?_
      obtain ⟨d8, c6, c5⟩ := own_sl (P := Try.prog) (k := 0) (t := tI) b9 rfl rfl a2 (Nat.le_trans a1 (by decide))
      subst hres
      exact rc_retV (.tmp rfl .nil) c6 c5
    · refine rc_skip ?_
      refine pn_seq ?_
      refine sR ?_
      refine mV rfl ?_
      refine mV rfl ?_
      have a6 : 0 ≤ x1 := (by omega)
      have b4 : x1 < (a0.length : Int) := (by omega)
      refine rd_op (ov_iaddr rfl rfl (n_idx 1 a6 (by omega))) ?_
      refine rd_setO (k := 0) (v := vi 0) b9 rfl rfl rfl (by rw [All2.length_eq a2]; omega) rfl (fun d6 d2 => ?_)
      have d0 := All2.set (i := (x1).toNat) a2 (show tI.R 0 (vi 0) from rfl)
      have b0 : (a0.set (x1).toNat 0).length ≤ 4611686018427387904 := by simp only [List.length_set]; exact a1
      have b1 : (a0.set (x1).toNat 0).length = x0.length := by simp only [List.length_set]; exact a3
      refine nS ?_
      refine rc_seq ?_
      refine sR ?_
      refine mI rfl ?_
      refine nS ?_
      refine rc_block ?_
      refine wC (ref06_distances_L2_ok r0 hn a4 a7 a3 a1 a9 a6 b4 b0 b1 ?_  d0 b1 b0 rfl (by omega) (Mem.sub d2 (.cons_cons _ .slnil)) hres) rfl
      · intro b5 b8 a8 b6 a5 d3 c9 hres
        refine px_blk ?_
        refine pn_seq ?_
        refine sR ?_
        refine mV rfl ?_
        refine mV rfl ?_
        refine nS ?_
        obtain ⟨e0, c8, c7⟩ := own_sl (P := Try.prog) (k := 0) (t := tI) c9 rfl rfl a8 (Nat.le_trans a5 (by decide))
        subst hres
        exact rc_retV (.tmp rfl .nil) c8 c7

def RF38 (res : (List Int)) (r : PV) : Prop := (tSl tI).R res r
theorem ref06_descend_L2_ok {S : List Fr} {res : (List Int)} {x0 : List (List Int)} {x1 : List Int} {x2 a4 a2 : Int} {a5 : List Int} {v0 v1 : PV} {a3 : List PV} {a1 : PV} (r0 : (tSl (tSl tI)).R x0 v0) (r1 : (tSl tI).R x1 v1) (hn : x0.length ≤ 1000) (hx : x1.length = x0.length) (ww : WB x1 100000) (h2 : 0 ≤ x2 ∧ x2 < (x0.length : Int)) (c7 : wr ((x0.length : Int) - 1) = (x0.length : Int) - 1) (c6 : isL a1 = true) (b9 : a5.length ≤ 4611686018427387904) (c5 : -100000 ≤ a2) (c2 : (a5.length : Int) + a2 ≤ 100001) (b4 : (decide (0 < a2)) = true) {K2 : Int → (List Int)}
    (c3 : ∀ {a0 : Int} {h : Heap} (M0 : Mem h [⟨a1, 3, 1, a3⟩]), K2 a0 = res → PX Try.prog 2 S (QR Try.prog [(6, none)] (RF38 res)) [(0, v0), (1, v1), (7, a1), (8, vi a2), (9, vi a0)] h) :
    ∀ {m : Nat} {a0 : Int} (c4 : m = Int.toNat ((wr ((x0.length : Int) - 1)) - a0)) (b2 : 0 ≤ a0) {h : Heap} (M0 : Mem h [⟨a1, 3, 1, a3⟩]), ref06_descend_L2 x0 x1 a4 a2 K2 m a0 = res → RC Try.prog (.loop ac38_L2) S (QR Try.prog [(6, none)] (RF38 res)) [(9, vi a0), (8, vi a2), (7, a1), (2, vi a4), (1, v1), (0, v0)] h := by
  have b0 := b4
  try simp only [qa, qaD] at b0
  intro m
  induction m with
  | zero =>
    intro a0 c4 b2 h M0 hres
    rw [ref06_descend_L2] at hres
    refine rc_loop ?_
    refine rc_seq ?_
    refine sR ?_
    refine mV rfl ?_
    refine mV rfl ?_
    refine rd_op (ov_bi rfl (sl_len r0 Try.underlying22 _)) ?_
    refine bN i_sub rfl rfl ?_
    refine bN i_lss rfl rfl ?_
    refine mV rfl ?_
    refine rd_cutn 15 (d := 40) (v := vb ((decide (a0 < (wr ((x0.length : Int) - 1)))) && (!((decide ((ix x1 a0) = (wr (a2 - 1)))) && (ref06_Edge x0 a4 a0))))) ?_ ?_
    · intro S Q r
      cases b5 : (decide (a0 < (wr ((x0.length : Int) - 1))))
      · exact gN 14 rfl rfl rfl rfl rfl rfl
      · intro k
        have a6 := b5
        try simp only [qa, qaD] at a6
        refine rd_yes rfl rfl (ov_move rfl) ?_
        refine rd_yes rfl rfl (ov_move rfl) ?_
        refine rd_yes rfl rfl (ov_iaddr rfl rfl (slI r1 (by omega) (by omega))) ?_
        refine rd_yes rfl rfl (ov_load rfl rfl rfl) ?_
        refine rd_yes rfl rfl (ov_move rfl) ?_
        refine rd_yes rfl rfl (ov_bin rfl rfl i_sub) ?_
        refine rd_yes rfl rfl (ov_bin rfl rfl i_eql) ?_
        refine rd_yes rfl rfl (ov_move rfl) ?_
        refine rd_cutn 5 (d := 38) (v := vb ((decide ((ix x1 a0) = (wr (a2 - 1)))) && (ref06_Edge x0 a4 a0))) ?_ ?_
        · intro S Q r
          cases b1 : (decide ((ix x1 a0) = (wr (a2 - 1))))
          · intro k
            refine rd_skip rfl rfl ?_
            refine rd_skip rfl rfl ?_
            refine rd_skip rfl rfl ?_
            refine rd_skip rfl rfl ?_
            refine rd_yes (v := vb false) rfl rfl (ov_pick rfl rfl rfl rfl) ?_
            exact wD k rfl
          · intro k
            have a8 := b1
            try simp only [qa, qaD] at a8
            refine rd_yes rfl rfl (ov_move rfl) ?_
            refine rd_yes rfl rfl (ov_move rfl) ?_
            refine rd_yes rfl rfl (ov_move rfl) ?_
            have b7 := f32_ok (x1 := a4) (x2 := a0) r0 
            refine rd_ycall rfl rfl (cv_fn rfl rfl (clL_cons (TR.clo (tSl (tSl tI)) r0) (clL_cons rfl (clL_cons rfl clL_nil))) b7) ?_
            refine rd_yes (v := vb (ref06_Edge x0 a4 a0)) rfl rfl (ov_pick rfl rfl rfl rfl) ?_
            exact wD k rfl
        refine rd_yes rfl rfl (ov_not rfl) ?_
        exact gK rfl rfl rfl rfl rfl k
    refine nS ?_
    refine rc_cond rfl ?_ ?_ <;> intro c <;> try simp only [qa, qaD] at c
    · omega
    refine rc_exit ?_
    refine px_seq ?_
    refine px_again ?_
    exact wP (c3 (Mem.sub M0 (.cons_cons _ .slnil)) hres) rfl
  | succ m ih =>
    intro a0 c4 b2 h M0 hres
    rw [ref06_descend_L2] at hres
    refine rc_loop ?_
    refine rc_seq ?_
    refine sR ?_
    refine mV rfl ?_
    refine mV rfl ?_
    refine rd_op (ov_bi rfl (sl_len r0 Try.underlying22 _)) ?_
    refine bN i_sub rfl rfl ?_
    refine bN i_lss rfl rfl ?_
    refine mV rfl ?_
    refine rd_cutn 15 (d := 40) (v := vb ((decide (a0 < (wr ((x0.length : Int) - 1)))) && (!((decide ((ix x1 a0) = (wr (a2 - 1)))) && (ref06_Edge x0 a4 a0))))) ?_ ?_
    · intro S Q r
      cases b6 : (decide (a0 < (wr ((x0.length : Int) - 1))))
      · exact gN 14 rfl rfl rfl rfl rfl rfl
      · intro k
        have a9 := b6
        try simp only [qa, qaD] at a9
        refine rd_yes rfl rfl (ov_move rfl) ?_
        refine rd_yes rfl rfl (ov_move rfl) ?_
        refine rd_yes rfl rfl (ov_iaddr rfl rfl (slI r1 (by omega) (by omega))) ?_
        refine rd_yes rfl rfl (ov_load rfl rfl rfl) ?_
        refine rd_yes rfl rfl (ov_move rfl) ?_
        refine rd_yes rfl rfl (ov_bin rfl rfl i_sub) ?_
        refine rd_yes rfl rfl (ov_bin rfl rfl i_eql) ?_
        refine rd_yes rfl rfl (ov_move rfl) ?_
        refine rd_cutn 5 (d := 38) (v := vb ((decide ((ix x1 a0) = (wr (a2 - 1)))) && (ref06_Edge x0 a4 a0))) ?_ ?_
        · intro S Q r
          cases b3 : (decide ((ix x1 a0) = (wr (a2 - 1))))
          · intro k
            refine rd_skip rfl rfl ?_
            refine rd_skip rfl rfl ?_
            refine rd_skip rfl rfl ?_
            refine rd_skip rfl rfl ?_
            refine rd_yes (v := vb false) rfl rfl (ov_pick rfl rfl rfl rfl) ?_
            exact wD k rfl
          · intro k
            have a7 := b3
            try simp only [qa, qaD] at a7
            refine rd_yes rfl rfl (ov_move rfl) ?_
            refine rd_yes rfl rfl (ov_move rfl) ?_
            refine rd_yes rfl rfl (ov_move rfl) ?_
            have b8 := f32_ok (x1 := a4) (x2 := a0) r0 
            refine rd_ycall rfl rfl (cv_fn rfl rfl (clL_cons (TR.clo (tSl (tSl tI)) r0) (clL_cons rfl (clL_cons rfl clL_nil))) b8) ?_
            refine rd_yes (v := vb (ref06_Edge x0 a4 a0)) rfl rfl (ov_pick rfl rfl rfl rfl) ?_
            exact wD k rfl
        refine rd_yes rfl rfl (ov_not rfl) ?_
        exact gK rfl rfl rfl rfl rfl k
    refine nS ?_
    refine rc_br hres rfl ?_ ?_ <;> clear hres <;> intro c hres <;> try simp only [qa, qaD] at c
    · refine rc_skip ?_
      refine pn_seq ?_
      refine rc_block ?_
      refine rc_region ?_
      refine mV rfl ?_
      refine bN i_add rfl rfl ?_
      refine mV rfl ?_
      refine rd_nil ?_
      refine pn_blk ?_
      refine pn_again ?_
      have hinc : wr (a0 + 1) = a0 + 1 := wr_of (by omega) (by omega)
      erw [hinc]
      exact wC (ih   (by omega) (by omega) (Mem.sub M0 (.cons_cons _ .slnil)) hres) rfl
    · refine rc_exit ?_
      refine px_seq ?_
      refine px_again ?_
      exact wP (c3 (Mem.sub M0 (.cons_cons _ .slnil)) hres) rfl

theorem ref06_descend_L1_ok {S : List Fr} {res : (List Int)} {x0 : List (List Int)} {x1 : List Int} {x2 : Int} {v0 v1 : PV} (r0 : (tSl (tSl tI)).R x0 v0) (r1 : (tSl tI).R x1 v1) (hn : x0.length ≤ 1000) (hx : x1.length = x0.length) (ww : WB x1 100000) (h2 : 0 ≤ x2 ∧ x2 < (x0.length : Int)) (c8 : wr ((x0.length : Int) - 1) = (x0.length : Int) - 1) {K0 : (List Int) → (List Int)}
    (c7 : ∀ {a1 : List Int} {a0 : List PV} {a2 : PV} (a6 : All2 tI.R a1 a0) (a5 : isL a2 = true) (a3 : a1.length ≤ 4611686018427387904) {h : Heap} (M0 : Mem h [⟨a2, 3, 1, a0⟩]), K0 a1 = res → PX Try.prog 0 S (QR Try.prog [(6, none)] (RF38 res)) [(7, a2)] h) :
    ∀ {m : Nat} {b8 b2 : Int} {a1 : List Int} {a0 : List PV} {a2 : PV} (a6 : All2 tI.R a1 a0) (a5 : isL a2 = true) (a3 : a1.length ≤ 4611686018427387904) (c6 : b2 ≤ (m : Int)) (a9 : -100000 ≤ b2) (a7 : (a1.length : Int) + b2 ≤ 100001) {h : Heap} (M0 : Mem h [⟨a2, 3, 1, a0⟩]), ref06_descend_L1 x0 x1 K0 m b8 b2 a1 = res → RC Try.prog (.loop ac38_L1) S (QR Try.prog [(6, none)] (RF38 res)) [(8, vi b2), (7, a2), (2, vi b8), (1, v1), (0, v0)] h := by
  intro m
  induction m with
  | zero =>
    intro b8 b2 a1 a0 a2 a6 a5 a3 c6 a9 a7 h M0 hres
    rw [ref06_descend_L1] at hres
    refine rc_loop ?_
    refine rc_seq ?_
    refine sR ?_
    refine mV rfl ?_
    refine bN i_gtr rfl rfl ?_
    refine nS ?_
    refine rc_cond rfl ?_ ?_ <;> intro c <;> try simp only [qa, qaD] at c
    · omega
    refine rc_exit ?_
    refine px_seq ?_
    refine px_again ?_
    exact wP (c7 a6 a5 a3 (Mem.sub M0 (.cons_cons _ .slnil)) hres) rfl
  | succ m ih =>
    intro b8 b2 a1 a0 a2 a6 a5 a3 c6 a9 a7 h M0 hres
    rw [ref06_descend_L1] at hres
    refine rc_loop ?_
    refine rc_seq ?_
    refine sR ?_
    refine mV rfl ?_
    refine bN i_gtr rfl rfl ?_
    refine nS ?_
    refine rc_br hres rfl ?_ ?_ <;> clear hres <;> intro b0 hres <;> have b3 := b0 <;> try simp only [qa, qaD] at b3
    · refine rc_skip ?_
      refine pn_seq ?_
      refine rc_seq ?_
      refine rc_block ?_
      refine sR ?_
      refine mI rfl ?_
      refine nS ?_
      refine rc_seq ?_
      refine rc_block ?_
      refine wC (ref06_descend_L2_ok r0 r1 hn hx ww h2 c8 a5 a3 a9 a7 b0 ?_  rfl (by omega) (Mem.sub M0 (.cons_cons _ .slnil)) hres) rfl
      · intro a4 c2 b9 hres
        refine px_blk ?_
        refine pn_seq ?_
        refine sR ?_
        refine mV rfl ?_
        refine mV rfl ?_
        refine rd_op (v := .fs true [vi a4]) (ov_bslice rfl (all_cons rfl all_nil)) ?_
        have c3 : (tSl tI).R ([a4] : List Int) (.fs true [vi a4]) := sl_fs ⟨rfl, trivial⟩ (by simp)
        obtain ⟨a8, b4, b1⟩ := src_of (t := tI) (h := c2) c3
        have b7 : fits (a0.length + a8.length) 8 = true := by rw [All2.length_eq a6, All2.length_eq b1]; (try simp only [List.length_cons, List.length_nil]); exact fits_of (by first | omega | (simp only [List.length_append, List.length_cons, List.length_nil]; omega)) (by first | omega | (simp only [List.length_append, List.length_cons, List.length_nil]; omega))
        refine rd_appO (k := 0) (es := a0) (news := a8) b9 rfl rfl rfl a5 b4 b7 (fun d0 c9 c5 c4 => ?_)
        have b5 : All2 tI.R (a1 ++ ([a4] : List Int)) (a0 ++ a8) := All2.app a6 b1
        have b6 : (a1 ++ ([a4] : List Int)).length ≤ 4611686018427387904 := by rw [← All2.length_eq b5, List.length_append]; exact fits_len b7
        refine mV rfl ?_
        refine nS ?_
        refine rc_region ?_
        refine mV rfl ?_
        refine mV rfl ?_
        refine rd_nil ?_
        refine pn_blk ?_
        refine pn_seq ?_
        refine rc_region ?_
        refine mV rfl ?_
        refine bN i_sub rfl rfl ?_
        refine mV rfl ?_
        refine rd_nil ?_
        refine pn_again ?_
        exact wC (ih  b5 c5 b6 (by (rw [wr_of (by omega) (by omega)]; omega)) (by (rw [wr_of (by omega) (by omega)]; first | omega | (simp only [List.length_append, List.length_cons, List.length_nil]; omega))) (by (rw [wr_of (by omega) (by omega)]; first | omega | (simp only [List.length_append, List.length_cons, List.length_nil]; omega))) (Mem.sub c4 (.cons_cons _ .slnil)) hres) rfl
    · refine rc_exit ?_
      refine px_seq ?_
      refine px_again ?_
      exact wP (c7 a6 a5 a3 (Mem.sub M0 (.cons_cons _ .slnil)) hres) rfl

theorem f38_ok {x0 : List (List Int)} {x1 : List Int} {x2 : Int} {v0 v1 : PV} (r0 : (tSl (tSl tI)).R x0 v0) (r1 : (tSl tI).R x1 v1) (hn : x0.length ≤ 1000) (hx : x1.length = x0.length) (ww : WB x1 100000) (h2 : 0 ≤ x2 ∧ x2 < (x0.length : Int)) : ∃ r, FnR Try.prog 38 [v0, v1, vi x2] r ∧ (tSl tI).R (ref06_descend x0 x1 x2) r := by
  refine fnT (R := RF38) text38 rfl fun res hres => ?_
  unfold ref06_descend at hres
  have b3 : wr ((x0.length : Int) - 1) = (x0.length : Int) - 1 := wr_of (by omega) (by omega)
  refine sR ?_
  refine rd_op (v := nilS) (ov_move rfl) ?_
  refine nR ?_
  refine mV rfl ?_
  refine rd_op (v := .fs true [vi x2]) (ov_bslice rfl (all_cons rfl all_nil)) ?_
  have b2 : (tSl tI).R ([x2] : List Int) (.fs true [vi x2]) := sl_fs ⟨rfl, trivial⟩ (by simp)
  refine mV rfl ?_
  refine nS ?_
  refine rc_seq ?_
  refine sR ?_
  refine mV rfl ?_
  refine mV rfl ?_
  refine rd_op (ov_iaddr rfl rfl (slI r1 (by omega) (by omega))) ?_
  refine lR rfl rfl rfl ?_
  refine mV rfl ?_
  refine nS ?_
  refine rc_block ?_
  have b0 := b2
  have a6 : All2 tI.R ([x2] : List Int) [vi x2] := sl_all2 b0
  have a8 := mem_acc (sz := 1) (es := [vi x2]) (Mem.nil ⟨0, []⟩) 3 (.inr rfl) (All2.cnt (t := tI) a6)
  refine wC (ref06_descend_L1_ok r0 r1 hn hx ww h2 b3 ?_  a6 rfl (by simp only [List.length_cons, List.length_nil]; decide) (by omega) (by (have hq := ww.at_dec (k := x2) (by omega) (by omega) (by omega); first | omega | (simp only [List.length_cons, List.length_nil]; omega))) (by (have hq := ww.at_dec (k := x2) (by omega) (by omega) (by omega); first | omega | (simp only [List.length_cons, List.length_nil]; omega))) (Mem.sub a8 (.cons_cons _ .slnil)) hres) rfl
  · intro a3 a4 a5 a2 a1 a0 b4 b1 hres
    refine px_blk ?_
    refine pn_seq ?_
    refine sR ?_
    refine mV rfl ?_
    refine mV rfl ?_
    refine nS ?_
    obtain ⟨b5, a9, a7⟩ := own_sl (P := Try.prog) (k := 0) (t := tI) b1 rfl a1 a2 (Nat.le_trans a0 (by decide))
    subst hres
    exact rc_retV (.tmp rfl .nil) a9 a7

def RF27 (res : (List Int)) (r : PV) : Prop := (tSl tI).R res r
theorem ref06_ShortestCycle_L2_ok {S : List Fr} {res : (List Int)} {x0 : List (List Int)} {a8 : Int} {a0 : (List Int)} {v0 b0 : PV} (r0 : (tSl (tSl tI)).R x0 v0) (hs : Sm x0) (hn : x0.length ≤ 24) (c4 : 0 ≤ a8) (b5 : (decide (a8 < (x0.length : Int))) = true) (b9 : ref06_distances x0 a8 = a0) (a5 : (tSl tI).R a0 b0) (c2 : a0.length = x0.length ∧ WB a0 1000) {K2 : Int → (List Int)}
    (c5 : ∀ {a2 : Int} (c6 : a2 < (x0.length : Int)) {h : Heap} (M0 : Mem h []), K2 a2 = res → PX Try.prog 2 S (QR Try.prog [(2, none)] (RF27 res)) [(0, v0), (3, vi a8), (4, b0), (5, vi a2)] h) :
    ∀ {m : Nat} {a2 a1 : Int} (c3 : m = Int.toNat ((x0.length : Int) - a1)) (b2 : 0 ≤ a1) (a4 : a2 < (x0.length : Int)) {h : Heap} (M0 : Mem h []), ref06_ShortestCycle_L2 x0 a8 a0 K2 m a2 a1 = res → RC Try.prog (.loop ac27_L2) S (QR Try.prog [(2, none)] (RF27 res)) [(6, vi a1), (5, vi a2), (4, b0), (3, vi a8), (0, v0)] h := by
  have a6 := b5
  try simp only [qa, qaD] at a6
  intro m
  induction m with
  | zero =>
    intro a2 a1 c3 b2 a4 h M0 hres
    rw [ref06_ShortestCycle_L2] at hres
    refine rc_loop ?_
    refine rc_seq ?_
    refine sR ?_
    refine mV rfl ?_
    refine mV rfl ?_
    refine rd_op (ov_bi rfl (sl_len r0 Try.underlying22 _)) ?_
    refine bN i_lss rfl rfl ?_
    refine nS ?_
    refine rc_cond rfl ?_ ?_ <;> intro c <;> try simp only [qa, qaD] at c
    · omega
    refine rc_exit ?_
    refine px_seq ?_
    refine px_again ?_
    exact wP (c5 (by omega) (Mem.sub M0 .slnil) hres) rfl
  | succ m ih =>
    intro a2 a1 c3 b2 a4 h M0 hres
    rw [ref06_ShortestCycle_L2] at hres
    refine rc_loop ?_
    refine rc_seq ?_
    refine sR ?_
    refine mV rfl ?_
    refine mV rfl ?_
    refine rd_op (ov_bi rfl (sl_len r0 Try.underlying22 _)) ?_
    refine bN i_lss rfl rfl ?_
    refine nS ?_
    refine rc_cond rfl ?_ ?_ <;> intro c <;> try simp only [qa, qaD] at c
    rotate_left
    · omega
    refine rc_skip ?_
    refine pn_seq ?_
    refine rc_seq ?_
    refine rc_block ?_
    refine sR ?_
    refine mV rfl ?_
    refine mV rfl ?_
    refine mV rfl ?_
    obtain ⟨a3, b3, hres⟩ := let_ex hres
    have b7 := f32_ok (x1 := a8) (x2 := a1) r0 
    rw [b3] at b7
    refine cL b7 rfl rfl (clL_cons (TR.clo (tSl (tSl tI)) r0) (clL_cons rfl (clL_cons rfl clL_nil))) ?_
    refine mV rfl ?_
    refine rd_cutn 6 (d := 33) (v := vb (a3 && (decide (0 ≤ (ix a0 a1))))) ?_ ?_
    · intro S Q r
      cases b6 : a3
      · exact gN 5 rfl rfl rfl rfl rfl rfl
      · intro k
        have a7 := b6
        try simp only [qa, qaD] at a7
        refine rd_yes rfl rfl (ov_move rfl) ?_
        refine rd_yes rfl rfl (ov_move rfl) ?_
        refine rd_yes rfl rfl (ov_iaddr rfl rfl (slI a5 (by first | omega | (rw [wr_of (by simp only [List.length_append, List.length_cons, List.length_nil]; omega) (by simp only [List.length_append, List.length_cons, List.length_nil]; omega)]; simp only [List.length_append, List.length_cons, List.length_nil]; omega)) (by first | omega | (rw [wr_of (by simp only [List.length_append, List.length_cons, List.length_nil]; omega) (by simp only [List.length_append, List.length_cons, List.length_nil]; omega)]; simp only [List.length_append, List.length_cons, List.length_nil]; omega)))) ?_
        refine rd_yes rfl rfl (ov_load rfl rfl rfl) ?_
        refine rd_yes rfl rfl (ov_bin rfl rfl i_geq) ?_
        exact gK rfl rfl rfl rfl rfl k
    refine mV rfl ?_
    refine rd_cutn 14 (d := 48) (v := vb ((a3 && (decide (0 ≤ (ix a0 a1)))) && ((decide (a2 < 0)) || (decide ((ix a0 a1) < (ix a0 a2)))))) ?_ ?_
    · intro S Q r
      cases b4 : (a3 && (decide (0 ≤ (ix a0 a1))))
      · exact gN 13 rfl rfl rfl rfl rfl rfl
      · intro k
        have b1 := b4
        try simp only [qa, qaD] at b1
        refine rd_yes rfl rfl (ov_move rfl) ?_
        refine rd_yes rfl rfl (ov_bin rfl rfl i_lss) ?_
        refine rd_yes rfl rfl (ov_move rfl) ?_
        refine rd_cutn 10 (d := 47) (v := vb ((decide (a2 < 0)) || (decide ((ix a0 a1) < (ix a0 a2))))) ?_ ?_
        · intro S Q r
          cases b8 : (decide (a2 < 0))
          · intro k
            have a9 := b8
            try simp only [qa, qaD] at a9
            refine rd_yes rfl rfl (ov_move rfl) ?_
            refine rd_yes rfl rfl (ov_move rfl) ?_
            refine rd_yes rfl rfl (ov_iaddr rfl rfl (slI a5 (by first | omega | (rw [wr_of (by simp only [List.length_append, List.length_cons, List.length_nil]; omega) (by simp only [List.length_append, List.length_cons, List.length_nil]; omega)]; simp only [List.length_append, List.length_cons, List.length_nil]; omega)) (by first | omega | (rw [wr_of (by simp only [List.length_append, List.length_cons, List.length_nil]; omega) (by simp only [List.length_append, List.length_cons, List.length_nil]; omega)]; simp only [List.length_append, List.length_cons, List.length_nil]; omega)))) ?_
            refine rd_yes rfl rfl (ov_load rfl rfl rfl) ?_
            refine rd_yes rfl rfl (ov_move rfl) ?_
            refine rd_yes rfl rfl (ov_move rfl) ?_
            refine rd_yes rfl rfl (ov_iaddr rfl rfl (slI a5 (by first | omega | (rw [wr_of (by simp only [List.length_append, List.length_cons, List.length_nil]; omega) (by simp only [List.length_append, List.length_cons, List.length_nil]; omega)]; simp only [List.length_append, List.length_cons, List.length_nil]; omega)) (by first | omega | (rw [wr_of (by simp only [List.length_append, List.length_cons, List.length_nil]; omega) (by simp only [List.length_append, List.length_cons, List.length_nil]; omega)]; simp only [List.length_append, List.length_cons, List.length_nil]; omega)))) ?_
            refine rd_yes rfl rfl (ov_load rfl rfl rfl) ?_
            refine rd_yes rfl rfl (ov_bin rfl rfl i_lss) ?_
            refine rd_yes (v := vb (decide ((ix a0 a1) < (ix a0 a2)))) rfl rfl (ov_pick rfl rfl rfl rfl) ?_
            exact wD k rfl
          · intro k
            refine rd_skip rfl rfl ?_
            refine rd_skip rfl rfl ?_
            refine rd_skip rfl rfl ?_
            refine rd_skip rfl rfl ?_
            refine rd_skip rfl rfl ?_
            refine rd_skip rfl rfl ?_
            refine rd_skip rfl rfl ?_
            refine rd_skip rfl rfl ?_
            refine rd_skip rfl rfl ?_
            refine rd_yes (v := vb true) rfl rfl (ov_pick rfl rfl rfl rfl) ?_
            exact wD k rfl
        exact gK rfl rfl rfl rfl rfl k
    refine nS ?_
    refine rc_br hres rfl ?_ ?_ <;> clear hres <;> intro c hres <;> try simp only [qa, qaD] at c
    · refine rc_region ?_
      refine mV rfl ?_
      refine mV rfl ?_
      refine rd_nil ?_
      refine pn_blk ?_
      refine pn_seq ?_
      refine rc_region ?_
      refine mV rfl ?_
      refine bN i_add rfl rfl ?_
      refine mV rfl ?_
      refine rd_nil ?_
      refine pn_again ?_
      have hbd := sl_bound r0
      have hinc : wr (a1 + 1) = a1 + 1 := wr_of (by omega) (by omega)
      erw [hinc]
      exact wC (ih   (by omega) (by omega) (by first | omega | (simp; done) | (simp only [List.length_append, List.length_cons, List.length_nil, List.length_set]; omega)) (Mem.sub M0 .slnil) hres) rfl
    · refine rc_skip ?_
      refine pn_blk ?_
      refine pn_seq ?_
      refine rc_region ?_
      refine mV rfl ?_
      refine bN i_add rfl rfl ?_
      refine mV rfl ?_
      refine rd_nil ?_
      refine pn_again ?_
      have hbd := sl_bound r0
      have hinc : wr (a1 + 1) = a1 + 1 := wr_of (by omega) (by omega)
      erw [hinc]
      exact wC (ih   (by omega) (by omega) (by first | omega | (simp; done) | (simp only [List.length_append, List.length_cons, List.length_nil, List.length_set]; omega)) (Mem.sub M0 .slnil) hres) rfl

theorem ref06_ShortestCycle_L1_ok {S : List Fr} {res : (List Int)} {x0 : List (List Int)} {v0 : PV} (r0 : (tSl (tSl tI)).R x0 v0) (hs : Sm x0) (hn : x0.length ≤ 24) {K0 : Unit → (List Int)}
    (e6 : ∀ {h : Heap} (M0 : Mem h []), K0 () = res → PX Try.prog 0 S (QR Try.prog [(2, none)] (RF27 res)) [] h) :
    ∀ {m : Nat} {a1 : Int} (e1 : m = Int.toNat ((x0.length : Int) - a1)) (b5 : 0 ≤ a1) {h : Heap} (M0 : Mem h []), ref06_ShortestCycle_L1 x0 K0 m a1 = res → RC Try.prog (.loop ac27_L1) S (QR Try.prog [(2, none)] (RF27 res)) [(3, vi a1), (0, v0)] h := by
  intro m
  induction m with
  | zero =>
    intro a1 e1 b5 h M0 hres
    rw [ref06_ShortestCycle_L1] at hres
    refine rc_loop ?_
    refine rc_seq ?_
    refine sR ?_
    refine mV rfl ?_
    refine mV rfl ?_
    refine rd_op (ov_bi rfl (sl_len r0 Try.underlying22 _)) ?_
    refine bN i_lss rfl rfl ?_
    refine nS ?_
    refine rc_cond rfl ?_ ?_ <;> intro c <;> try simp only [qa, qaD] at c
    · omega
    refine rc_exit ?_
    refine px_seq ?_
    refine px_again ?_
    exact wP (e6 (Mem.sub M0 .slnil) hres) rfl
  | succ m ih =>
    intro a1 e1 b5 h M0 hres
    rw [ref06_ShortestCycle_L1] at hres
    refine rc_loop ?_
    refine rc_seq ?_
    refine sR ?_
    refine mV rfl ?_
    refine mV rfl ?_
    refine rd_op (ov_bi rfl (sl_len r0 Try.underlying22 _)) ?_
    refine bN i_lss rfl rfl ?_
    refine nS ?_
    refine rc_cond rfl (fun a5 => ?_) (fun a5 => ?_)
    · have hgo := hres
      have b3 := a5
      try simp only [qa, qaD] at b3
      refine rc_skip ?_
      refine pn_seq ?_
      refine rc_seq ?_
      refine rc_block ?_
      refine sR ?_
      refine mV rfl ?_
      refine mV rfl ?_
      obtain ⟨b7, a7, hres⟩ := let_ex hres
      obtain ⟨a6, d2, a9⟩ := f35_ok (x1 := a1) r0 (by first | assumption | omega)
      rw [a7] at a9
      have a4 : b7.length = x0.length ∧ WB b7 1000 := rdist_use (by omega) a7
      refine cL d2 rfl rfl (clL_cons (TR.clo (tSl (tSl tI)) r0) (clL_cons rfl clL_nil)) ?_
      refine mV rfl ?_
      refine nR ?_
      refine mI rfl ?_
      refine nS ?_
      refine rc_seq ?_
      refine sR ?_
      refine mI rfl ?_
      refine nS ?_
      refine rc_block ?_
      refine wC (ref06_ShortestCycle_L2_ok r0 hs hn b5 a5 a7 a9 a4 ?_  rfl (by omega) (by first | omega | (simp; done) | (simp only [List.length_append, List.length_cons, List.length_nil, List.length_set]; omega)) (Mem.sub M0 .slnil) hres) rfl
      · intro a0 d0 d4 c9 hres
        refine px_blk ?_
        refine pn_seq ?_
        refine sR ?_
        refine mV rfl ?_
        refine bN i_geq rfl rfl ?_
        refine nS ?_
        refine rc_br hres rfl ?_ ?_ <;> clear hres <;> intro c hres <;> try simp only [qa, qaD] at c
        · refine sR ?_
          refine mV rfl ?_
          refine rd_op (v := .fs true [vi a1]) (ov_bslice rfl (all_cons rfl all_nil)) ?_
          have e0 : (tSl tI).R ([a1] : List Int) (.fs true [vi a1]) := sl_fs ⟨rfl, trivial⟩ (by simp)
          refine mV rfl ?_
          refine mV rfl ?_
          refine mV rfl ?_
          obtain ⟨a2, b0, hres⟩ := let_ex hres
          obtain ⟨b4, d8, c8⟩ := f38_ok (x2 := a0) r0 a9 (by first | omega | exact WB.mono a4.2 (by omega)) (by first | omega | exact WB.mono a4.2 (by omega)) (by first | omega | exact WB.mono a4.2 (by omega)) (by first | omega | exact WB.mono a4.2 (by omega))
          rw [b0] at c8
          have e2 := rdesc_len a4.2 (by omega) (by omega) (by omega) b0
          refine cL d8 rfl rfl (clL_cons (TR.clo (tSl (tSl tI)) r0) (clL_cons (TR.clo (tSl tI) a9) (clL_cons rfl clL_nil))) ?_
          have d5 := e0
          have b2 : All2 tI.R ([a1] : List Int) [vi a1] := sl_all2 d5
          have d6 := mem_acc (sz := 1) (es := [vi a1]) c9 3 (.inr rfl) (All2.cnt (t := tI) b2)
          obtain ⟨a8, c7, b1⟩ := src_of (t := tI) (h := d4) c8
          have c2 : fits ([vi a1].length + a8.length) 8 = true := by rw [All2.length_eq b2, All2.length_eq b1]; (try simp only [List.length_cons, List.length_nil]); exact fits_of (by first | omega | (simp only [List.length_append, List.length_cons, List.length_nil]; omega)) (by first | omega | (simp only [List.length_append, List.length_cons, List.length_nil]; omega))
          refine rd_appO (k := 0) (es := [vi a1]) (news := a8) d6 rfl rfl rfl rfl c7 c2 (fun e4 e5 c4 c6 => ?_)
          have b6 : All2 tI.R (([a1] : List Int) ++ a2) ([vi a1] ++ a8) := All2.app b2 b1
          have c3 : (([a1] : List Int) ++ a2).length ≤ 4611686018427387904 := by rw [← All2.length_eq b6, List.length_append]; exact fits_len c2
          refine mV rfl ?_
          refine nS ?_
          refine rc_seq ?_
          refine rc_regionS ?_
          refine rs_step ?_
          refine mV rfl ?_
          refine rs_back ?_
          refine rs_step ?_
          refine mV rfl ?_
          refine rs_back ?_
          refine rs_step ?_
          refine rd_op (ov_bi rfl (own_len (k := 0) c6 rfl Try.underlying31 c4 b6 _)) ?_
          refine rs_back ?_
          refine rs_step ?_
          refine bN i_sub rfl rfl ?_
          refine rs_back ?_
          refine rs_freeze (k := 0) (E' := fun a3 => [(62, vi (wr (((([a1] : List Int) ++ a2).length : Int) - 1))), (61, vi ((([a1] : List Int) ++ a2).length : Int)), (60, a3), (59, a3), (7, a3), (58, a3), (57, b4), (56, vi a0), (55, a6), (54, v0), (53, .fs true [vi a1]), (52, vi a1), (51, vb (decide (0 ≤ a0))), (50, vi a0), (0, v0), (3, vi a1), (4, a6), (5, vi a0)]) c6 rfl c4 (fun a3 => (frz_keep rfl (frz_keep rfl (frz_turn rfl (frz_turn rfl (frz_turn rfl (frz_turn rfl (frz_keep rfl (frz_keep rfl (frz_keep rfl (frz_keep rfl (frz_keep rfl (frz_keep rfl (frz_keep rfl (frz_keep rfl (frz_keep rfl (frz_keep rfl (frz_keep rfl (frz_keep rfl frz_nil))))))))))))))))))) (fun a3 c5 d9 b8 => ?_)
          have d3 : (tSl tI).R (([a1] : List Int) ++ a2) a3 := ⟨⟨_, d9, b6⟩, Nat.le_trans c3 (by decide)⟩
          replace b8 : Mem c5 [] := b8.sub .slnil
          refine rs_step ?_
          refine rd_weak (E0 := [(62, vi (wr (((([a1] : List Int) ++ a2).length : Int) - 1))), (61, vi ((([a1] : List Int) ++ a2).length : Int)), (60, a3), (59, a3), (7, a3), (58, a3), (57, b4), (56, vi a0), (55, a6), (54, v0), (53, .fs true [vi a1]), (52, vi a1), (51, vb (decide (0 ≤ a0))), (50, vi a0), (0, v0), (3, vi a1), (4, a6), (5, vi a0)]) (sB rfl) ?_
          obtain ⟨d7, d1, b9⟩ := sl_sub (P := Try.prog) (hf := false) (E := [(62, vi (wr (((([a1] : List Int) ++ a2).length : Int) - 1))), (61, vi ((([a1] : List Int) ++ a2).length : Int)), (60, a3), (59, a3), (7, a3), (58, a3), (57, b4), (56, vi a0), (55, a6), (54, v0), (53, .fs true [vi a1]), (52, vi a1), (51, vb (decide (0 ≤ a0))), (50, vi a0), (0, v0), (3, vi a1), (4, a6), (5, vi a0)]) (h := c5) (t := tI) (tt := 31) (x := (.tmp 59)) (lo := none) (hi := (some (.tmp 62))) (a := 0) (b := (wr (((([a1] : List Int) ++ a2).length : Int) - 1))) d3 rfl rfl rfl (show 0 ≤ 0 by first | omega | (rw [wr_of (by simp only [List.length_append, List.length_cons, List.length_nil]; omega) (by simp only [List.length_append, List.length_cons, List.length_nil]; omega)]; simp only [List.length_append, List.length_cons, List.length_nil]; omega)) (show 0 ≤ (wr (((([a1] : List Int) ++ a2).length : Int) - 1)) by first | omega | (rw [wr_of (by simp only [List.length_append, List.length_cons, List.length_nil]; omega) (by simp only [List.length_append, List.length_cons, List.length_nil]; omega)]; simp only [List.length_append, List.length_cons, List.length_nil]; omega)) (show (wr (((([a1] : List Int) ++ a2).length : Int) - 1)) ≤ ((([a1] : List Int) ++ a2).length : Int) by first | omega | (rw [wr_of (by simp only [List.length_append, List.length_cons, List.length_nil]; omega) (by simp only [List.length_append, List.length_cons, List.length_nil]; omega)]; simp only [List.length_append, List.length_cons, List.length_nil]; omega)) (fun ad => by kernel_rfl)
          have e3 := sub_len (l := (([a1] : List Int) ++ a2)) (show 0 ≤ 0 by first | omega | (rw [wr_of (by simp only [List.length_append, List.length_cons, List.length_nil]; omega) (by simp only [List.length_append, List.length_cons, List.length_nil]; omega)]; simp only [List.length_append, List.length_cons, List.length_nil]; omega)) (show 0 ≤ (wr (((([a1] : List Int) ++ a2).length : Int) - 1)) by first | omega | (rw [wr_of (by simp only [List.length_append, List.length_cons, List.length_nil]; omega) (by simp only [List.length_append, List.length_cons, List.length_nil]; omega)]; simp only [List.length_append, List.length_cons, List.length_nil]; omega)) (show (wr (((([a1] : List Int) ++ a2).length : Int) - 1)) ≤ ((([a1] : List Int) ++ a2).length : Int) by first | omega | (rw [wr_of (by simp only [List.length_append, List.length_cons, List.length_nil]; omega) (by simp only [List.length_append, List.length_cons, List.length_nil]; omega)]; simp only [List.length_append, List.length_cons, List.length_nil]; omega))
          refine rd_op (v := d7) (d1) ?_
          refine rs_back ?_
          refine rs_step ?_
          refine mV rfl ?_
          refine rs_back ?_
          refine rs_nil ?_
          refine pn_seq ?_
          exact rR hres rfl (TR.clo (tSl tI) b9) b9
        · refine rc_skip ?_
          refine pn_blk ?_
          refine pn_seq ?_
          refine rc_region ?_
          refine mV rfl ?_
          refine bN i_add rfl rfl ?_
          refine mV rfl ?_
          refine rd_nil ?_
          refine pn_again ?_
          have hbd := sl_bound r0
          have hinc : wr (a1 + 1) = a1 + 1 := wr_of (by omega) (by omega)
          erw [hinc]
          exact wC (ih   (by omega) (by omega) (Mem.sub c9 .slnil) hres) rfl
    · exfalso
      try simp only [qa, qaD] at a5
      omega

theorem f27_ok {x0 : List (List Int)} {v0 : PV} (r0 : (tSl (tSl tI)).R x0 v0) (hs : Sm x0) : ∃ r, FnR Try.prog 27 [v0] r ∧ (tSl tI).R (ref06_ShortestCycle x0) r := by
  refine fnT (R := RF27) text27 rfl fun res hres => ?_
  unfold ref06_ShortestCycle at hres
  have hn : x0.length ≤ 24 := hs.n
  refine sR ?_
  refine rd_op (v := nilS) (ov_move rfl) ?_
  refine nS ?_
  refine rc_seq ?_
  refine sR ?_
  refine mI rfl ?_
  refine nS ?_
  refine rc_block ?_
  refine wC (ref06_ShortestCycle_L1_ok r0 hs hn ?_  rfl (by omega) (Mem.sub (Mem.nil ⟨0, []⟩) .slnil) hres) rfl
  · intro a0 a1 hres
    refine px_blk ?_
    refine pn_seq ?_
    refine sR ?_
    refine rd_op (v := nilS) (ov_move rfl) ?_
    refine nS ?_
    exact rR hres rfl (TR.clo (tSl tI) sl_nil) sl_nil

def RF30 (res : (List (List Int))) (r : PV) : Prop := (tSl (tSl tI)).R res r
theorem ref06_Reverse_L2_ok {S : List Fr} {res : (List (List Int))} {x0 : List (List Int)} {a6 : Int} {b3 : List (List Int)} {v0 : PV} {a9 a8 : Nat} (r0 : (tSl (tSl tI)).R x0 v0) (hs : Sm x0) (hn : x0.length ≤ 24) (f3 : (List.replicate x0.length ([] : List Int)).length = x0.length) (f5 : (List.replicate x0.length ([] : List Int)).length ≤ 4611686018427387904) (e8 : b3.length = x0.length) (f2 : b3.length ≤ 4611686018427387904) (g1 : 0 ≤ a6) (f4 : LB b3 (24 * a6)) (d4 : (decide (a6 < (x0.length : Int))) = true) {K2 : (List (List Int)) → (List (List Int))}
    (g0 : ∀ {a0 : List (List Int)} {a1 : List PV} {a2 : List Ent} (a3 : Ns tI 3 a0 a1 a2) (a5 : a0.length = x0.length) (a4 : a0.length ≤ 4611686018427387904) (g2 : LB a0 (24 * a6 + 24)) {h : Heap} (M0 : Mem h (⟨.os a9 a8 0 x0.length, 31, 1, a1⟩ :: (a2 ++ []))), K2 a0 = res → PX Try.prog 2 S (QR Try.prog [(2, none)] (RF30 res)) [(0, v0), (3, .os a9 a8 0 x0.length), (4, vi a6)] h) :
    ∀ {m : Nat} {a7 : Int} {a0 : List (List Int)} {a1 : List PV} {a2 : List Ent} (a3 : Ns tI 3 a0 a1 a2) (a5 : a0.length = x0.length) (a4 : a0.length ≤ 4611686018427387904) (f7 : m = Int.toNat ((x0.length : Int) - a7)) (d0 : 0 ≤ a7) (b1 : LB a0 (24 * a6 + a7)) (b9 : a7 ≤ (x0.length : Int)) {h : Heap} (M0 : Mem h (⟨.os a9 a8 0 x0.length, 31, 1, a1⟩ :: (a2 ++ []))), ref06_Reverse_L2 x0 a6 K2 m a7 a0 = res → RC Try.prog (.loop ac30_L2) S (QR Try.prog [(2, none)] (RF30 res)) [(5, vi a7), (4, vi a6), (3, .os a9 a8 0 x0.length), (0, v0)] h := by
  have c6 := d4
  try simp only [qa, qaD] at c6
  intro m
  induction m with
  | zero =>
    intro a7 a0 a1 a2 a3 a5 a4 f7 d0 b1 b9 h M0 hres
    rw [ref06_Reverse_L2] at hres
    refine rc_loop ?_
    refine rc_seq ?_
    refine sR ?_
    refine mV rfl ?_
    refine mV rfl ?_
    refine rd_op (ov_bi rfl (sl_len r0 Try.underlying22 _)) ?_
    refine bN i_lss rfl rfl ?_
    refine nS ?_
    refine rc_cond rfl ?_ ?_ <;> intro c <;> try simp only [qa, qaD] at c
    · omega
    refine rc_exit ?_
    refine px_seq ?_
    refine px_again ?_
    exact wP (g0 a3 a5 a4 (by exact LB.mono (by assumption) (by omega)) (Mem.sub M0 (.cons_cons _ (List.Sublist.append_left (List.Sublist.refl _) _))) hres) rfl
  | succ m ih =>
    intro a7 a0 a1 a2 a3 a5 a4 f7 d0 b1 b9 h M0 hres
    rw [ref06_Reverse_L2] at hres
    refine rc_loop ?_
    refine rc_seq ?_
    refine sR ?_
    refine mV rfl ?_
    refine mV rfl ?_
    refine rd_op (ov_bi rfl (sl_len r0 Try.underlying22 _)) ?_
    refine bN i_lss rfl rfl ?_
    refine nS ?_
    refine rc_cond rfl ?_ ?_ <;> intro c <;> try simp only [qa, qaD] at c
    rotate_left
    · omega
    refine rc_skip ?_
    refine pn_seq ?_
    refine rc_seq ?_
    refine rc_block ?_
    refine sR ?_
    refine mV rfl ?_
    refine mV rfl ?_
    refine mV rfl ?_
    obtain ⟨f8, d2, hres⟩ := let_ex hres
    have e5 := f32_ok (x1 := a7) (x2 := a6) r0 
    rw [d2] at e5
    refine cL e5 rfl rfl (clL_cons (TR.clo (tSl (tSl tI)) r0) (clL_cons rfl (clL_cons rfl clL_nil))) ?_
    refine nS ?_
    refine rc_br hres rfl ?_ ?_ <;> clear hres <;> intro c hres <;> try simp only [qa, qaD] at c
    · refine rc_region ?_
      refine mV rfl ?_
      refine mV rfl ?_
      refine mV rfl ?_
      refine mV rfl ?_
      have b5 : 0 ≤ a6 := (by omega)
      have c3 : a6 < (a0.length : Int) := (by omega)
      refine rd_op (ov_iaddr rfl rfl (n_idx 1 b5 (by omega))) ?_
      obtain ⟨f0, b0, e6, d9, c7, d1, f6, e0⟩ := ns_at (i := a6) a3 b5 c3
      have b6 : Mem h (⟨f0, 3, 1, b0⟩ :: ⟨.os a9 a8 0 x0.length, 31, 1, a1⟩ :: ((a2.eraseIdx (a6).toNat) ++ [])) := ns_focus (C := [⟨.os a9 a8 0 x0.length, 31, 1, a1⟩]) M0 d9
      refine rd_op (ov_elem (k := 1) b6 rfl rfl e6 (mem_one (k := 0) b6 rfl d1).2) ?_
      refine mV rfl ?_
      refine rd_op (v := .fs true [vi a7]) (ov_bslice rfl (all_cons rfl all_nil)) ?_
      have e9 : (tSl tI).R ([a7] : List Int) (.fs true [vi a7]) := sl_fs ⟨rfl, trivial⟩ (by simp)
      obtain ⟨b2, e4, b8⟩ := src_of (t := tI) (h := h) e9
      have d3 : fits (b0.length + b2.length) 8 = true := by rw [All2.length_eq c7, All2.length_eq b8]; (try simp only [List.length_cons, List.length_nil]); exact fits_of (by first | omega | (have hk := b1 a6 (by omega) (by omega); first | omega | (simp only [List.length_cons, List.length_nil]; omega))) (by first | omega | (have hk := b1 a6 (by omega) (by omega); first | omega | (simp only [List.length_cons, List.length_nil]; omega)))
      refine rd_appW (k := 0) (es := b0) (news := b2) b6 rfl rfl rfl d1 e0 e4 d3 (fun b7 f9 e2 d5 c8 => ?_)
      have c9 : All2 tI.R ((ix a0 a6) ++ ([a7] : List Int)) (b0 ++ b2) := All2.app c7 b8
      have e1 : ((ix a0 a6) ++ ([a7] : List Int)).length ≤ 4611686018427387904 := by rw [← All2.length_eq c9, List.length_append]; exact fits_len d3
      have c5 : 0 ≤ a6 := (by omega)
      have e7 : a6 < (a0.length : Int) := (by omega)
      refine rd_op (ov_iaddr rfl rfl (n_idx 1 c5 (by omega))) ?_
      refine rd_setO (k := 1) (v := b7) c8 rfl rfl rfl (by rw [(Ns.len a3).1]; omega) (mem_cnt1 (k := 0) c8 rfl e2) (fun d8 c2 => ?_)
      replace c2 : Mem d8 (⟨b7, 3, 1, (b0 ++ b2)⟩ :: ⟨.os a9 a8 0 x0.length, 31, 1, (a1.set (a6).toNat b7)⟩ :: ((a2.eraseIdx (a6).toNat) ++ [])) := c2
      obtain ⟨b4, c4, f1, e3⟩ : ∃ b4 c4, Ns tI 3 (a0.set (a6).toNat ((ix a0 a6) ++ ([a7] : List Int))) b4 c4 ∧ Mem d8 (⟨.os a9 a8 0 x0.length, 31, 1, b4⟩ :: (c4 ++ [])) := ⟨_, _, ns_put a3  c9 e2 e1 d5, ns_back (C := [⟨.os a9 a8 0 x0.length, 31, 1, (a1.set (a6).toNat b7)⟩]) c2 (by rw [(Ns.len a3).2]; omega)⟩
      have d7 : (a0.set (a6).toNat ((ix a0 a6) ++ ([a7] : List Int))).length = x0.length := by rw [List.length_set]; exact a5
      have d6 : (a0.set (a6).toNat ((ix a0 a6) ++ ([a7] : List Int))).length ≤ 4611686018427387904 := by rw [List.length_set]; exact a4
      refine rd_nil ?_
      refine pn_blk ?_
      refine pn_seq ?_
      refine rc_region ?_
      refine mV rfl ?_
      refine bN i_add rfl rfl ?_
      refine mV rfl ?_
      refine rd_nil ?_
      refine pn_again ?_
      have hbd := sl_bound r0
      have hinc : wr (a7 + 1) = a7 + 1 := wr_of (by omega) (by omega)
      erw [hinc]
      exact wC (ih  f1 d7 d6 (by omega) (by omega) (by first | omega | exact LB.mono (by assumption) (by omega) | exact LB.mono (LB.app (by assumption) (by omega) (by omega)) (by omega)) (by first | omega | exact LB.mono (by assumption) (by omega) | exact LB.mono (LB.app (by assumption) (by omega) (by omega)) (by omega)) (Mem.sub e3 (.cons_cons _ (List.Sublist.append_left (List.Sublist.refl _) _))) hres) rfl
    · refine rc_skip ?_
      refine pn_blk ?_
      refine pn_seq ?_
      refine rc_region ?_
      refine mV rfl ?_
      refine bN i_add rfl rfl ?_
      refine mV rfl ?_
      refine rd_nil ?_
      refine pn_again ?_
      have hbd := sl_bound r0
      have hinc : wr (a7 + 1) = a7 + 1 := wr_of (by omega) (by omega)
      erw [hinc]
      exact wC (ih  a3 a5 a4 (by omega) (by omega) (by first | omega | exact LB.mono (by assumption) (by omega) | exact LB.mono (LB.app (by assumption) (by omega) (by omega)) (by omega)) (by first | omega | exact LB.mono (by assumption) (by omega) | exact LB.mono (LB.app (by assumption) (by omega) (by omega)) (by omega)) (Mem.sub M0 (.cons_cons _ (List.Sublist.append_left (List.Sublist.refl _) _))) hres) rfl

theorem ref06_Reverse_L1_ok {S : List Fr} {res : (List (List Int))} {x0 : List (List Int)} {v0 : PV} {b2 b3 : Nat} (r0 : (tSl (tSl tI)).R x0 v0) (hs : Sm x0) (hn : x0.length ≤ 24) (b8 : (List.replicate x0.length ([] : List Int)).length = x0.length) (b9 : (List.replicate x0.length ([] : List Int)).length ≤ 4611686018427387904) {K0 : (List (List Int)) → (List (List Int))}
    (c7 : ∀ {a0 : List (List Int)} {a1 : List PV} {a4 : List Ent} (a5 : Ns tI 3 a0 a1 a4) (a3 : a0.length = x0.length) (a2 : a0.length ≤ 4611686018427387904) {h : Heap} (M0 : Mem h (⟨.os b2 b3 0 x0.length, 31, 1, a1⟩ :: (a4 ++ []))), K0 a0 = res → PX Try.prog 0 S (QR Try.prog [(2, none)] (RF30 res)) [(3, .os b2 b3 0 x0.length)] h) :
    ∀ {m : Nat} {b1 : Int} {a0 : List (List Int)} {a1 : List PV} {a4 : List Ent} (a5 : Ns tI 3 a0 a1 a4) (a3 : a0.length = x0.length) (a2 : a0.length ≤ 4611686018427387904) (c5 : m = Int.toNat ((x0.length : Int) - b1)) (b5 : 0 ≤ b1) (b0 : LB a0 (24 * b1)) {h : Heap} (M0 : Mem h (⟨.os b2 b3 0 x0.length, 31, 1, a1⟩ :: (a4 ++ []))), ref06_Reverse_L1 x0 K0 m b1 a0 = res → RC Try.prog (.loop ac30_L1) S (QR Try.prog [(2, none)] (RF30 res)) [(4, vi b1), (3, .os b2 b3 0 x0.length), (0, v0)] h := by
  intro m
  induction m with
  | zero =>
    intro b1 a0 a1 a4 a5 a3 a2 c5 b5 b0 h M0 hres
    rw [ref06_Reverse_L1] at hres
    refine rc_loop ?_
    refine rc_seq ?_
    refine sR ?_
    refine mV rfl ?_
    refine mV rfl ?_
    refine rd_op (ov_bi rfl (sl_len r0 Try.underlying22 _)) ?_
    refine bN i_lss rfl rfl ?_
    refine nS ?_
    refine rc_cond rfl ?_ ?_ <;> intro c <;> try simp only [qa, qaD] at c
    · omega
    refine rc_exit ?_
    refine px_seq ?_
    refine px_again ?_
    exact wP (c7 a5 a3 a2 (Mem.sub M0 (.cons_cons _ (List.Sublist.append_left (List.Sublist.refl _) _))) hres) rfl
  | succ m ih =>
    intro b1 a0 a1 a4 a5 a3 a2 c5 b5 b0 h M0 hres
    rw [ref06_Reverse_L1] at hres
    refine rc_loop ?_
    refine rc_seq ?_
    refine sR ?_
    refine mV rfl ?_
    refine mV rfl ?_
    refine rd_op (ov_bi rfl (sl_len r0 Try.underlying22 _)) ?_
    refine bN i_lss rfl rfl ?_
    refine nS ?_
    refine rc_cond rfl (fun a6 => ?_) (fun a6 => ?_)
    · have hgo := hres
      have b6 := a6
      try simp only [qa, qaD] at b6
      refine rc_skip ?_
      refine pn_seq ?_
      refine rc_seq ?_
      refine rc_block ?_
      refine sR ?_
      refine mI rfl ?_
      refine nS ?_
      refine rc_block ?_
      refine wC (ref06_Reverse_L2_ok r0 hs hn b8 b9 a3 a2 b5 b0 a6 ?_  a5 a3 a2 rfl (by omega) (by first | omega | exact LB.mono (by assumption) (by omega)) (by first | omega | exact LB.mono (by assumption) (by omega)) (Mem.sub M0 (.cons_cons _ (List.Sublist.append_left (List.Sublist.refl _) _))) hres) rfl
      · intro b4 b7 c2 a9 a8 a7 c3 c6 c4 hres
        refine px_blk ?_
        refine pn_blk ?_
        refine pn_seq ?_
        refine rc_region ?_
        refine mV rfl ?_
        refine bN i_add rfl rfl ?_
        refine mV rfl ?_
        refine rd_nil ?_
        refine pn_again ?_
        have hbd := sl_bound r0
        have hinc : wr (b1 + 1) = b1 + 1 := wr_of (by omega) (by omega)
        erw [hinc]
        exact wC (ih  a9 a8 a7 (by omega) (by omega) (by exact LB.mono (by assumption) (by omega)) (Mem.sub c4 (.cons_cons _ (List.Sublist.append_left (List.Sublist.refl _) _))) hres) rfl
    · exfalso
      try simp only [qa, qaD] at a6
      omega

theorem f30_ok {x0 : List (List Int)} {v0 : PV} (r0 : (tSl (tSl tI)).R x0 v0) (hs : Sm x0) : ∃ r, FnR Try.prog 30 [v0] r ∧ (tSl (tSl tI)).R (ref06_Reverse x0) r := by
  refine fnT (R := RF30) text30 rfl fun res hres => ?_
  unfold ref06_Reverse at hres
  have hn : x0.length ≤ 24 := hs.n
  refine sR ?_
  refine rd_op (v := nilS) (ov_move rfl) ?_
  refine nR ?_
  refine mV rfl ?_
  refine rd_op (ov_bi rfl (sl_len r0 Try.underlying22 _)) ?_
  have b2 : fits (x0.length) 24 = true := fits_of (by first | omega | (have hk := iv2_0 x4_ (by omega) (by omega); first | omega | (simp only [List.length_cons, List.length_nil]; omega))) (by first | omega | (have hk := iv2_0 x4_ (by omega) (by omega); first | omega | (simp only [List.length_cons, List.length_nil]; omega)))
  refine rd_makeO (sz := 1) (ty := 31) (n := x0.length) (zz := nilS) (Mem.nil ⟨0, []⟩) rfl rfl rfl rfl rfl b2 (fun a6 a7 b4 b8 => ?_)
  have b9 : All2 (tSl tI).R (List.replicate x0.length ([] : List Int)) (List.replicate x0.length nilS) := All2.rep (show (tSl tI).R ([] : List Int) nilS from sl_nil) _
  have a2 : (List.replicate x0.length ([] : List Int)).length = x0.length := List.length_replicate
  have a4 : (List.replicate x0.length ([] : List Int)).length ≤ 4611686018427387904 := by rw [a2]; exact fits_len b2
  obtain ⟨a5, b5, b1⟩ : ∃ a5, Ns tI 3 (List.replicate x0.length ([] : List Int)) (List.replicate x0.length nilS) a5 ∧ Mem b4 (⟨.os a6 a7 0 x0.length, 31, 1, (List.replicate x0.length nilS)⟩ :: (a5 ++ [])) := ⟨_, ns_rep _, ns_new (C := [⟨.os a6 a7 0 x0.length, 31, 1, (List.replicate x0.length nilS)⟩]) b8 3 1 _⟩
  refine mV rfl ?_
  refine nS ?_
  refine rc_seq ?_
  refine sR ?_
  refine mI rfl ?_
  refine nS ?_
  refine rc_block ?_
  refine wC (ref06_Reverse_L1_ok r0 hs hn a2 a4 ?_  b5 a2 a4 rfl (by omega) (by exact lb_rep (by omega)) (Mem.sub b1 (.cons_cons _ (List.Sublist.append_left (List.Sublist.refl _) _))) hres) rfl
  · intro a8 a0 b0 a3 a9 a1 c2 b6 hres
    refine px_blk ?_
    refine pn_seq ?_
    refine sR ?_
    refine mV rfl ?_
    refine mV rfl ?_
    refine nS ?_
    obtain ⟨c3, b7, b3⟩ := ns_deep (P := Try.prog) (k := 0) (C := [⟨.os a6 a7 0 x0.length, 31, 1, a0⟩]) b6 rfl rfl a3 (Nat.le_trans a1 (by decide))
    subst hres
    exact rc_retV (.tmp rfl .nil) b7 b3

end Go.Proofs.Ytpdimhpjehfjeaa
