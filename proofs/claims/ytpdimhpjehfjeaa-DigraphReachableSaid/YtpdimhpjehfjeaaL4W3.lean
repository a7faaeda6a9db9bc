/-
  The code of each function does what its plain program says.
-/
import Derived.Test.YtpdimhpjehfjeaaL4W2
set_option linter.unusedVariables false
set_option linter.unusedSimpArgs false
set_option maxRecDepth 100000
namespace Go.Proofs.Ytpdimhpjehfjeaa
open Go Go.Pb Go.RowKit
def RF32 (res : Bool) (r : PV) : Prop := r = vb res
theorem ref06_Edge_L1_ok {S : List Fr} {res : Bool} {x0 : List (List Int)} {x1 x2 : Int} {v0 : PV} (r0 : (tSl (tSl tI)).R x0 v0) (a3 : ((((decide (x1 < 0)) || (decide ((x0.length : Int) ≤ x1))) || (decide (x2 < 0))) || (decide ((x0.length : Int) ≤ x2))) = false) {K0 : Unit → Bool}
    (b3 : K0 () = res → PX Try.prog 0 S (QR Try.prog [(6, none)] (RF32 res)) [] ⟨0, []⟩) :
    ∀ {m : Nat} {a0 : Int} (b0 : m = Int.toNat (((ix x0 x1).length : Int) - a0)) (a6 : 0 ≤ a0), ref06_Edge_L1 x0 x1 x2 K0 m a0 = res → RC Try.prog (.loop ac32_L1) S (QR Try.prog [(6, none)] (RF32 res)) [(7, vi a0), (2, vi x2), (1, vi x1), (0, v0)] ⟨0, []⟩ := by
  have a1 := a3
  try simp only [qa, qaD] at a1
  intro m
  induction m with
  | zero =>
    intro a0 b0 a6 hres
    rw [ref06_Edge_L1] at hres
    refine rc_loop ?_
    refine rc_seq ?_
    refine sR ?_
    refine mV rfl ?_
    refine mV rfl ?_
    refine mV rfl ?_
    obtain ⟨b2, a9, a5⟩ := sl_idx (i := x1) r0 (by omega) (by omega)
    refine rd_op (ov_iaddr rfl rfl a9) ?_
    refine lD a5 rfl rfl rfl ?_
    refine rd_op (ov_bi rfl (sl_len a5 Try.underlying31 _)) ?_
    refine bN i_lss rfl rfl ?_
    refine nS ?_
    refine rc_cond rfl ?_ ?_ <;> intro c <;> try simp only [qa, qaD] at c
    · omega
    refine rc_exit ?_
    refine px_seq ?_
    refine px_again ?_
    exact wP (b3  hres) rfl
  | succ m ih =>
    intro a0 b0 a6 hres
    rw [ref06_Edge_L1] at hres
    refine rc_loop ?_
    refine rc_seq ?_
    refine sR ?_
    refine mV rfl ?_
    refine mV rfl ?_
    refine mV rfl ?_
    obtain ⟨b4, a8, a2⟩ := sl_idx (i := x1) r0 (by omega) (by omega)
    refine rd_op (ov_iaddr rfl rfl a8) ?_
    refine lD a2 rfl rfl rfl ?_
    refine rd_op (ov_bi rfl (sl_len a2 Try.underlying31 _)) ?_
    refine bN i_lss rfl rfl ?_
    refine nS ?_
    refine rc_cond rfl ?_ ?_ <;> intro c <;> try simp only [qa, qaD] at c
    rotate_left
    · omega
    refine rc_skip ?_
    refine pn_seq ?_
    refine rc_seq ?_
    refine rc_block ?_
    refine sR ?_
    refine mV rfl ?_
    refine mV rfl ?_
    obtain ⟨b1, a7, a4⟩ := sl_idx (i := x1) r0 (by omega) (by omega)
    refine rd_op (ov_iaddr rfl rfl a7) ?_
    refine lD a4 rfl rfl rfl ?_
    refine mV rfl ?_
    refine rd_op (ov_iaddr rfl rfl (slI a4 (by omega) (by omega))) ?_
    refine lR rfl rfl rfl ?_
    refine mV rfl ?_
    refine bN i_eql rfl rfl ?_
    refine nS ?_
    refine rc_br hres rfl ?_ ?_ <;> clear hres <;> intro c hres <;> try simp only [qa, qaD] at c
    · refine sR ?_
      refine mB rfl ?_
      refine nS ?_
      exact rR hres rfl rfl rfl
    · refine rc_skip ?_
      refine pn_blk ?_
      refine pn_seq ?_
      refine rc_region ?_
      refine mV rfl ?_
      refine bN i_add rfl rfl ?_
      refine mV rfl ?_
      refine rd_nil ?_
      refine pn_again ?_
      have hbd := sl_bound a2
      have hinc : wr (a0 + 1) = a0 + 1 := wr_of (by omega) (by omega)
      erw [hinc]
      exact wC (ih   (by omega) (by omega) hres) rfl

theorem f32_ok {x0 : List (List Int)} {x1 x2 : Int} {v0 : PV} (r0 : (tSl (tSl tI)).R x0 v0) : FnR Try.prog 32 [v0, vi x1, vi x2] (vb (ref06_Edge x0 x1 x2)) := by
  refine fnS (R := RF32) text32 (fun _ h => h) rfl fun res hres => ?_
  unfold ref06_Edge at hres
  refine sR ?_
  refine mB rfl ?_
  refine nS ?_
  refine rc_seq ?_
  refine sR ?_
  refine mV rfl ?_
  refine bN i_lss rfl rfl ?_
  refine mV rfl ?_
  refine rd_cutn 5 (d := 15) (v := vb ((decide (x1 < 0)) || (decide ((x0.length : Int) ≤ x1)))) ?_ ?_
  · intro S Q r
    cases a7 : (decide (x1 < 0))
    · intro k
      have a4 := a7
      try simp only [qa, qaD] at a4
      refine rd_yes rfl rfl (ov_move rfl) ?_
      refine rd_yes rfl rfl (ov_move rfl) ?_
      refine rd_yes rfl rfl (ov_bi rfl (sl_len r0 Try.underlying22 _)) ?_
      refine rd_yes rfl rfl (ov_bin rfl rfl i_geq) ?_
      exact gK rfl rfl rfl rfl rfl k
    · exact gN 4 rfl rfl rfl rfl rfl rfl
  refine mV rfl ?_
  refine rd_cutn 3 (d := 19) (v := vb (((decide (x1 < 0)) || (decide ((x0.length : Int) ≤ x1))) || (decide (x2 < 0)))) ?_ ?_
  · intro S Q r
    cases a6 : ((decide (x1 < 0)) || (decide ((x0.length : Int) ≤ x1)))
    · intro k
      have a2 := a6
      try simp only [qa, qaD] at a2
      refine rd_yes rfl rfl (ov_move rfl) ?_
      refine rd_yes rfl rfl (ov_bin rfl rfl i_lss) ?_
      exact gK rfl rfl rfl rfl rfl k
    · exact gN 2 rfl rfl rfl rfl rfl rfl
  refine mV rfl ?_
  refine rd_cutn 5 (d := 25) (v := vb ((((decide (x1 < 0)) || (decide ((x0.length : Int) ≤ x1))) || (decide (x2 < 0))) || (decide ((x0.length : Int) ≤ x2)))) ?_ ?_
  · intro S Q r
    cases a5 : (((decide (x1 < 0)) || (decide ((x0.length : Int) ≤ x1))) || (decide (x2 < 0)))
    · intro k
      have a1 := a5
      try simp only [qa, qaD] at a1
      refine rd_yes rfl rfl (ov_move rfl) ?_
      refine rd_yes rfl rfl (ov_move rfl) ?_
      refine rd_yes rfl rfl (ov_bi rfl (sl_len r0 Try.underlying22 _)) ?_
      refine rd_yes rfl rfl (ov_bin rfl rfl i_geq) ?_
      exact gK rfl rfl rfl rfl rfl k
    · exact gN 4 rfl rfl rfl rfl rfl rfl
  refine nS ?_
  refine rc_br hres rfl ?_ ?_ <;> clear hres <;> intro a0 hres <;> have a3 := a0 <;> try simp only [qa, qaD] at a3
  · refine sR ?_
    refine mB rfl ?_
    refine nS ?_
    exact rR hres rfl rfl rfl
  · refine rc_skip ?_
    refine pn_seq ?_
    refine rc_seq ?_
    refine sR ?_
    refine mI rfl ?_
    refine nS ?_
    refine rc_block ?_
    refine wC (ref06_Edge_L1_ok r0 a0 ?_  rfl (by omega) hres) rfl
    · intro  hres
      refine px_blk ?_
      refine pn_seq ?_
      refine sR ?_
      refine mB rfl ?_
      refine nS ?_
      exact rR hres rfl rfl rfl

def RF30 (res : (List (List Int))) (r : PV) : Prop := (tSl (tSl tI)).R res r
theorem ref06_Reverse_L2_ok {S : List Fr} {res : (List (List Int))} {x0 : List (List Int)} {a6 : Int} {b5 : List (List Int)} {v0 : PV} {a8 a9 : Nat} (r0 : (tSl (tSl tI)).R x0 v0) (hs : Sm x0) (hn : x0.length ≤ 24) (f3 : (List.replicate x0.length ([] : List Int)).length = x0.length) (f4 : (List.replicate x0.length ([] : List Int)).length ≤ 4611686018427387904) (e7 : b5.length = x0.length) (f2 : b5.length ≤ 4611686018427387904) (g1 : 0 ≤ a6) (f7 : LB b5 (24 * a6)) (d9 : (decide (a6 < (x0.length : Int))) = true) {K2 : (List (List Int)) → (List (List Int))}
    (f9 : ∀ {a0 : List (List Int)} {a1 : List PV} {a3 : List Ent} (a2 : Ns tI 3 a0 a1 a3) (a5 : a0.length = x0.length) (a4 : a0.length ≤ 4611686018427387904) (g2 : LB a0 (24 * a6 + 24)) {h : Heap} (M0 : Mem h (⟨.os a8 a9 0 x0.length, 31, 1, a1⟩ :: (a3 ++ []))), K2 a0 = res → PX Try.prog 2 S (QR Try.prog [(2, none)] (RF30 res)) [(0, v0), (3, .os a8 a9 0 x0.length), (4, vi a6)] h) :
    ∀ {m : Nat} {a7 : Int} {a0 : List (List Int)} {a1 : List PV} {a3 : List Ent} (a2 : Ns tI 3 a0 a1 a3) (a5 : a0.length = x0.length) (a4 : a0.length ≤ 4611686018427387904) (f5 : m = Int.toNat ((x0.length : Int) - a7)) (d7 : 0 ≤ a7) (b1 : LB a0 (24 * a6 + a7)) (b8 : a7 ≤ (x0.length : Int)) {h : Heap} (M0 : Mem h (⟨.os a8 a9 0 x0.length, 31, 1, a1⟩ :: (a3 ++ []))), ref06_Reverse_L2 x0 a6 K2 m a7 a0 = res → RC Try.prog (.loop ac30_L2) S (QR Try.prog [(2, none)] (RF30 res)) [(5, vi a7), (4, vi a6), (3, .os a8 a9 0 x0.length), (0, v0)] h := by
  have c4 := d9
  try simp only [qa, qaD] at c4
  intro m
  induction m with
  | zero =>
    intro a7 a0 a1 a3 a2 a5 a4 f5 d7 b1 b8 h M0 hres
    rw [ref06_Reverse_L2] at hres
    refine rc_loop ?_
    refine rc_seq ?_
    refine sR ?_
    refine mV rfl ?_
    refine mV rfl ?_
    refine rd_op (ov_bi rfl (sl_len r0 Try.underlying22 _)) ?_
    refine bN i_lss rfl rfl ?_
    refine nS ?_
    refine rc_cond rfl ?_ ?_ <;> intro c <;> try simp only [qa, qaD] at c
    · omega
    refine rc_exit ?_
    refine px_seq ?_
    refine px_again ?_
    exact wP (f9 a2 a5 a4 (by exact LB.mono (by assumption) (by omega)) (Mem.sub M0 (.cons_cons _ (List.Sublist.append_left (List.Sublist.refl _) _))) hres) rfl
  | succ m ih =>
    intro a7 a0 a1 a3 a2 a5 a4 f5 d7 b1 b8 h M0 hres
    rw [ref06_Reverse_L2] at hres
    refine rc_loop ?_
    refine rc_seq ?_
    refine sR ?_
    refine mV rfl ?_
    refine mV rfl ?_
    refine rd_op (ov_bi rfl (sl_len r0 Try.underlying22 _)) ?_
    refine bN i_lss rfl rfl ?_
    refine nS ?_
    refine rc_cond rfl ?_ ?_ <;> intro c <;> try simp only [qa, qaD] at c
    rotate_left
    · omega
    refine rc_skip ?_
    refine pn_seq ?_
    refine rc_seq ?_
    refine rc_block ?_
    refine sR ?_
    refine mV rfl ?_
    refine mV rfl ?_
    refine mV rfl ?_
    obtain ⟨f8, e6, hres⟩ := let_ex hres
    have e2 := f32_ok (x1 := a7) (x2 := a6) r0 
    rw [e6] at e2
    refine cL e2 rfl rfl (clL_cons (TR.clo (tSl (tSl tI)) r0) (clL_cons rfl (clL_cons rfl clL_nil))) ?_
    refine nS ?_
    refine rc_br hres rfl ?_ ?_ <;> clear hres <;> intro c hres <;> try simp only [qa, qaD] at c
    · refine rc_region ?_
      refine mV rfl ?_
      refine mV rfl ?_
      refine mV rfl ?_
      refine mV rfl ?_
      have b4 : 0 ≤ a6 := (by omega)
      have c3 : a6 < (a0.length : Int) := (by omega)
      refine rd_op (ov_iaddr rfl rfl (n_idx 1 b4 (by omega))) ?_
      obtain ⟨f1, b0, e0, e4, d2, e1, f6, d4⟩ := ns_at (i := a6) a2 b4 c3
      have b6 : Mem h (⟨f1, 3, 1, b0⟩ :: ⟨.os a8 a9 0 x0.length, 31, 1, a1⟩ :: ((a3.eraseIdx (a6).toNat) ++ [])) := ns_focus (C := [⟨.os a8 a9 0 x0.length, 31, 1, a1⟩]) M0 e4
      refine rd_op (ov_elem (k := 1) b6 rfl rfl e0 (mem_one (k := 0) b6 rfl e1).2) ?_
      refine mV rfl ?_
      refine rd_op (v := .fs true [vi a7]) (ov_bslice rfl (all_cons rfl all_nil)) ?_
      have f0 : (tSl tI).R ([a7] : List Int) (.fs true [vi a7]) := sl_fs ⟨rfl, trivial⟩ (by simp)
      obtain ⟨b2, d5, b9⟩ := src_of (t := tI) (h := h) f0
      have e3 : fits (b0.length + b2.length) 8 = true := by rw [All2.length_eq d2, All2.length_eq b9]; (try simp only [List.length_cons, List.length_nil]); exact fits_of (by first | omega | (have hk := b1 a6 (by omega) (by omega); first | omega | (simp only [List.length_cons, List.length_nil]; omega))) (by first | omega | (have hk := b1 a6 (by omega) (by omega); first | omega | (simp only [List.length_cons, List.length_nil]; omega)))
      refine rd_appW (k := 0) (es := b0) (news := b2) b6 rfl rfl rfl e1 d4 d5 e3 (fun b7 g0 d8 d6 c9 => ?_)
      have d1 : All2 tI.R ((ix a0 a6) ++ ([a7] : List Int)) (b0 ++ b2) := All2.app d2 b9
      have c8 : ((ix a0 a6) ++ ([a7] : List Int)).length ≤ 4611686018427387904 := by rw [← All2.length_eq d1, List.length_append]; exact fits_len e3
      have c6 : 0 ≤ a6 := (by omega)
      have e8 : a6 < (a0.length : Int) := (by omega)
      refine rd_op (ov_iaddr rfl rfl (n_idx 1 c6 (by omega))) ?_
      refine rd_setO (k := 1) (v := b7) c9 rfl rfl rfl (by rw [(Ns.len a2).1]; omega) (mem_cnt1 (k := 0) c9 rfl d8) (fun e5 c2 => ?_)
      replace c2 : Mem e5 (⟨b7, 3, 1, (b0 ++ b2)⟩ :: ⟨.os a8 a9 0 x0.length, 31, 1, (a1.set (a6).toNat b7)⟩ :: ((a3.eraseIdx (a6).toNat) ++ [])) := c2
      obtain ⟨b3, c5, e9, d0⟩ : ∃ b3 c5, Ns tI 3 (a0.set (a6).toNat ((ix a0 a6) ++ ([a7] : List Int))) b3 c5 ∧ Mem e5 (⟨.os a8 a9 0 x0.length, 31, 1, b3⟩ :: (c5 ++ [])) := ⟨_, _, ns_put a2  d1 d8 c8 d6, ns_back (C := [⟨.os a8 a9 0 x0.length, 31, 1, (a1.set (a6).toNat b7)⟩]) c2 (by rw [(Ns.len a2).2]; omega)⟩
      have d3 : (a0.set (a6).toNat ((ix a0 a6) ++ ([a7] : List Int))).length = x0.length := by rw [List.length_set]; exact a5
      have c7 : (a0.set (a6).toNat ((ix a0 a6) ++ ([a7] : List Int))).length ≤ 4611686018427387904 := by rw [List.length_set]; exact a4
      refine rd_nil ?_
      refine pn_blk ?_
      refine pn_seq ?_
      refine rc_region ?_
      refine mV rfl ?_
      refine bN i_add rfl rfl ?_
      refine mV rfl ?_
      refine rd_nil ?_
      refine pn_again ?_
      have hbd := sl_bound r0
      have hinc : wr (a7 + 1) = a7 + 1 := wr_of (by omega) (by omega)
      erw [hinc]
      exact wC (ih  e9 d3 c7 (by omega) (by omega) (by first | omega | exact LB.mono (by assumption) (by omega) | exact LB.mono (LB.app (by assumption) (by omega) (by omega)) (by omega)) (by first | omega | exact LB.mono (by assumption) (by omega) | exact LB.mono (LB.app (by assumption) (by omega) (by omega)) (by omega)) (Mem.sub d0 (.cons_cons _ (List.Sublist.append_left (List.Sublist.refl _) _))) hres) rfl
    · refine rc_skip ?_
      refine pn_blk ?_
      refine pn_seq ?_
      refine rc_region ?_
      refine mV rfl ?_
      refine bN i_add rfl rfl ?_
      refine mV rfl ?_
      refine rd_nil ?_
      refine pn_again ?_
      have hbd := sl_bound r0
      have hinc : wr (a7 + 1) = a7 + 1 := wr_of (by omega) (by omega)
      erw [hinc]
      exact wC (ih  a2 a5 a4 (by omega) (by omega) (by first | omega | exact LB.mono (by assumption) (by omega) | exact LB.mono (LB.app (by assumption) (by omega) (by omega)) (by omega)) (by first | omega | exact LB.mono (by assumption) (by omega) | exact LB.mono (LB.app (by assumption) (by omega) (by omega)) (by omega)) (Mem.sub M0 (.cons_cons _ (List.Sublist.append_left (List.Sublist.refl _) _))) hres) rfl

theorem ref06_Reverse_L1_ok {S : List Fr} {res : (List (List Int))} {x0 : List (List Int)} {v0 : PV} {b2 b3 : Nat} (r0 : (tSl (tSl tI)).R x0 v0) (hs : Sm x0) (hn : x0.length ≤ 24) (b9 : (List.replicate x0.length ([] : List Int)).length = x0.length) (c2 : (List.replicate x0.length ([] : List Int)).length ≤ 4611686018427387904) {K0 : (List (List Int)) → (List (List Int))}
    (c7 : ∀ {a0 : List (List Int)} {a1 : List PV} {a4 : List Ent} (a5 : Ns tI 3 a0 a1 a4) (a3 : a0.length = x0.length) (a2 : a0.length ≤ 4611686018427387904) {h : Heap} (M0 : Mem h (⟨.os b2 b3 0 x0.length, 31, 1, a1⟩ :: (a4 ++ []))), K0 a0 = res → PX Try.prog 0 S (QR Try.prog [(2, none)] (RF30 res)) [(3, .os b2 b3 0 x0.length)] h) :
    ∀ {m : Nat} {b1 : Int} {a0 : List (List Int)} {a1 : List PV} {a4 : List Ent} (a5 : Ns tI 3 a0 a1 a4) (a3 : a0.length = x0.length) (a2 : a0.length ≤ 4611686018427387904) (c5 : m = Int.toNat ((x0.length : Int) - b1)) (b5 : 0 ≤ b1) (a9 : LB a0 (24 * b1)) {h : Heap} (M0 : Mem h (⟨.os b2 b3 0 x0.length, 31, 1, a1⟩ :: (a4 ++ []))), ref06_Reverse_L1 x0 K0 m b1 a0 = res → RC Try.prog (.loop ac30_L1) S (QR Try.prog [(2, none)] (RF30 res)) [(4, vi b1), (3, .os b2 b3 0 x0.length), (0, v0)] h := by
  intro m
  induction m with
  | zero =>
    intro b1 a0 a1 a4 a5 a3 a2 c5 b5 a9 h M0 hres
    rw [ref06_Reverse_L1] at hres
    refine rc_loop ?_
    refine rc_seq ?_
    refine sR ?_
    refine mV rfl ?_
    refine mV rfl ?_
    refine rd_op (ov_bi rfl (sl_len r0 Try.underlying22 _)) ?_
    refine bN i_lss rfl rfl ?_
    refine nS ?_
    refine rc_cond rfl ?_ ?_ <;> intro c <;> try simp only [qa, qaD] at c
    · omega
    refine rc_exit ?_
    refine px_seq ?_
    refine px_again ?_
    exact wP (c7 a5 a3 a2 (Mem.sub M0 (.cons_cons _ (List.Sublist.append_left (List.Sublist.refl _) _))) hres) rfl
  | succ m ih =>
    intro b1 a0 a1 a4 a5 a3 a2 c5 b5 a9 h M0 hres
    rw [ref06_Reverse_L1] at hres
    refine rc_loop ?_
    refine rc_seq ?_
    refine sR ?_
    refine mV rfl ?_
    refine mV rfl ?_
    refine rd_op (ov_bi rfl (sl_len r0 Try.underlying22 _)) ?_
    refine bN i_lss rfl rfl ?_
    refine nS ?_
    refine rc_cond rfl (fun a6 => ?_) (fun a6 => ?_)
    · have hgo := hres
      have b6 := a6
      try simp only [qa, qaD] at b6
      refine rc_skip ?_
      refine pn_seq ?_
      refine rc_seq ?_
      refine rc_block ?_
      refine sR ?_
      refine mI rfl ?_
      refine nS ?_
      refine rc_block ?_
      refine wC (ref06_Reverse_L2_ok r0 hs hn b9 c2 a3 a2 b5 a9 a6 ?_  a5 a3 a2 rfl (by omega) (by first | omega | exact LB.mono (by assumption) (by omega)) (by first | omega | exact LB.mono (by assumption) (by omega)) (Mem.sub M0 (.cons_cons _ (List.Sublist.append_left (List.Sublist.refl _) _))) hres) rfl
      · intro b4 b7 b8 b0 a7 a8 c3 c6 c4 hres
        refine px_blk ?_
        refine pn_blk ?_
        refine pn_seq ?_
        refine rc_region ?_
        refine mV rfl ?_
        refine bN i_add rfl rfl ?_
        refine mV rfl ?_
        refine rd_nil ?_
        refine pn_again ?_
        have hbd := sl_bound r0
        have hinc : wr (b1 + 1) = b1 + 1 := wr_of (by omega) (by omega)
        erw [hinc]
        exact wC (ih  b0 a7 a8 (by omega) (by omega) (by exact LB.mono (by assumption) (by omega)) (Mem.sub c4 (.cons_cons _ (List.Sublist.append_left (List.Sublist.refl _) _))) hres) rfl
    · exfalso
      try simp only [qa, qaD] at a6
      omega

theorem f30_ok {x0 : List (List Int)} {v0 : PV} (r0 : (tSl (tSl tI)).R x0 v0) (hs : Sm x0) : ∃ r, FnR Try.prog 30 [v0] r ∧ (tSl (tSl tI)).R (ref06_Reverse x0) r := by
  refine fnT (R := RF30) text30 rfl fun res hres => ?_
  unfold ref06_Reverse at hres
  have hn : x0.length ≤ 24 := hs.n
  refine sR ?_
  refine rd_op (v := nilS) (ov_move rfl) ?_
  refine nR ?_
  refine mV rfl ?_
  refine rd_op (ov_bi rfl (sl_len r0 Try.underlying22 _)) ?_
  have b0 : fits (x0.length) 24 = true := fits_of (by first | omega | (have hk := iv2_0 x4_ (by omega) (by omega); first | omega | (simp only [List.length_cons, List.length_nil]; omega))) (by first | omega | (have hk := iv2_0 x4_ (by omega) (by omega); first | omega | (simp only [List.length_cons, List.length_nil]; omega)))
  refine rd_makeO (sz := 1) (ty := 31) (n := x0.length) (zz := nilS) (Mem.nil ⟨0, []⟩) rfl rfl rfl rfl rfl b0 (fun a5 a7 b4 b8 => ?_)
  have c3 : All2 (tSl tI).R (List.replicate x0.length ([] : List Int)) (List.replicate x0.length nilS) := All2.rep (show (tSl tI).R ([] : List Int) nilS from sl_nil) _
  have a2 : (List.replicate x0.length ([] : List Int)).length = x0.length := List.length_replicate
  have a4 : (List.replicate x0.length ([] : List Int)).length ≤ 4611686018427387904 := by rw [a2]; exact fits_len b0
  obtain ⟨a6, b6, b2⟩ : ∃ a6, Ns tI 3 (List.replicate x0.length ([] : List Int)) (List.replicate x0.length nilS) a6 ∧ Mem b4 (⟨.os a5 a7 0 x0.length, 31, 1, (List.replicate x0.length nilS)⟩ :: (a6 ++ [])) := ⟨_, ns_rep _, ns_new (C := [⟨.os a5 a7 0 x0.length, 31, 1, (List.replicate x0.length nilS)⟩]) b8 3 1 _⟩
  refine mV rfl ?_
  refine nS ?_
  refine rc_seq ?_
  refine sR ?_
  refine mI rfl ?_
  refine nS ?_
  refine rc_block ?_
  refine wC (ref06_Reverse_L1_ok r0 hs hn a2 a4 ?_  b6 a2 a4 rfl (by omega) (by exact lb_rep (by omega)) (Mem.sub b2 (.cons_cons _ (List.Sublist.append_left (List.Sublist.refl _) _))) hres) rfl
  · intro a9 a0 b1 a3 a8 a1 c2 b7 hres
    refine px_blk ?_
    refine pn_seq ?_
    refine sR ?_
    refine mV rfl ?_
    refine mV rfl ?_
    refine nS ?_
    obtain ⟨b9, b3, b5⟩ := ns_deep (P := Try.prog) (k := 0) (C := [⟨.os a5 a7 0 x0.length, 31, 1, a0⟩]) b7 rfl rfl a3 (Nat.le_trans a1 (by decide))
    subst hres
    exact rc_retV (.tmp rfl .nil) b3 b5

def RF35 (res : (List Int)) (r : PV) : Prop := (tSl tI).R res r
theorem ref06_distances_L1_ok {S : List Fr} {res : (List Int)} {x0 : List (List Int)} {x1 : Int} {v0 : PV} {a6 a7 : Nat} (r0 : (tSl (tSl tI)).R x0 v0) (hn : x0.length ≤ 1000) (b5 : (List.replicate x0.length (0 : Int)).length = x0.length) (b6 : (List.replicate x0.length (0 : Int)).length ≤ 4611686018427387904) {K0 : (List Int) → (List Int)}
    (b8 : ∀ {a0 : List Int} {a1 : List PV} (a4 : All2 tI.R a0 a1) (a3 : a0.length = x0.length) (a2 : a0.length ≤ 4611686018427387904) {h : Heap} (M0 : Mem h [⟨.os a6 a7 0 x0.length, 3, 1, a1⟩]), K0 a0 = res → PX Try.prog 0 S (QR Try.prog [(4, none)] (RF35 res)) [(0, v0), (1, vi x1), (5, .os a6 a7 0 x0.length)] h) :
    ∀ {m : Nat} {a5 : Int} {a0 : List Int} {a1 : List PV} (a4 : All2 tI.R a0 a1) (a3 : a0.length = x0.length) (a2 : a0.length ≤ 4611686018427387904) (b7 : m = Int.toNat ((x0.length : Int) - a5)) (b0 : 0 ≤ a5) {h : Heap} (M0 : Mem h [⟨.os a6 a7 0 x0.length, 3, 1, a1⟩]), ref06_distances_L1 K0 m a5 a0 = res → RC Try.prog (.loop ac35_L1) S (QR Try.prog [(4, none)] (RF35 res)) [(6, vi a5), (5, .os a6 a7 0 x0.length), (1, vi x1), (0, v0)] h := by
  intro m
  induction m with
  | zero =>
    intro a5 a0 a1 a4 a3 a2 b7 b0 h M0 hres
    rw [ref06_distances_L1] at hres
    refine rc_loop ?_
    refine rc_seq ?_
    refine sR ?_
    refine mV rfl ?_
    refine mV rfl ?_
    refine rd_op (ov_bi rfl (sl_len r0 Try.underlying22 _)) ?_
    refine bN i_lss rfl rfl ?_
    refine nS ?_
    refine rc_cond rfl ?_ ?_ <;> intro c <;> try simp only [qa, qaD] at c
    · omega
    refine rc_exit ?_
    refine px_seq ?_
    refine px_again ?_
    exact wP (b8 a4 a3 a2 (Mem.sub M0 (.cons_cons _ .slnil)) hres) rfl
  | succ m ih =>
    intro a5 a0 a1 a4 a3 a2 b7 b0 h M0 hres
    rw [ref06_distances_L1] at hres
    refine rc_loop ?_
    refine rc_seq ?_
    refine sR ?_
    refine mV rfl ?_
    refine mV rfl ?_
    refine rd_op (ov_bi rfl (sl_len r0 Try.underlying22 _)) ?_
    refine bN i_lss rfl rfl ?_
    refine nS ?_
    refine rc_cond rfl ?_ ?_ <;> intro c <;> try simp only [qa, qaD] at c
    rotate_left
    · omega
    refine rc_skip ?_
    refine pn_seq ?_
    refine rc_seq ?_
    refine rc_block ?_
    refine rc_region ?_
    refine mV rfl ?_
    refine mV rfl ?_
    have a8 : 0 ≤ a5 := (by omega)
    have b3 : a5 < (a0.length : Int) := (by omega)
    refine rd_op (ov_iaddr rfl rfl (n_idx 1 a8 (by omega))) ?_
    refine rd_setO (k := 0) (v := vi (-1)) M0 rfl rfl rfl (by rw [All2.length_eq a4]; omega) rfl (fun b9 b4 => ?_)
    have b2 := All2.set (i := (a5).toNat) a4 (show tI.R (-1) (vi (-1)) from rfl)
    have b1 : (a0.set (a5).toNat (-1)).length ≤ 4611686018427387904 := by simp only [List.length_set]; exact a2
    have a9 : (a0.set (a5).toNat (-1)).length = x0.length := by simp only [List.length_set]; exact a3
    refine rd_nil ?_
    refine pn_blk ?_
    refine pn_seq ?_
    refine rc_region ?_
    refine mV rfl ?_
    refine bN i_add rfl rfl ?_
    refine mV rfl ?_
    refine rd_nil ?_
    refine pn_again ?_
    have hbd := sl_bound r0
    have hinc : wr (a5 + 1) = a5 + 1 := wr_of (by omega) (by omega)
    erw [hinc]
    exact wC (ih  b2 a9 b1 (by omega) (by omega) (Mem.sub b4 (.cons_cons _ .slnil)) hres) rfl

theorem ref06_distances_L4_ok {S : List Fr} {res : (List Int)} {x0 : List (List Int)} {x1 : Int} {a5 : List Int} {a9 : Int} {b5 : List Int} {a7 : Int} {a8 : List Int} {v0 : PV} {b3 b4 : Nat} (r0 : (tSl (tSl tI)).R x0 v0) (hn : x0.length ≤ 1000) (f9 : (List.replicate x0.length (0 : Int)).length = x0.length) (g1 : (List.replicate x0.length (0 : Int)).length ≤ 4611686018427387904) (d2 : a5.length = x0.length) (d1 : a5.length ≤ 4611686018427387904) (d6 : ((decide (x1 < 0)) || (decide ((x0.length : Int) ≤ x1))) = false) (f3 : 0 ≤ x1) (f6 : x1 < (a5.length : Int)) (g2 : (a5.set (x1).toNat 0).length ≤ 4611686018427387904) (g0 : (a5.set (x1).toNat 0).length = x0.length) (e7 : b5.length = x0.length) (f4 : b5.length ≤ 4611686018427387904) (g5 : 0 ≤ a9) (e0 : (decide (a9 < (x0.length : Int))) = true) (d7 : a8.length = x0.length) (e2 : a8.length ≤ 4611686018427387904) (g4 : 0 ≤ a7) (e1 : (decide (a7 < (x0.length : Int))) = true) {K6 : (List Int) → (List Int)}
    (f8 : ∀ {a0 : List Int} {a3 : List PV} (a1 : All2 tI.R a0 a3) (a2 : a0.length = x0.length) (a4 : a0.length ≤ 4611686018427387904) {h : Heap} (M0 : Mem h [⟨.os b3 b4 0 x0.length, 3, 1, a3⟩]), K6 a0 = res → PX Try.prog 6 S (QR Try.prog [(4, none)] (RF35 res)) [(0, v0), (5, .os b3 b4 0 x0.length), (7, vi a9), (8, vi a7)] h) :
    ∀ {m : Nat} {a6 : Int} {a0 : List Int} {a3 : List PV} (a1 : All2 tI.R a0 a3) (a2 : a0.length = x0.length) (a4 : a0.length ≤ 4611686018427387904) (g3 : m = Int.toNat ((x0.length : Int) - a6)) (d4 : 0 ≤ a6) {h : Heap} (M0 : Mem h [⟨.os b3 b4 0 x0.length, 3, 1, a3⟩]), ref06_distances_L4 x0 a9 a7 K6 m a6 a0 = res → RC Try.prog (.loop ac35_L4) S (QR Try.prog [(4, none)] (RF35 res)) [(9, vi a6), (8, vi a7), (7, vi a9), (5, .os b3 b4 0 x0.length), (0, v0)] h := by
  have d0 := d6
  try simp only [qa, qaD] at d0
  have b7 := e0
  try simp only [qa, qaD] at b7
  have c7 := e1
  try simp only [qa, qaD] at c7
  intro m
  induction m with
  | zero =>
    intro a6 a0 a3 a1 a2 a4 g3 d4 h M0 hres
    rw [ref06_distances_L4] at hres
    refine rc_loop ?_
    refine rc_seq ?_
    refine sR ?_
    refine mV rfl ?_
    refine mV rfl ?_
    refine rd_op (ov_bi rfl (sl_len r0 Try.underlying22 _)) ?_
    refine bN i_lss rfl rfl ?_
    refine mV rfl ?_
    refine rd_cutn 6 (d := 56) (v := vb ((decide (a6 < (x0.length : Int))) && (decide ((ix a0 a7) < 0)))) ?_ ?_
    · intro S Q r
      cases d8 : (decide (a6 < (x0.length : Int)))
      · exact gN 5 rfl rfl rfl rfl rfl rfl
      · intro k
        have c2 := d8
        try simp only [qa, qaD] at c2
        refine rd_yes rfl rfl (ov_move rfl) ?_
        refine rd_yes rfl rfl (ov_move rfl) ?_
        have b0 : 0 ≤ a7 := (by omega)
        have b8 : a7 < (a0.length : Int) := (by omega)
        refine rd_yes rfl rfl (ov_iaddr rfl rfl (n_idx 1 b0 (by omega))) ?_
        obtain ⟨f1, e4, b9⟩ := elem_at (i := a7) a1 b0 b8
        have b9 : f1 = vi (ix a0 a7) := b9; subst b9
        refine rd_yes rfl rfl (ov_elem (k := 0) M0 rfl rfl e4 rfl) ?_
        refine rd_yes rfl rfl (ov_bin rfl rfl i_lss) ?_
        exact gK rfl rfl rfl rfl rfl k
    refine nS ?_
    refine rc_cond rfl ?_ ?_ <;> intro c <;> try simp only [qa, qaD] at c
    · omega
    refine rc_exit ?_
    refine px_seq ?_
    refine px_again ?_
    exact wP (f8 a1 a2 a4 (Mem.sub M0 (.cons_cons _ .slnil)) hres) rfl
  | succ m ih =>
    intro a6 a0 a3 a1 a2 a4 g3 d4 h M0 hres
    rw [ref06_distances_L4] at hres
    refine rc_loop ?_
    refine rc_seq ?_
    refine sR ?_
    refine mV rfl ?_
    refine mV rfl ?_
    refine rd_op (ov_bi rfl (sl_len r0 Try.underlying22 _)) ?_
    refine bN i_lss rfl rfl ?_
    refine mV rfl ?_
    refine rd_cutn 6 (d := 56) (v := vb ((decide (a6 < (x0.length : Int))) && (decide ((ix a0 a7) < 0)))) ?_ ?_
    · intro S Q r
      cases d9 : (decide (a6 < (x0.length : Int)))
      · exact gN 5 rfl rfl rfl rfl rfl rfl
      · intro k
        have c4 := d9
        try simp only [qa, qaD] at c4
        refine rd_yes rfl rfl (ov_move rfl) ?_
        refine rd_yes rfl rfl (ov_move rfl) ?_
        have b2 : 0 ≤ a7 := (by omega)
        have c9 : a7 < (a0.length : Int) := (by omega)
        refine rd_yes rfl rfl (ov_iaddr rfl rfl (n_idx 1 b2 (by omega))) ?_
        obtain ⟨f2, e5, c5⟩ := elem_at (i := a7) a1 b2 c9
        have c5 : f2 = vi (ix a0 a7) := c5; subst c5
        refine rd_yes rfl rfl (ov_elem (k := 0) M0 rfl rfl e5 rfl) ?_
        refine rd_yes rfl rfl (ov_bin rfl rfl i_lss) ?_
        exact gK rfl rfl rfl rfl rfl k
    refine nS ?_
    refine rc_br hres rfl ?_ ?_ <;> clear hres <;> intro c hres <;> try simp only [qa, qaD] at c
    · refine rc_skip ?_
      refine pn_seq ?_
      refine rc_seq ?_
      refine rc_block ?_
      refine sR ?_
      refine mV rfl ?_
      refine mV rfl ?_
      have b1 : 0 ≤ a6 := (by omega)
      have c3 : a6 < (a0.length : Int) := (by omega)
      refine rd_op (ov_iaddr rfl rfl (n_idx 1 b1 (by omega))) ?_
      obtain ⟨e6, e8, c8⟩ := elem_at (i := a6) a1 b1 c3
      have c8 : e6 = vi (ix a0 a6) := c8; subst c8
      refine rd_op (ov_elem (k := 0) M0 rfl rfl e8 rfl) ?_
      refine mV rfl ?_
      refine bN i_eql rfl rfl ?_
      refine mV rfl ?_
      refine rd_cutn 5 (d := 70) (v := vb ((decide ((ix a0 a6) = a9)) && (ref06_Edge x0 a7 a6))) ?_ ?_
      · intro S Q r
        cases d3 : (decide ((ix a0 a6) = a9))
        · exact gN 4 rfl rfl rfl rfl rfl rfl
        · intro k
          have b6 := d3
          try simp only [qa, qaD] at b6
          refine rd_yes rfl rfl (ov_move rfl) ?_
          refine rd_yes rfl rfl (ov_move rfl) ?_
          refine rd_yes rfl rfl (ov_move rfl) ?_
          have f0 := f32_ok (x1 := a7) (x2 := a6) r0 
          refine rd_ycall rfl rfl (cv_fn rfl rfl (clL_cons (TR.clo (tSl (tSl tI)) r0) (clL_cons rfl (clL_cons rfl clL_nil))) f0) ?_
          exact gK rfl rfl rfl rfl rfl k
      refine nS ?_
      refine rc_br hres rfl ?_ ?_ <;> clear hres <;> intro c hres <;> try simp only [qa, qaD] at c
      · refine rc_region ?_
        refine mV rfl ?_
        refine mV rfl ?_
        refine mV rfl ?_
        refine bN i_add rfl rfl ?_
        have c6 : 0 ≤ a7 := (by omega)
        have f5 : a7 < (a0.length : Int) := (by omega)
        refine rd_op (ov_iaddr rfl rfl (n_idx 1 c6 (by omega))) ?_
        refine rd_setO (k := 0) (v := vi (wr (a9 + 1))) M0 rfl rfl rfl (by rw [All2.length_eq a1]; omega) rfl (fun g6 e9 => ?_)
        have f7 := All2.set (i := (a7).toNat) a1 (show tI.R (wr (a9 + 1)) (vi (wr (a9 + 1))) from rfl)
        have e3 : (a0.set (a7).toNat (wr (a9 + 1))).length ≤ 4611686018427387904 := by simp only [List.length_set]; exact a4
        have d5 : (a0.set (a7).toNat (wr (a9 + 1))).length = x0.length := by simp only [List.length_set]; exact a2
        refine rd_nil ?_
        refine pn_blk ?_
        refine pn_seq ?_
        refine rc_region ?_
        refine mV rfl ?_
        refine bN i_add rfl rfl ?_
        refine mV rfl ?_
        refine rd_nil ?_
        refine pn_again ?_
        have hbd := sl_bound r0
        have hinc : wr (a6 + 1) = a6 + 1 := wr_of (by omega) (by omega)
        erw [hinc]
        exact wC (ih  f7 d5 e3 (by omega) (by omega) (Mem.sub e9 (.cons_cons _ .slnil)) hres) rfl
      · refine rc_skip ?_
        refine pn_blk ?_
        refine pn_seq ?_
        refine rc_region ?_
        refine mV rfl ?_
        refine bN i_add rfl rfl ?_
        refine mV rfl ?_
        refine rd_nil ?_
        refine pn_again ?_
        have hbd := sl_bound r0
        have hinc : wr (a6 + 1) = a6 + 1 := wr_of (by omega) (by omega)
        erw [hinc]
        exact wC (ih  a1 a2 a4 (by omega) (by omega) (Mem.sub M0 (.cons_cons _ .slnil)) hres) rfl
    · refine rc_exit ?_
      refine px_seq ?_
      refine px_again ?_
      exact wP (f8 a1 a2 a4 (Mem.sub M0 (.cons_cons _ .slnil)) hres) rfl

theorem ref06_distances_L3_ok {S : List Fr} {res : (List Int)} {x0 : List (List Int)} {x1 : Int} {a2 : List Int} {d3 : Int} {b5 : List Int} {v0 : PV} {b2 b3 : Nat} (r0 : (tSl (tSl tI)).R x0 v0) (hn : x0.length ≤ 1000) (d2 : (List.replicate x0.length (0 : Int)).length = x0.length) (d4 : (List.replicate x0.length (0 : Int)).length ≤ 4611686018427387904) (a9 : a2.length = x0.length) (b0 : a2.length ≤ 4611686018427387904) (b7 : ((decide (x1 < 0)) || (decide ((x0.length : Int) ≤ x1))) = false) (c5 : 0 ≤ x1) (c6 : x1 < (a2.length : Int)) (d0 : (a2.set (x1).toNat 0).length ≤ 4611686018427387904) (d1 : (a2.set (x1).toNat 0).length = x0.length) (c2 : b5.length = x0.length) (b9 : b5.length ≤ 4611686018427387904) (d5 : 0 ≤ d3) (b6 : (decide (d3 < (x0.length : Int))) = true) {K4 : (List Int) → (List Int)}
    (d8 : ∀ {a0 : List Int} {a1 : List PV} (a5 : All2 tI.R a0 a1) (a3 : a0.length = x0.length) (a4 : a0.length ≤ 4611686018427387904) {h : Heap} (M0 : Mem h [⟨.os b2 b3 0 x0.length, 3, 1, a1⟩]), K4 a0 = res → PX Try.prog 4 S (QR Try.prog [(4, none)] (RF35 res)) [(0, v0), (5, .os b2 b3 0 x0.length), (7, vi d3)] h) :
    ∀ {m : Nat} {b4 : Int} {a0 : List Int} {a1 : List PV} (a5 : All2 tI.R a0 a1) (a3 : a0.length = x0.length) (a4 : a0.length ≤ 4611686018427387904) (d7 : m = Int.toNat ((x0.length : Int) - b4)) (c7 : 0 ≤ b4) {h : Heap} (M0 : Mem h [⟨.os b2 b3 0 x0.length, 3, 1, a1⟩]), ref06_distances_L3 x0 d3 K4 m b4 a0 = res → RC Try.prog (.loop ac35_L3) S (QR Try.prog [(4, none)] (RF35 res)) [(8, vi b4), (7, vi d3), (5, .os b2 b3 0 x0.length), (0, v0)] h := by
  have c4 := b7
  try simp only [qa, qaD] at c4
  have c8 := b6
  try simp only [qa, qaD] at c8
  intro m
  induction m with
  | zero =>
    intro b4 a0 a1 a5 a3 a4 d7 c7 h M0 hres
    rw [ref06_distances_L3] at hres
    refine rc_loop ?_
    refine rc_seq ?_
    refine sR ?_
    refine mV rfl ?_
    refine mV rfl ?_
    refine rd_op (ov_bi rfl (sl_len r0 Try.underlying22 _)) ?_
    refine bN i_lss rfl rfl ?_
    refine nS ?_
    refine rc_cond rfl ?_ ?_ <;> intro c <;> try simp only [qa, qaD] at c
    · omega
    refine rc_exit ?_
    refine px_seq ?_
    refine px_again ?_
    exact wP (d8 a5 a3 a4 (Mem.sub M0 (.cons_cons _ .slnil)) hres) rfl
  | succ m ih =>
    intro b4 a0 a1 a5 a3 a4 d7 c7 h M0 hres
    rw [ref06_distances_L3] at hres
    refine rc_loop ?_
    refine rc_seq ?_
    refine sR ?_
    refine mV rfl ?_
    refine mV rfl ?_
    refine rd_op (ov_bi rfl (sl_len r0 Try.underlying22 _)) ?_
    refine bN i_lss rfl rfl ?_
    refine nS ?_
    refine rc_cond rfl (fun a6 => ?_) (fun a6 => ?_)
    · have hgo := hres
      have c3 := a6
      try simp only [qa, qaD] at c3
      refine rc_skip ?_
      refine pn_seq ?_
      refine rc_seq ?_
      refine rc_block ?_
      refine sR ?_
      refine mI rfl ?_
      refine nS ?_
      refine rc_block ?_
      refine wC (ref06_distances_L4_ok r0 hn d2 d4 a9 b0 b7 c5 c6 d0 d1 c2 b9 d5 b6 a3 a4 c7 a6 ?_  a5 a3 a4 rfl (by omega) (Mem.sub M0 (.cons_cons _ .slnil)) hres) rfl
      · intro b8 c9 b1 a8 a7 d9 d6 hres
        refine px_blk ?_
        refine pn_blk ?_
        refine pn_seq ?_
        refine rc_region ?_
        refine mV rfl ?_
        refine bN i_add rfl rfl ?_
        refine mV rfl ?_
        refine rd_nil ?_
        refine pn_again ?_
        have hbd := sl_bound r0
        have hinc : wr (b4 + 1) = b4 + 1 := wr_of (by omega) (by omega)
        erw [hinc]
        exact wC (ih  b1 a8 a7 (by omega) (by omega) (Mem.sub d6 (.cons_cons _ .slnil)) hres) rfl
    · exfalso
      try simp only [qa, qaD] at a6
      omega

theorem ref06_distances_L2_ok {S : List Fr} {res : (List Int)} {x0 : List (List Int)} {x1 : Int} {a0 : List Int} {v0 : PV} {b2 b3 : Nat} (r0 : (tSl (tSl tI)).R x0 v0) (hn : x0.length ≤ 1000) (c7 : (List.replicate x0.length (0 : Int)).length = x0.length) (c8 : (List.replicate x0.length (0 : Int)).length ≤ 4611686018427387904) (a9 : a0.length = x0.length) (b0 : a0.length ≤ 4611686018427387904) (b6 : ((decide (x1 < 0)) || (decide ((x0.length : Int) ≤ x1))) = false) (b9 : 0 ≤ x1) (c2 : x1 < (a0.length : Int)) (c5 : (a0.set (x1).toNat 0).length ≤ 4611686018427387904) (c6 : (a0.set (x1).toNat 0).length = x0.length) {K2 : (List Int) → (List Int)}
    (d1 : ∀ {a1 : List Int} {a2 : List PV} (a5 : All2 tI.R a1 a2) (a4 : a1.length = x0.length) (a3 : a1.length ≤ 4611686018427387904) {h : Heap} (M0 : Mem h [⟨.os b2 b3 0 x0.length, 3, 1, a2⟩]), K2 a1 = res → PX Try.prog 2 S (QR Try.prog [(4, none)] (RF35 res)) [(5, .os b2 b3 0 x0.length)] h) :
    ∀ {m : Nat} {b5 : Int} {a1 : List Int} {a2 : List PV} (a5 : All2 tI.R a1 a2) (a4 : a1.length = x0.length) (a3 : a1.length ≤ 4611686018427387904) (d0 : m = Int.toNat ((x0.length : Int) - b5)) (b8 : 0 ≤ b5) {h : Heap} (M0 : Mem h [⟨.os b2 b3 0 x0.length, 3, 1, a2⟩]), ref06_distances_L2 x0 K2 m b5 a1 = res → RC Try.prog (.loop ac35_L2) S (QR Try.prog [(4, none)] (RF35 res)) [(7, vi b5), (5, .os b2 b3 0 x0.length), (0, v0)] h := by
  have b7 := b6
  try simp only [qa, qaD] at b7
  intro m
  induction m with
  | zero =>
    intro b5 a1 a2 a5 a4 a3 d0 b8 h M0 hres
    rw [ref06_distances_L2] at hres
    refine rc_loop ?_
    refine rc_seq ?_
    refine sR ?_
    refine mV rfl ?_
    refine mV rfl ?_
    refine rd_op (ov_bi rfl (sl_len r0 Try.underlying22 _)) ?_
    refine bN i_lss rfl rfl ?_
    refine nS ?_
    refine rc_cond rfl ?_ ?_ <;> intro c <;> try simp only [qa, qaD] at c
    · omega
    refine rc_exit ?_
    refine px_seq ?_
    refine px_again ?_
    exact wP (d1 a5 a4 a3 (Mem.sub M0 (.cons_cons _ .slnil)) hres) rfl
  | succ m ih =>
    intro b5 a1 a2 a5 a4 a3 d0 b8 h M0 hres
    rw [ref06_distances_L2] at hres
    refine rc_loop ?_
    refine rc_seq ?_
    refine sR ?_
    refine mV rfl ?_
    refine mV rfl ?_
    refine rd_op (ov_bi rfl (sl_len r0 Try.underlying22 _)) ?_
    refine bN i_lss rfl rfl ?_
    refine nS ?_
    refine rc_cond rfl (fun a6 => ?_) (fun a6 => ?_)
    · have hgo := hres
      have c3 := a6
      try simp only [qa, qaD] at c3
      refine rc_skip ?_
      refine pn_seq ?_
      refine rc_seq ?_
      refine rc_block ?_
      refine sR ?_
      refine mI rfl ?_
      refine nS ?_
      refine rc_block ?_
      refine wC (ref06_distances_L3_ok r0 hn c7 c8 a9 b0 b6 b9 c2 c5 c6 a4 a3 b8 a6 ?_  a5 a4 a3 rfl (by omega) (Mem.sub M0 (.cons_cons _ .slnil)) hres) rfl
      · intro b4 c4 b1 a8 a7 d2 c9 hres
        refine px_blk ?_
        refine pn_blk ?_
        refine pn_seq ?_
        refine rc_region ?_
        refine mV rfl ?_
        refine bN i_add rfl rfl ?_
        refine mV rfl ?_
        refine rd_nil ?_
        refine pn_again ?_
        have hbd := sl_bound r0
        have hinc : wr (b5 + 1) = b5 + 1 := wr_of (by omega) (by omega)
        erw [hinc]
        exact wC (ih  b1 a8 a7 (by omega) (by omega) (Mem.sub c9 (.cons_cons _ .slnil)) hres) rfl
    · exfalso
      try simp only [qa, qaD] at a6
      omega

theorem f35_ok {x0 : List (List Int)} {x1 : Int} {v0 : PV} (r0 : (tSl (tSl tI)).R x0 v0) (hn : x0.length ≤ 1000) : ∃ r, FnR Try.prog 35 [v0, vi x1] r ∧ (tSl tI).R (ref06_distances x0 x1) r := by
  refine fnT (R := RF35) text35 rfl fun res hres => ?_
  unfold ref06_distances at hres
  refine sR ?_
  refine rd_op (v := nilS) (ov_move rfl) ?_
  refine nR ?_
  refine mV rfl ?_
  refine rd_op (ov_bi rfl (sl_len r0 Try.underlying22 _)) ?_
  have c2 : fits (x0.length) 8 = true := fits_of (by first | omega | (simp only [List.length_append, List.length_cons, List.length_nil] at *; omega)) (by first | omega | (simp only [List.length_append, List.length_cons, List.length_nil] at *; omega))
  refine rd_makeO (sz := 1) (ty := 3) (n := x0.length) (zz := vi 0) (Mem.nil ⟨0, []⟩) rfl rfl rfl rfl rfl c2 (fun d6 e0 d5 d0 => ?_)
  have c8 : All2 tI.R (List.replicate x0.length (0 : Int)) (List.replicate x0.length (vi 0)) := All2.rep (show tI.R (0 : Int) (vi 0) from rfl) _
  have a4 : (List.replicate x0.length (0 : Int)).length = x0.length := List.length_replicate
  have a7 : (List.replicate x0.length (0 : Int)).length ≤ 4611686018427387904 := by rw [a4]; exact fits_len c2
  refine mV rfl ?_
  refine nS ?_
  refine rc_seq ?_
  refine sR ?_
  refine mI rfl ?_
  refine nS ?_
  refine rc_block ?_
  refine wC (ref06_distances_L1_ok r0 hn a4 a7 ?_  c8 a4 a7 rfl (by omega) (Mem.sub d0 (.cons_cons _ .slnil)) hres) rfl
  · intro a0 b6 a2 a3 a1 d9 b9 hres
    refine px_blk ?_
    refine pn_seq ?_
    refine rc_seq ?_
    refine sR ?_
    refine mV rfl ?_
    refine bN i_lss rfl rfl ?_
    refine mV rfl ?_
    refine rd_cutn 5 (d := 29) (v := vb ((decide (x1 < 0)) || (decide ((x0.length : Int) ≤ x1)))) ?_ ?_
    · intro S Q r
      cases c3 : (decide (x1 < 0))
      · intro k
        have b4 := c3
        try simp only [qa, qaD] at b4
        refine rd_yes rfl rfl (ov_move rfl) ?_
        refine rd_yes rfl rfl (ov_move rfl) ?_
        refine rd_yes rfl rfl (ov_bi rfl (sl_len r0 Try.underlying22 _)) ?_
        refine rd_yes rfl rfl (ov_bin rfl rfl i_geq) ?_
        exact gK rfl rfl rfl rfl rfl k
      · exact gN 4 rfl rfl rfl rfl rfl rfl
    refine nS ?_
    refine rc_br hres rfl ?_ ?_ <;> clear hres <;> intro b1 hres <;> have b2 := b1 <;> try simp only [qa, qaD] at b2
    · refine sR ?_
      refine mV rfl ?_
      refine mV rfl ?_
      refine nS ?_
      obtain ⟨d7, c4, c7⟩ := own_sl (P := Try.prog) (k := 0) (t := tI) b9 rfl rfl a2 (Nat.le_trans a1 (by decide))
      subst hres
      exact rc_retV (.tmp rfl .nil) c4 c7
    · refine rc_skip ?_
      refine pn_seq ?_
      refine sR ?_
      refine mV rfl ?_
      refine mV rfl ?_
      have a8 : 0 ≤ x1 := (by omega)
      have b3 : x1 < (a0.length : Int) := (by omega)
      refine rd_op (ov_iaddr rfl rfl (n_idx 1 a8 (by omega))) ?_
      refine rd_setO (k := 0) (v := vi 0) b9 rfl rfl rfl (by rw [All2.length_eq a2]; omega) rfl (fun d4 c9 => ?_)
      have d1 := All2.set (i := (x1).toNat) a2 (show tI.R 0 (vi 0) from rfl)
      have a9 : (a0.set (x1).toNat 0).length ≤ 4611686018427387904 := by simp only [List.length_set]; exact a1
      have b0 : (a0.set (x1).toNat 0).length = x0.length := by simp only [List.length_set]; exact a3
      refine nS ?_
      refine rc_seq ?_
      refine sR ?_
      refine mI rfl ?_
      refine nS ?_
      refine rc_block ?_
      refine wC (ref06_distances_L2_ok r0 hn a4 a7 a3 a1 b1 a8 b3 a9 b0 ?_  d1 b0 a9 rfl (by omega) (Mem.sub c9 (.cons_cons _ .slnil)) hres) rfl
      · intro b7 b8 a6 b5 a5 d8 c6 hres
        refine px_blk ?_
        refine pn_seq ?_
        refine sR ?_
        refine mV rfl ?_
        refine mV rfl ?_
        refine nS ?_
        obtain ⟨d3, d2, c5⟩ := own_sl (P := Try.prog) (k := 0) (t := tI) c6 rfl rfl a6 (Nat.le_trans a5 (by decide))
        subst hres
        exact rc_retV (.tmp rfl .nil) d2 c5

def RF16 (res : (List Bool)) (r : PV) : Prop := (tSl tB).R res r
theorem ref06_Reachable_L1_ok {S : List Fr} {res : (List Bool)} {x0 : List (List Int)} {x1 : Int} {a8 : (List (List Int))} {a5 : (List Int)} {v0 b4 : PV} {a7 a9 : Nat} (r0 : (tSl (tSl tI)).R x0 v0) (hs : Sm x0) (hn : x0.length ≤ 24) (c3 : ref06_Reverse x0 = a8) (c4 : Gd x0.length a8) (c6 : a8.length = x0.length) (c2 : ref06_distances a8 x1 = a5) (b5 : (tSl tI).R a5 b4) (b9 : a5.length = x0.length) (c5 : (List.replicate x0.length false).length = x0.length) (c7 : (List.replicate x0.length false).length ≤ 4611686018427387904) {K0 : (List Bool) → (List Bool)}
    (d0 : ∀ {a0 : List Bool} {a1 : List PV} (a4 : All2 tB.R a0 a1) (a2 : a0.length = x0.length) (a3 : a0.length ≤ 4611686018427387904) {h : Heap} (M0 : Mem h [⟨.os a7 a9 0 x0.length, 4, 1, a1⟩]), K0 a0 = res → PX Try.prog 0 S (QR Try.prog [(4, none)] (RF16 res)) [(6, .os a7 a9 0 x0.length)] h) :
    ∀ {m : Nat} {a6 : Int} {a0 : List Bool} {a1 : List PV} (a4 : All2 tB.R a0 a1) (a2 : a0.length = x0.length) (a3 : a0.length ≤ 4611686018427387904) (c8 : m = Int.toNat ((x0.length : Int) - a6)) (b3 : 0 ≤ a6) {h : Heap} (M0 : Mem h [⟨.os a7 a9 0 x0.length, 4, 1, a1⟩]), ref06_Reachable_L1 a5 K0 m a6 a0 = res → RC Try.prog (.loop ac16_L1) S (QR Try.prog [(4, none)] (RF16 res)) [(7, vi a6), (6, .os a7 a9 0 x0.length), (5, b4), (0, v0)] h := by
  intro m
  induction m with
  | zero =>
    intro a6 a0 a1 a4 a2 a3 c8 b3 h M0 hres
    rw [ref06_Reachable_L1] at hres
    refine rc_loop ?_
    refine rc_seq ?_
    refine sR ?_
    refine mV rfl ?_
    refine mV rfl ?_
    refine rd_op (ov_bi rfl (sl_len r0 Try.underlying22 _)) ?_
    refine bN i_lss rfl rfl ?_
    refine nS ?_
    refine rc_cond rfl ?_ ?_ <;> intro c <;> try simp only [qa, qaD] at c
    · omega
    refine rc_exit ?_
    refine px_seq ?_
    refine px_again ?_
    exact wP (d0 a4 a2 a3 (Mem.sub M0 (.cons_cons _ .slnil)) hres) rfl
  | succ m ih =>
    intro a6 a0 a1 a4 a2 a3 c8 b3 h M0 hres
    rw [ref06_Reachable_L1] at hres
    refine rc_loop ?_
    refine rc_seq ?_
    refine sR ?_
    refine mV rfl ?_
    refine mV rfl ?_
    refine rd_op (ov_bi rfl (sl_len r0 Try.underlying22 _)) ?_
    refine bN i_lss rfl rfl ?_
    refine nS ?_
    refine rc_cond rfl ?_ ?_ <;> intro c <;> try simp only [qa, qaD] at c
    rotate_left
    · omega
    refine rc_skip ?_
    refine pn_seq ?_
    refine rc_seq ?_
    refine rc_block ?_
    refine rc_region ?_
    refine mV rfl ?_
    refine mV rfl ?_
    refine mV rfl ?_
    refine mV rfl ?_
    refine rd_op (ov_iaddr rfl rfl (slI b5 (by omega) (by omega))) ?_
    refine lR rfl rfl rfl ?_
    refine bN i_geq rfl rfl ?_
    have b0 : 0 ≤ a6 := (by omega)
    have b7 : a6 < (a0.length : Int) := (by omega)
    refine rd_op (ov_iaddr rfl rfl (n_idx 1 b0 (by omega))) ?_
    refine rd_setO (k := 0) (v := vb (decide (0 ≤ (ix a5 a6)))) M0 rfl rfl rfl (by rw [All2.length_eq a4]; omega) rfl (fun c9 b8 => ?_)
    have b6 := All2.set (i := (a6).toNat) a4 (show tB.R (decide (0 ≤ (ix a5 a6))) (vb (decide (0 ≤ (ix a5 a6)))) from rfl)
    have b2 : (a0.set (a6).toNat (decide (0 ≤ (ix a5 a6)))).length ≤ 4611686018427387904 := by simp only [List.length_set]; exact a3
    have b1 : (a0.set (a6).toNat (decide (0 ≤ (ix a5 a6)))).length = x0.length := by simp only [List.length_set]; exact a2
    refine rd_nil ?_
    refine pn_blk ?_
    refine pn_seq ?_
    refine rc_region ?_
    refine mV rfl ?_
    refine bN i_add rfl rfl ?_
    refine mV rfl ?_
    refine rd_nil ?_
    refine pn_again ?_
    have hbd := sl_bound r0
    have hinc : wr (a6 + 1) = a6 + 1 := wr_of (by omega) (by omega)
    erw [hinc]
    exact wC (ih  b6 b1 b2 (by omega) (by omega) (Mem.sub b8 (.cons_cons _ .slnil)) hres) rfl

theorem f16_ok {x0 : List (List Int)} {x1 : Int} {v0 : PV} (r0 : (tSl (tSl tI)).R x0 v0) (hs : Sm x0) : ∃ r, FnR Try.prog 16 [v0, vi x1] r ∧ (tSl tB).R (ref06_Reachable x0 x1) r := by
  refine fnT (R := RF16) text16 rfl fun res hres => ?_
  unfold ref06_Reachable at hres
  have hn : x0.length ≤ 24 := hs.n
  refine sR ?_
  refine rd_op (v := nilS) (ov_move rfl) ?_
  refine nR ?_
  refine mV rfl ?_
  obtain ⟨b4, a2, hres⟩ := let_ex hres
  obtain ⟨c7, b7, a7⟩ := f30_ok  r0 (by first | assumption | omega)
  rw [a2] at a7
  have a5 : Gd x0.length b4 := rrev_gd hs a2
  have b5 : b4.length = x0.length := a5.len
  refine cL b7 rfl rfl (clL_cons (TR.clo (tSl (tSl tI)) r0) clL_nil) ?_
  refine mV rfl ?_
  obtain ⟨b6, a1, hres⟩ := let_ex hres
  obtain ⟨d1, c2, b2⟩ := f35_ok (x1 := x1) a7 (by first | assumption | omega)
  rw [a1] at b2
  have b1 : b6.length = x0.length := (by have := (rdist_use (by omega) a1).1; omega)
  refine cL c2 rfl rfl (clL_cons (TR.clo (tSl (tSl tI)) a7) (clL_cons rfl clL_nil)) ?_
  refine mV rfl ?_
  refine nR ?_
  refine mV rfl ?_
  refine rd_op (ov_bi rfl (sl_len r0 Try.underlying22 _)) ?_
  have b3 : fits (x0.length) 1 = true := fits_of (by first | omega | (simp only [List.length_append, List.length_cons, List.length_nil] at *; omega)) (by first | omega | (simp only [List.length_append, List.length_cons, List.length_nil] at *; omega))
  refine rd_makeO (sz := 1) (ty := 4) (n := x0.length) (zz := vb false) (Mem.nil ⟨0, []⟩) rfl rfl rfl rfl rfl b3 (fun c6 c9 c8 c3 => ?_)
  have c4 : All2 tB.R (List.replicate x0.length false) (List.replicate x0.length (vb false)) := All2.rep (show tB.R false (vb false) from rfl) _
  have a4 : (List.replicate x0.length false).length = x0.length := List.length_replicate
  have a6 : (List.replicate x0.length false).length ≤ 4611686018427387904 := by rw [a4]; exact fits_len b3
  refine mV rfl ?_
  refine nS ?_
  refine rc_seq ?_
  refine sR ?_
  refine mI rfl ?_
  refine nS ?_
  refine rc_block ?_
  refine wC (ref06_Reachable_L1_ok r0 hs hn a2 a5 b5 a1 b2 b1 a4 a6 ?_  c4 a4 a6 rfl (by omega) (Mem.sub c3 (.cons_cons _ .slnil)) hres) rfl
  · intro b0 a8 a3 a9 a0 d0 b9 hres
    refine px_blk ?_
    refine pn_seq ?_
    refine sR ?_
    refine mV rfl ?_
    refine mV rfl ?_
    refine nS ?_
    obtain ⟨d2, b8, c5⟩ := own_sl (P := Try.prog) (k := 0) (t := tB) b9 rfl rfl a3 (Nat.le_trans a0 (by decide))
    subst hres
    exact rc_retV (.tmp rfl .nil) b8 c5

def RF4 (res : Bool) (r : PV) : Prop := r = vb res
theorem f4_ok {x0 : List (List Int)} {x1 : Int} {v0 : PV} (r0 : (tSl (tSl tI)).R x0 v0) : FnR Try.prog 4 [v0, vi x1] (vb (law06_DigraphReachable x0 x1)) := by
  refine fnS (R := RF4) text4 (fun _ h => h) rfl fun res hres => ?_
  unfold law06_DigraphReachable at hres
  refine sR ?_
  refine mB rfl ?_
  refine nS ?_
  refine rc_seq ?_
  refine sR ?_
  refine mV rfl ?_
  obtain ⟨b9, a0, hres⟩ := let_ex hres
  have a6 := f13_ok  r0 
  rw [a0] at a6
  have a1 := large_sm a0
  refine cL a6 rfl rfl (clL_cons (TR.clo (tSl (tSl tI)) r0) clL_nil) ?_
  refine nS ?_
  refine rc_br hres rfl ?_ ?_ <;> clear hres <;> intro c hres <;> try simp only [qa, qaD] at c
  · refine sR ?_
    obtain ⟨b8, a8, hres⟩ := let_ex hres
    have b0 := f12_ok   
    rw [a8] at b0
    refine cL b0 rfl rfl clL_nil ?_
    refine mV rfl ?_
    refine nS ?_
    exact rR hres rfl rfl rfl
  · refine rc_skip ?_
    refine pn_seq ?_
    refine sR ?_
    refine mV rfl ?_
    refine mV rfl ?_
    obtain ⟨c3, b2, hres⟩ := let_ex hres
    obtain ⟨c2, b4, a2⟩ := f15_ok (x1 := x1) r0 (by first | omega | exact a1 (by assumption))
    rw [b2] at a2
    refine cL b4 rfl rfl (clL_cons (TR.clo (tSl (tSl tI)) r0) (clL_cons rfl clL_nil)) ?_
    refine mV rfl ?_
    refine mV rfl ?_
    obtain ⟨b7, a9, hres⟩ := let_ex hres
    obtain ⟨c4, b6, a3⟩ := f16_ok (x1 := x1) r0 (by first | omega | exact a1 (by assumption))
    rw [a9] at a3
    refine cL b6 rfl rfl (clL_cons (TR.clo (tSl (tSl tI)) r0) (clL_cons rfl clL_nil)) ?_
    obtain ⟨b3, a5, hres⟩ := let_ex hres
    have a7 := f14_ok  a2 a3 
    rw [a5] at a7
    refine cL a7 rfl rfl (clL_cons (TR.clo (tSl tB) a2) (clL_cons (TR.clo (tSl tB) a3) clL_nil)) ?_
    refine mV rfl ?_
    refine rd_cutn 2 (d := 17) (v := vb (b3 && (law06_works))) ?_ ?_
    · intro S Q r
      cases b1 : b3
      · exact gN 1 rfl rfl rfl rfl rfl rfl
      · intro k
        have a4 := b1
        try simp only [qa, qaD] at a4
        have b5 := f12_ok   
        refine rd_ycall rfl rfl (cv_fn rfl rfl clL_nil b5) ?_
        exact gK rfl rfl rfl rfl rfl k
    refine mV rfl ?_
    refine nS ?_
    exact rR hres rfl rfl rfl

end Go.Proofs.Ytpdimhpjehfjeaa
