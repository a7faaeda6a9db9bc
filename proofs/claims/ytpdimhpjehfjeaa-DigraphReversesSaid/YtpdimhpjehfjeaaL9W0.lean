/-
  The code of each function does what its plain program says.
-/
import Derived.Test.YtpdimhpjehfjeaaKDef
import Derived.Test.YtpdimhpjehfjeaaL9Text
import Derived.Test.YtpdimhpjehfjeaaPbV
import Derived.Test.YtpdimhpjehfjeaaKCo
import Derived.Test.YtpdimhpjehfjeaaKLy
import Derived.Test.YtpdimhpjehfjeaaKGbOrSpDsUsOk
import Derived.Test.YtpdimhpjehfjeaaKIn
import Derived.Test.YtpdimhpjehfjeaaKUuRsLvTwLaLpLr
set_option linter.unusedVariables false
set_option linter.unusedSimpArgs false
set_option maxRecDepth 100000
namespace Go.Proofs.Ytpdimhpjehfjeaa
open Go Go.Pb Go.RowKit
def RF13 (res : Bool) (r : PV) : Prop := r = vb res
theorem law06_large_L1_ok {S : List Fr} {res : Bool} {x0 : List (List Int)} {v0 : PV} (r0 : (tSl (tSl tI)).R x0 v0) (a3 : (decide (24 < (x0.length : Int))) = false) {K0 : Unit → Bool}
    (a7 : K0 () = res → PX Try.prog 0 S (QR Try.prog [(2, none)] (RF13 res)) [] ⟨0, []⟩) :
    ∀ {m : Nat} {a0 : Int} (a6 : m = Int.toNat ((x0.length : Int) - a0)) (a2 : 0 ≤ a0), law06_large_L1 x0 K0 m a0 = res → RC Try.prog (.loop ac13_L1) S (QR Try.prog [(2, none)] (RF13 res)) [(3, vi a0), (0, v0)] ⟨0, []⟩ := by
  have a1 := a3
  try simp only [qa, qaD] at a1
  intro m
  induction m with
  | zero =>
    intro a0 a6 a2 hres
    rw [law06_large_L1] at hres
    refine rc_loop ?_
    refine rc_seq ?_
    refine sR ?_
    refine mV rfl ?_
    refine mV rfl ?_
    refine rd_op (ov_bi rfl (sl_len r0 Try.underlying22 _)) ?_
    refine bN i_lss rfl rfl ?_
    refine nS ?_
    refine rc_cond rfl ?_ ?_ <;> intro c <;> try simp only [qa, qaD] at c
    · omega
    refine rc_exit ?_
    refine px_seq ?_
    refine px_again ?_
    exact wP (a7  hres) rfl
  | succ m ih =>
    intro a0 a6 a2 hres
    rw [law06_large_L1] at hres
    refine rc_loop ?_
    refine rc_seq ?_
    refine sR ?_
    refine mV rfl ?_
    refine mV rfl ?_
    refine rd_op (ov_bi rfl (sl_len r0 Try.underlying22 _)) ?_
    refine bN i_lss rfl rfl ?_
    refine nS ?_
    refine rc_cond rfl ?_ ?_ <;> intro c <;> try simp only [qa, qaD] at c
    rotate_left
    · omega
    refine rc_skip ?_
    refine pn_seq ?_
    refine rc_seq ?_
    refine rc_block ?_
    refine sR ?_
    refine mV rfl ?_
    refine mV rfl ?_
    obtain ⟨a8, a5, a4⟩ := sl_idx (i := a0) r0 (by omega) (by omega)
    refine rd_op (ov_iaddr rfl rfl a5) ?_
    refine lD a4 rfl rfl rfl ?_
    refine rd_op (ov_bi rfl (sl_len a4 Try.underlying31 _)) ?_
    refine bN i_gtr rfl rfl ?_
    refine nS ?_
    refine rc_br hres rfl ?_ ?_ <;> clear hres <;> intro c hres <;> try simp only [qa, qaD] at c
    · refine sR ?_
      refine mB rfl ?_
      refine nS ?_
      exact rR hres rfl rfl rfl
    · refine rc_skip ?_
      refine pn_blk ?_
      refine pn_seq ?_
      refine rc_region ?_
      refine mV rfl ?_
      refine bN i_add rfl rfl ?_
      refine mV rfl ?_
      refine rd_nil ?_
      refine pn_again ?_
      have hbd := sl_bound r0
      have hinc : wr (a0 + 1) = a0 + 1 := wr_of (by omega) (by omega)
      erw [hinc]
      exact wC (ih   (by omega) (by omega) hres) rfl

theorem f13_ok {x0 : List (List Int)} {v0 : PV} (r0 : (tSl (tSl tI)).R x0 v0) : FnR Try.prog 13 [v0] (vb (law06_large x0)) := by
  refine fnS (R := RF13) text13 (fun _ h => h) rfl fun res hres => ?_
  unfold law06_large at hres
  refine sR ?_
  refine mB rfl ?_
  refine nS ?_
  refine rc_seq ?_
  refine sR ?_
  refine mV rfl ?_
  refine rd_op (ov_bi rfl (sl_len r0 Try.underlying22 _)) ?_
  refine bN i_gtr rfl rfl ?_
  refine nS ?_
  refine rc_br hres rfl ?_ ?_ <;> clear hres <;> intro a0 hres <;> have a1 := a0 <;> try simp only [qa, qaD] at a1
  · refine sR ?_
    refine mB rfl ?_
    refine nS ?_
    exact rR hres rfl rfl rfl
  · refine rc_skip ?_
    refine pn_seq ?_
    refine rc_seq ?_
    refine sR ?_
    refine mI rfl ?_
    refine nS ?_
    refine rc_block ?_
    refine wC (law06_large_L1_ok r0 a0 ?_  rfl (by omega) hres) rfl
    · intro  hres
      refine px_blk ?_
      refine pn_seq ?_
      refine sR ?_
      refine mB rfl ?_
      refine nS ?_
      exact rR hres rfl rfl rfl

def RF33 (res : Bool) (r : PV) : Prop := r = vb res
theorem f33_ok {x0 : List (List Int)} {x1 : Int} {v0 : PV} (r0 : (tSl (tSl tI)).R x0 v0) : FnR Try.prog 33 [v0, vi x1] (vb (digraph_node x0 x1)) := by
  refine fnS (R := RF33) text33 (fun _ h => h) rfl fun res hres => ?_
  unfold digraph_node at hres
  refine sR ?_
  refine mB rfl ?_
  refine nR ?_
  refine mV rfl ?_
  refine bN i_geq rfl rfl ?_
  refine mV rfl ?_
  refine rd_cutn 5 (d := 12) (v := vb ((decide (0 ≤ x1)) && (decide (x1 < (x0.length : Int))))) ?_ ?_
  · intro S Q r
    cases a1 : (decide (0 ≤ x1))
    · exact gN 4 rfl rfl rfl rfl rfl rfl
    · intro k
      have a0 := a1
      try simp only [qa, qaD] at a0
      refine rd_yes rfl rfl (ov_move rfl) ?_
      refine rd_yes rfl rfl (ov_move rfl) ?_
      refine rd_yes rfl rfl (ov_bi rfl (sl_len r0 Try.underlying22 _)) ?_
      refine rd_yes rfl rfl (ov_bin rfl rfl i_lss) ?_
      exact gK rfl rfl rfl rfl rfl k
  refine mV rfl ?_
  refine nS ?_
  exact rR hres rfl rfl rfl

def RF44 (a0 : PV) (R_ : List Ent) (res : List Int) (r : PV) (h : Heap) : Prop := ∃ es : List PV, Mem h (⟨a0, 3, 1, es⟩ :: R_) ∧ All2 tI.R res es ∧ res.length ≤ 4611686018427387904 ∧ Wri a0 es ∧ r = .tup []
theorem f44_ok {x0 : List Int} {a0 : PV} {a1 : List PV} {R_ : List Ent} {h_ : Heap} (q : All2 tI.R x0 a1) (ne : isL a0 = true) (hl : x0.length ≤ 4611686018427387904) (wi : Wri a0 a1) (M : Mem h_ (⟨a0, 3, 1, a1⟩ :: R_)) (hb : x0.length ≤ 1000000) : ∃ r a2, FnX Try.prog 44 [a0] h_ r a2 ∧ RF44 a0 R_ (slices_Sort__int_int_ x0) r a2 := by
  obtain ⟨r, h2, X, es', M2, q2, w2, hr⟩ := sort_int_X text44.enters Go.Proofs.Try.sortI_calls Go.Proofs.Try.sortI_none q ne hb wi M
  exact ⟨r, h2, X, es', M2, q2, by rw [slices_Sort__int_int_, List.length_mergeSort]; exact hl, w2, hr⟩

theorem f45_ok {x0 : List Int} {a0 : PV} {a1 : List PV} {R_ : List Ent} {h_ : Heap} (q : All2 tI.R x0 a1) (ne : isL a0 = true) (hl : x0.length ≤ 4611686018427387904) (wi : Wri a0 a1) (M : Mem h_ (⟨a0, 3, 1, a1⟩ :: R_)) : ∃ r a2, FnX Try.prog 45 [a0] h_ r a2 ∧ RF45 R_ (slices_Compact__int_int_ x0) r a2 := f45_cpt q ne hl wi M

def RF37 (res : (List (List Int))) (r : PV) : Prop := (tSl (tSl tI)).R res r
theorem digraph_clean_L2_ok {S : List Fr} {res : (List (List Int))} {x0 : List (List Int)} {a1 : Int} {b6 : List (List Int)} {v0 e0 : PV} {a9 a8 : Nat} (r0 : (tSl (tSl tI)).R x0 v0) (hs : Sm x0) (hn : x0.length ≤ 24) (f5 : (List.replicate x0.length ([] : List Int)).length = x0.length) (f8 : (List.replicate x0.length ([] : List Int)).length ≤ 4611686018427387904) (f0 : b6.length = x0.length) (f1 : b6.length ≤ 4611686018427387904) (g1 : 0 ≤ a1) (f7 : LB b6 (40 * a1)) (d7 : (decide (a1 < (x0.length : Int))) = true) (c3 : (tSl tI).R (ix x0 a1) e0) {K2 : (List (List Int)) → (List (List Int))}
    (g0 : ∀ {a0 : List (List Int)} {a2 : List PV} {a4 : List Ent} (a3 : Ns tI 3 a0 a2 a4) (a6 : a0.length = x0.length) (a7 : a0.length ≤ 4611686018427387904) (g4 : LB a0 (40 * a1 + 40)) {h : Heap} (M0 : Mem h (⟨.os a9 a8 0 x0.length, 31, 1, a2⟩ :: (a4 ++ []))), K2 a0 = res → PX Try.prog 2 S (QR Try.prog [(2, none)] (RF37 res)) [(0, v0), (3, .os a9 a8 0 x0.length), (4, vi a1), (11, v0), (12, vi (x0.length : Int)), (13, vi a1)] h) :
    ∀ {m : Nat} {a5 : Int} {a0 : List (List Int)} {a2 : List PV} {a4 : List Ent} (a3 : Ns tI 3 a0 a2 a4) (a6 : a0.length = x0.length) (a7 : a0.length ≤ 4611686018427387904) (f6 : m = Int.toNat (((ix x0 a1).length : Int) - a5)) (d4 : 0 ≤ a5) (b2 : LB a0 (40 * a1 + a5)) (b8 : a5 ≤ ((ix x0 a1).length : Int)) {h : Heap} (M0 : Mem h (⟨.os a9 a8 0 x0.length, 31, 1, a2⟩ :: (a4 ++ []))), digraph_clean_L2 x0 a1 K2 m a5 a0 = res → RC Try.prog (.loop ac37_L2) S (QR Try.prog [(2, none)] (RF37 res)) [(20, vi a5), (19, vi ((ix x0 a1).length : Int)), (18, e0), (13, vi a1), (12, vi (x0.length : Int)), (11, v0), (4, vi a1), (3, .os a9 a8 0 x0.length), (0, v0)] h := by
  have c2 := d7
  try simp only [qa, qaD] at c2
  intro m
  induction m with
  | zero =>
    intro a5 a0 a2 a4 a3 a6 a7 f6 d4 b2 b8 h M0 hres
    rw [digraph_clean_L2] at hres
    refine rc_loop ?_
    refine sR ?_
    refine bN i_lss rfl rfl ?_
    refine nS ?_
    refine rc_seq ?_
    refine rc_cond rfl ?_ ?_ <;> intro c <;> try simp only [qa, qaD] at c
    · omega
    refine rc_exit ?_
    refine px_seq ?_
    refine px_again ?_
    exact wP (g0 a3 a6 a7 (by (have hr := hs.r a1 (by omega) (by omega); exact LB.mono (by assumption) (by omega))) (Mem.sub M0 (.cons_cons _ (List.Sublist.append_left (List.Sublist.refl _) _))) hres) rfl
  | succ m ih =>
    intro a5 a0 a2 a4 a3 a6 a7 f6 d4 b2 b8 h M0 hres
    rw [digraph_clean_L2] at hres
    refine rc_loop ?_
    refine sR ?_
    refine bN i_lss rfl rfl ?_
    refine nS ?_
    refine rc_seq ?_
    refine rc_cond rfl ?_ ?_ <;> intro c <;> try simp only [qa, qaD] at c
    rotate_left
    · omega
    refine rc_skip ?_
    refine pn_seq ?_
    refine rc_seq ?_
    refine rc_block ?_
    refine sR ?_
    refine rd_op (ov_iaddr rfl rfl (slI c3 (by omega) (by omega))) ?_
    refine lR rfl rfl rfl ?_
    refine mV rfl ?_
    refine nR ?_
    refine mV rfl ?_
    refine mV rfl ?_
    obtain ⟨g3, c8, hres⟩ := let_ex hres
    have d3 := f33_ok (x1 := (ix (ix x0 a1) a5)) r0 
    rw [c8] at d3
    refine cL d3 rfl rfl (clL_cons (TR.clo (tSl (tSl tI)) r0) (clL_cons rfl clL_nil)) ?_
    refine nS ?_
    refine rc_br hres rfl ?_ ?_ <;> clear hres <;> intro c hres <;> try simp only [qa, qaD] at c
    · refine rc_region ?_
      refine mV rfl ?_
      refine mV rfl ?_
      refine mV rfl ?_
      refine mV rfl ?_
      have b5 : 0 ≤ a1 := (by omega)
      have c4 : a1 < (a0.length : Int) := (by omega)
      refine rd_op (ov_iaddr rfl rfl (n_idx 1 b5 (by omega))) ?_
      obtain ⟨e9, b0, d6, e2, d1, e1, f9, d9⟩ := ns_at (i := a1) a3 b5 c4
      have b3 : Mem h (⟨e9, 3, 1, b0⟩ :: ⟨.os a9 a8 0 x0.length, 31, 1, a2⟩ :: ((a4.eraseIdx (a1).toNat) ++ [])) := ns_focus (C := [⟨.os a9 a8 0 x0.length, 31, 1, a2⟩]) M0 e2
      refine rd_op (ov_elem (k := 1) b3 rfl rfl d6 (mem_one (k := 0) b3 rfl e1).2) ?_
      refine mV rfl ?_
      refine rd_op (v := .fs true [vi (ix (ix x0 a1) a5)]) (ov_bslice rfl (all_cons rfl all_nil)) ?_
      have f3 : (tSl tI).R ([(ix (ix x0 a1) a5)] : List Int) (.fs true [vi (ix (ix x0 a1) a5)]) := sl_fs ⟨rfl, trivial⟩ (by simp)
      obtain ⟨b1, d0, b9⟩ := src_of (t := tI) (h := h) f3
      have e8 : fits (b0.length + b1.length) 8 = true := by rw [All2.length_eq d1, All2.length_eq b9]; (try simp only [List.length_cons, List.length_nil]); exact fits_of (by first | omega | (have hk := b2 a1 (by omega) (by omega); have hr := hs.r a1 (by omega) (by omega); first | omega | (simp only [List.length_cons, List.length_nil]; omega))) (by first | omega | (have hk := b2 a1 (by omega) (by omega); have hr := hs.r a1 (by omega) (by omega); first | omega | (simp only [List.length_cons, List.length_nil]; omega)))
      refine rd_appW (k := 0) (es := b0) (news := b1) b3 rfl rfl rfl e1 d9 d0 e8 (fun b7 g2 d5 c9 e3 => ?_)
      have d8 : All2 tI.R ((ix a0 a1) ++ ([(ix (ix x0 a1) a5)] : List Int)) (b0 ++ b1) := All2.app d1 b9
      have e4 : ((ix a0 a1) ++ ([(ix (ix x0 a1) a5)] : List Int)).length ≤ 4611686018427387904 := by rw [← All2.length_eq d8, List.length_append]; exact fits_len e8
      have c7 : 0 ≤ a1 := (by omega)
      have f2 : a1 < (a0.length : Int) := (by omega)
      refine rd_op (ov_iaddr rfl rfl (n_idx 1 c7 (by omega))) ?_
      refine rd_setO (k := 1) (v := b7) e3 rfl rfl rfl (by rw [(Ns.len a3).1]; omega) (mem_cnt1 (k := 0) e3 rfl d5) (fun e5 c6 => ?_)
      replace c6 : Mem e5 (⟨b7, 3, 1, (b0 ++ b1)⟩ :: ⟨.os a9 a8 0 x0.length, 31, 1, (a2.set (a1).toNat b7)⟩ :: ((a4.eraseIdx (a1).toNat) ++ [])) := c6
      obtain ⟨b4, c5, f4, d2⟩ : ∃ b4 c5, Ns tI 3 (a0.set (a1).toNat ((ix a0 a1) ++ ([(ix (ix x0 a1) a5)] : List Int))) b4 c5 ∧ Mem e5 (⟨.os a9 a8 0 x0.length, 31, 1, b4⟩ :: (c5 ++ [])) := ⟨_, _, ns_put a3  d8 d5 e4 c9, ns_back (C := [⟨.os a9 a8 0 x0.length, 31, 1, (a2.set (a1).toNat b7)⟩]) c6 (by rw [(Ns.len a3).2]; omega)⟩
      have e6 : (a0.set (a1).toNat ((ix a0 a1) ++ ([(ix (ix x0 a1) a5)] : List Int))).length = x0.length := by rw [List.length_set]; exact a6
      have e7 : (a0.set (a1).toNat ((ix a0 a1) ++ ([(ix (ix x0 a1) a5)] : List Int))).length ≤ 4611686018427387904 := by rw [List.length_set]; exact a7
      refine rd_nil ?_
      refine pn_blk ?_
      refine pn_seq ?_
      refine rc_region ?_
      refine bN i_add rfl rfl ?_
      refine mV rfl ?_
      refine rd_nil ?_
      refine pn_again ?_
      have hbd := sl_bound c3
      have hinc : wr (a5 + 1) = a5 + 1 := wr_of (by omega) (by omega)
      erw [hinc]
      exact wC (ih  f4 e6 e7 (by omega) (by omega) (by first | omega | exact LB.mono (by assumption) (by omega) | exact LB.mono (LB.app (by assumption) (by omega) (by omega)) (by omega)) (by first | omega | exact LB.mono (by assumption) (by omega) | exact LB.mono (LB.app (by assumption) (by omega) (by omega)) (by omega)) (Mem.sub d2 (.cons_cons _ (List.Sublist.append_left (List.Sublist.refl _) _))) hres) rfl
    · refine rc_skip ?_
      refine pn_blk ?_
      refine pn_seq ?_
      refine rc_region ?_
      refine bN i_add rfl rfl ?_
      refine mV rfl ?_
      refine rd_nil ?_
      refine pn_again ?_
      have hbd := sl_bound c3
      have hinc : wr (a5 + 1) = a5 + 1 := wr_of (by omega) (by omega)
      erw [hinc]
      exact wC (ih  a3 a6 a7 (by omega) (by omega) (by first | omega | exact LB.mono (by assumption) (by omega) | exact LB.mono (LB.app (by assumption) (by omega) (by omega)) (by omega)) (by first | omega | exact LB.mono (by assumption) (by omega) | exact LB.mono (LB.app (by assumption) (by omega) (by omega)) (by omega)) (Mem.sub M0 (.cons_cons _ (List.Sublist.append_left (List.Sublist.refl _) _))) hres) rfl

theorem digraph_clean_L1_ok {S : List Fr} {res : (List (List Int))} {x0 : List (List Int)} {v0 : PV} {a6 a4 : Nat} (r0 : (tSl (tSl tI)).R x0 v0) (hs : Sm x0) (hn : x0.length ≤ 24) (f8 : (List.replicate x0.length ([] : List Int)).length = x0.length) (g7 : (List.replicate x0.length ([] : List Int)).length ≤ 4611686018427387904) {K0 : (List (List Int)) → (List (List Int))}
    (j6 : ∀ {a2 : List (List Int)} {a5 : List PV} {b2 : List Ent} (b6 : Ns tI 3 a2 a5 b2) (a7 : a2.length = x0.length) (a8 : a2.length ≤ 4611686018427387904) {h : Heap} (M0 : Mem h (⟨.os a6 a4 0 x0.length, 31, 1, a5⟩ :: (b2 ++ []))), K0 a2 = res → PX Try.prog 0 S (QR Try.prog [(2, none)] (RF37 res)) [(3, .os a6 a4 0 x0.length)] h) :
    ∀ {m : Nat} {a1 : Int} {a2 : List (List Int)} {a5 : List PV} {b2 : List Ent} (b6 : Ns tI 3 a2 a5 b2) (a7 : a2.length = x0.length) (a8 : a2.length ≤ 4611686018427387904) (j4 : m = Int.toNat ((x0.length : Int) - a1)) (f3 : 0 ≤ a1) (c8 : LB a2 (40 * a1)) {h : Heap} (M0 : Mem h (⟨.os a6 a4 0 x0.length, 31, 1, a5⟩ :: (b2 ++ []))), digraph_clean_L1 x0 K0 m a1 a2 = res → RC Try.prog (.loop ac37_L1) S (QR Try.prog [(2, none)] (RF37 res)) [(13, vi a1), (12, vi (x0.length : Int)), (11, v0), (3, .os a6 a4 0 x0.length), (0, v0)] h := by
  intro m
  induction m with
  | zero =>
    intro a1 a2 a5 b2 b6 a7 a8 j4 f3 c8 h M0 hres
    rw [digraph_clean_L1] at hres
    refine rc_loop ?_
    refine sR ?_
    refine bN i_lss rfl rfl ?_
    refine nS ?_
    refine rc_seq ?_
    refine rc_cond rfl ?_ ?_ <;> intro c <;> try simp only [qa, qaD] at c
    · omega
    refine rc_exit ?_
    refine px_seq ?_
    refine px_again ?_
    exact wP (j6 b6 a7 a8 (Mem.sub M0 (.cons_cons _ (List.Sublist.append_left (List.Sublist.refl _) _))) hres) rfl
  | succ m ih =>
    intro a1 a2 a5 b2 b6 a7 a8 j4 f3 c8 h M0 hres
    rw [digraph_clean_L1] at hres
    refine rc_loop ?_
    refine sR ?_
    refine bN i_lss rfl rfl ?_
    refine nS ?_
    refine rc_seq ?_
    refine rc_cond rfl (fun b7 => ?_) (fun b7 => ?_)
    · have hgo := hres
      have f0 := b7
      try simp only [qa, qaD] at f0
      refine rc_skip ?_
      refine pn_seq ?_
      refine rc_seq ?_
      refine rc_block ?_
      refine sR ?_
      refine mV rfl ?_
      obtain ⟨j7, i4, f1⟩ := sl_idx (i := a1) r0 (by omega) (by omega)
      refine rd_op (ov_iaddr rfl rfl i4) ?_
      refine lD f1 rfl rfl rfl ?_
      refine mV rfl ?_
      refine mV rfl ?_
      refine nS ?_
      refine rc_seq ?_
      refine sR ?_
      refine mV rfl ?_
      refine rd_op (ov_bi rfl (sl_len f1 Try.underlying31 _)) ?_
      refine mI rfl ?_
      refine nS ?_
      refine rc_block ?_
      refine wC (digraph_clean_L2_ok r0 hs hn f8 g7 a7 a8 f3 c8 b7 f1 ?_  b6 a7 a8 rfl (by omega) (by first | omega | exact LB.mono (by assumption) (by omega)) (by first | omega | exact LB.mono (by assumption) (by omega)) (Mem.sub M0 (.cons_cons _ (List.Sublist.append_left (List.Sublist.refl _) _))) hres) rfl
      · intro a0 a3 b5 b1 c3 b9 b3 g8 j1 hres
        refine px_blk ?_
        refine pn_seq ?_
        refine rc_seq ?_
        refine rc_regionS ?_
        refine rs_step ?_
        refine mV rfl ?_
        refine rs_back ?_
        refine rs_step ?_
        refine mV rfl ?_
        refine rs_back ?_
        refine rs_step ?_
        have c6 : 0 ≤ a1 := (by omega)
        have f7 : a1 < (a0.length : Int) := (by omega)
        refine rd_op (ov_iaddr rfl rfl (n_idx 1 c6 (by omega))) ?_
        refine rs_back ?_
        refine rs_step ?_
        obtain ⟨g1, e2, e0, g5, i3, e9, h2, h0⟩ := ns_at (i := a1) b1 c6 f7
        have d1 : Mem g8 (⟨g1, 3, 1, e2⟩ :: ⟨.os a6 a4 0 x0.length, 31, 1, a3⟩ :: ((b5.eraseIdx (a1).toNat) ++ [])) := ns_focus (C := [⟨.os a6 a4 0 x0.length, 31, 1, a3⟩]) j1 g5
        refine rd_op (ov_elem (k := 1) d1 rfl rfl e0 (mem_one (k := 0) d1 rfl e9).2) ?_
        refine rs_back ?_
        have i7 : Mem g8 (⟨g1, 3, 1, e2⟩ :: ⟨.os a6 a4 0 x0.length, 31, 1, a3⟩ :: ((b5.eraseIdx (a1).toNat) ++ [])) := (Mem.front (k := 0) d1 rfl)
        obtain ⟨b4, e1, hres⟩ := let_ex hres
        obtain ⟨j2, e7, h8, e4⟩ := f44_ok (x0 := (ix a0 a1)) i3 e9 h2 h0 i7 (by (have hk := b3 a1 (by omega) (by omega); omega))
        rw [e1] at e4
        obtain ⟨h1, i9, c9, d4, d3, c4⟩ := e4
        replace c4 := c4.symm; subst c4
        refine rs_callXc rfl rfl h8 ?_
        have j5 := so_use e1
        obtain ⟨a9, c2, d5, h3⟩ : ∃ a9 c2, Ns tI 3 (a0.set (a1).toNat b4) a9 c2 ∧ Mem e7 (⟨.os a6 a4 0 x0.length, 31, 1, a9⟩ :: (c2 ++ [])) := ⟨_, _, ns_put0 b1 e0  c9 e9 d4 d3, ns_back (C := [⟨.os a6 a4 0 x0.length, 31, 1, a3⟩]) i9 (by rw [(Ns.len b1).2]; omega)⟩
        have h4 : (a0.set (a1).toNat b4).length = x0.length := by rw [List.length_set]; exact c3
        have h7 : (a0.set (a1).toNat b4).length ≤ 4611686018427387904 := by rw [List.length_set]; exact b9
        refine rs_nil ?_
        refine pn_seq ?_
        refine rc_regionS ?_
        refine rs_step ?_
        refine mV rfl ?_
        refine rs_back ?_
        refine rs_step ?_
        refine mV rfl ?_
        refine rs_back ?_
        refine rs_step ?_
        refine mV rfl ?_
        refine rs_back ?_
        refine rs_step ?_
        refine mV rfl ?_
        refine rs_back ?_
        refine rs_step ?_
        have d2 : 0 ≤ a1 := (by omega)
        have f4 : a1 < ((a0.set (a1).toNat b4).length : Int) := (by omega)
        refine rd_op (ov_iaddr rfl rfl (n_idx 1 d2 (by omega))) ?_
        refine rs_back ?_
        refine rs_step ?_
        obtain ⟨g9, e5, g3, g0, i8, h6, h5, g4⟩ := ns_at (i := a1) d5 d2 f4
        have d0 : Mem e7 (⟨g9, 3, 1, e5⟩ :: ⟨.os a6 a4 0 x0.length, 31, 1, a9⟩ :: ((c2.eraseIdx (a1).toNat) ++ [])) := ns_focus (C := [⟨.os a6 a4 0 x0.length, 31, 1, a9⟩]) h3 g0
        refine rd_op (ov_elem (k := 1) d0 rfl rfl g3 (mem_one (k := 0) d0 rfl h6).2) ?_
        refine rs_back ?_
        have i5 : Mem e7 (⟨g9, 3, 1, e5⟩ :: ⟨.os a6 a4 0 x0.length, 31, 1, a9⟩ :: ((c2.eraseIdx (a1).toNat) ++ [])) := (Mem.front (k := 0) d0 rfl)
        obtain ⟨e8, e3, hres⟩ := let_ex hres
        obtain ⟨j3, j8, i2, e6⟩ := f45_ok (x0 := (ix (a0.set (a1).toNat b4) a1)) i8 h6 h5 g4 i5 
        rw [e3] at e6
        obtain ⟨b0, d9, i1, d6, b8, d7, d8, c5⟩ := e6
        replace c5 := c5.symm; subst c5
        refine rs_callXc rfl rfl i2 ?_
        have f9 := co_use e3
        refine rs_step ?_
        have f6 : 0 ≤ a1 := (by omega)
        have j0 : a1 < ((a0.set (a1).toNat b4).length : Int) := (by omega)
        refine rd_op (ov_iaddr rfl rfl (n_idx 1 f6 (by omega))) ?_
        refine rs_back ?_
        refine rs_step ?_
        refine rd_setO (k := 1) (v := b0) i1 rfl rfl rfl (by rw [(Ns.len d5).1]; omega) (mem_cnt1 (k := 0) i1 rfl b8) (fun g2 f5 => ?_)
        replace f5 : Mem g2 (⟨b0, 3, 1, d9⟩ :: ⟨.os a6 a4 0 x0.length, 31, 1, (a9.set (a1).toNat b0)⟩ :: ((c2.eraseIdx (a1).toNat) ++ [])) := f5
        obtain ⟨c7, f2, i6, g6⟩ : ∃ c7 f2, Ns tI 3 ((a0.set (a1).toNat b4).set (a1).toNat e8) c7 f2 ∧ Mem g2 (⟨.os a6 a4 0 x0.length, 31, 1, c7⟩ :: (f2 ++ [])) := ⟨_, _, ns_put d5  d6 b8 d7 d8, ns_back (C := [⟨.os a6 a4 0 x0.length, 31, 1, (a9.set (a1).toNat b0)⟩]) f5 (by rw [(Ns.len d5).2]; omega)⟩
        have h9 : ((a0.set (a1).toNat b4).set (a1).toNat e8).length = x0.length := by rw [List.length_set]; exact h4
        have i0 : ((a0.set (a1).toNat b4).set (a1).toNat e8).length ≤ 4611686018427387904 := by rw [List.length_set]; exact h7
        refine rs_back ?_
        refine rs_nil ?_
        refine pn_blk ?_
        refine pn_seq ?_
        refine rc_region ?_
        refine bN i_add rfl rfl ?_
        refine mV rfl ?_
        refine rd_nil ?_
        refine pn_again ?_
        have hbd := sl_bound r0
        have hinc : wr (a1 + 1) = a1 + 1 := wr_of (by omega) (by omega)
        erw [hinc]
        exact wC (ih  i6 h9 i0 (by omega) (by omega) (by (have hk := b3 a1 (by omega) (by omega); exact LB.mono (LB.set (LB.set b3 (by omega) (by omega)) (by omega) (by rw [ix_set (by omega) (by omega) (by omega), if_pos rfl] at f9; omega)) (by omega))) (Mem.sub g6 (.cons_cons _ (List.Sublist.append_left (List.Sublist.refl _) _))) hres) rfl
    · exfalso
      try simp only [qa, qaD] at b7
      omega

theorem f37_ok {x0 : List (List Int)} {v0 : PV} (r0 : (tSl (tSl tI)).R x0 v0) (hs : Sm x0) : ∃ r, FnR Try.prog 37 [v0] r ∧ (tSl (tSl tI)).R (digraph_clean x0) r := by
  refine fnT (R := RF37) text37 rfl fun res hres => ?_
  unfold digraph_clean at hres
  have hn : x0.length ≤ 24 := hs.n
  refine sR ?_
  refine rd_op (v := nilS) (ov_move rfl) ?_
  refine nR ?_
  refine mV rfl ?_
  refine rd_op (ov_bi rfl (sl_len r0 Try.underlying22 _)) ?_
  have b0 : fits (x0.length) 24 = true := fits_of (by first | omega | (have hk := iv2_0 x13_ (by omega) (by omega); have hr := hs.r x13_ (by omega) (by omega); first | omega | (simp only [List.length_cons, List.length_nil]; omega))) (by first | omega | (have hk := iv2_0 x13_ (by omega) (by omega); have hr := hs.r x13_ (by omega) (by omega); first | omega | (simp only [List.length_cons, List.length_nil]; omega)))
  refine rd_makeO (sz := 1) (ty := 31) (n := x0.length) (zz := nilS) (Mem.nil ⟨0, []⟩) rfl rfl rfl rfl rfl b0 (fun a5 a6 b8 b6 => ?_)
  have b9 : All2 (tSl tI).R (List.replicate x0.length ([] : List Int)) (List.replicate x0.length nilS) := All2.rep (show (tSl tI).R ([] : List Int) nilS from sl_nil) _
  have a2 : (List.replicate x0.length ([] : List Int)).length = x0.length := List.length_replicate
  have a4 : (List.replicate x0.length ([] : List Int)).length ≤ 4611686018427387904 := by rw [a2]; exact fits_len b0
  obtain ⟨a7, b3, b1⟩ : ∃ a7, Ns tI 3 (List.replicate x0.length ([] : List Int)) (List.replicate x0.length nilS) a7 ∧ Mem b8 (⟨.os a5 a6 0 x0.length, 31, 1, (List.replicate x0.length nilS)⟩ :: (a7 ++ [])) := ⟨_, ns_rep _, ns_new (C := [⟨.os a5 a6 0 x0.length, 31, 1, (List.replicate x0.length nilS)⟩]) b6 3 1 _⟩
  refine mV rfl ?_
  refine nS ?_
  refine rc_seq ?_
  refine sR ?_
  refine mV rfl ?_
  refine rd_op (ov_bi rfl (sl_len r0 Try.underlying22 _)) ?_
  refine mI rfl ?_
  refine nS ?_
  refine rc_block ?_
  refine wC (digraph_clean_L1_ok r0 hs hn a2 a4 ?_  b3 a2 a4 rfl (by omega) (by exact lb_rep (by omega)) (Mem.sub b1 (.cons_cons _ (List.Sublist.append_left (List.Sublist.refl _) _))) hres) rfl
  · intro a8 a0 b2 a3 a9 a1 c2 b4 hres
    refine px_blk ?_
    refine pn_seq ?_
    refine sR ?_
    refine mV rfl ?_
    refine mV rfl ?_
    refine nS ?_
    obtain ⟨c3, b5, b7⟩ := ns_deep (P := Try.prog) (k := 0) (C := [⟨.os a5 a6 0 x0.length, 31, 1, a0⟩]) b4 rfl rfl a3 (Nat.le_trans a1 (by decide))
    subst hres
    exact rc_retV (.tmp rfl .nil) b5 b7

def RF29 (res : (List (List Int))) (r : PV) : Prop := (tSl (tSl tI)).R res r
theorem digraph_Reverse_L2_ok {S : List Fr} {res : (List (List Int))} {x0 : List (List Int)} {a4 : (List (List Int))} {a1 : Int} {b8 : List (List Int)} {d0 d2 : PV} {b1 b0 : Nat} (hs : Sm x0) (hn : x0.length ≤ 24) (f7 : (List.replicate x0.length ([] : List Int)).length = x0.length) (g0 : (List.replicate x0.length ([] : List Int)).length ≤ 4611686018427387904) (f6 : digraph_clean x0 = a4) (a7 : Gd x0.length a4) (g2 : a4.length = x0.length) (f1 : b8.length = x0.length) (f2 : b8.length ≤ 4611686018427387904) (g4 : 0 ≤ a1) (f9 : LB b8 (40 * a1)) (e0 : (decide (a1 < (a4.length : Int))) = true) (e5 : (tSl tI).R (ix a4 a1) d2) {K2 : (List (List Int)) → (List (List Int))}
    (g3 : ∀ {a0 : List (List Int)} {a3 : List PV} {a5 : List Ent} (a6 : Ns tI 3 a0 a3 a5) (a8 : a0.length = x0.length) (a9 : a0.length ≤ 4611686018427387904) (g6 : LB a0 (40 * a1 + 40)) {h : Heap} (M0 : Mem h (⟨.os b1 b0 0 x0.length, 31, 1, a3⟩ :: (a5 ++ []))), K2 a0 = res → PX Try.prog 2 S (QR Try.prog [(2, none)] (RF29 res)) [(3, .os b1 b0 0 x0.length), (12, d0), (13, vi (a4.length : Int)), (14, vi a1)] h) :
    ∀ {m : Nat} {a2 : Int} {a0 : List (List Int)} {a3 : List PV} {a5 : List Ent} (a6 : Ns tI 3 a0 a3 a5) (a8 : a0.length = x0.length) (a9 : a0.length ≤ 4611686018427387904) (f8 : m = Int.toNat (((ix a4 a1).length : Int) - a2)) (d5 : 0 ≤ a2) (b4 : LB a0 (40 * a1 + a2)) (c2 : a2 ≤ ((ix a4 a1).length : Int)) {h : Heap} (M0 : Mem h (⟨.os b1 b0 0 x0.length, 31, 1, a3⟩ :: (a5 ++ []))), digraph_Reverse_L2 a4 a1 K2 m a2 a0 = res → RC Try.prog (.loop ac29_L2) S (QR Try.prog [(2, none)] (RF29 res)) [(21, vi a2), (20, vi ((ix a4 a1).length : Int)), (19, d2), (14, vi a1), (13, vi (a4.length : Int)), (12, d0), (4, vi a1), (3, .os b1 b0 0 x0.length)] h := by
  have c4 := e0
  try simp only [qa, qaD] at c4
  intro m
  induction m with
  | zero =>
    intro a2 a0 a3 a5 a6 a8 a9 f8 d5 b4 c2 h M0 hres
    rw [digraph_Reverse_L2] at hres
    refine rc_loop ?_
    refine sR ?_
    refine bN i_lss rfl rfl ?_
    refine nS ?_
    refine rc_seq ?_
    refine rc_cond rfl ?_ ?_ <;> intro c <;> try simp only [qa, qaD] at c
    · omega
    refine rc_exit ?_
    refine px_seq ?_
    refine px_again ?_
    exact wP (g3 a6 a8 a9 (by (have hr := a7.r a1 (by omega) (by omega); exact LB.mono (by assumption) (by omega))) (Mem.sub M0 (.cons_cons _ (List.Sublist.append_left (List.Sublist.refl _) _))) hres) rfl
  | succ m ih =>
    intro a2 a0 a3 a5 a6 a8 a9 f8 d5 b4 c2 h M0 hres
    rw [digraph_Reverse_L2] at hres
    refine rc_loop ?_
    refine sR ?_
    refine bN i_lss rfl rfl ?_
    refine nS ?_
    refine rc_seq ?_
    refine rc_cond rfl ?_ ?_ <;> intro c <;> try simp only [qa, qaD] at c
    rotate_left
    · omega
    refine rc_skip ?_
    refine pn_seq ?_
    refine rc_seq ?_
    refine rc_block ?_
    refine sR ?_
    refine rd_op (ov_iaddr rfl rfl (slI e5 (by first | omega | (have hk := a7.at (k := a1) (i := a2) (by omega) (by omega) (by omega) (by omega); omega)) (by first | omega | (have hk := a7.at (k := a1) (i := a2) (by omega) (by omega) (by omega) (by omega); omega)))) ?_
    refine lR rfl rfl rfl ?_
    refine mV rfl ?_
    refine nS ?_
    refine rc_region ?_
    refine mV rfl ?_
    refine mV rfl ?_
    refine mV rfl ?_
    refine mV rfl ?_
    have b7 : 0 ≤ (ix (ix a4 a1) a2) := (by first | omega | (have hk := a7.at (k := a1) (i := a2) (by omega) (by omega) (by omega) (by omega); omega))
    have c5 : (ix (ix a4 a1) a2) < (a0.length : Int) := (by first | omega | (have hk := a7.at (k := a1) (i := a2) (by omega) (by omega) (by omega) (by omega); omega))
    refine rd_op (ov_iaddr rfl rfl (n_idx 1 b7 (by omega))) ?_
    obtain ⟨f0, b2, d7, e2, d3, e1, g1, d9⟩ := ns_at (i := (ix (ix a4 a1) a2)) a6 b7 c5
    have b5 : Mem h (⟨f0, 3, 1, b2⟩ :: ⟨.os b1 b0 0 x0.length, 31, 1, a3⟩ :: ((a5.eraseIdx ((ix (ix a4 a1) a2)).toNat) ++ [])) := ns_focus (C := [⟨.os b1 b0 0 x0.length, 31, 1, a3⟩]) M0 e2
    refine rd_op (ov_elem (k := 1) b5 rfl rfl d7 (mem_one (k := 0) b5 rfl e1).2) ?_
    refine mV rfl ?_
    refine rd_op (v := .fs true [vi a1]) (ov_bslice rfl (all_cons rfl all_nil)) ?_
    have f4 : (tSl tI).R ([a1] : List Int) (.fs true [vi a1]) := sl_fs ⟨rfl, trivial⟩ (by simp)
    obtain ⟨b3, d1, c3⟩ := src_of (t := tI) (h := h) f4
    have e9 : fits (b2.length + b3.length) 8 = true := by rw [All2.length_eq d3, All2.length_eq c3]; (try simp only [List.length_cons, List.length_nil]); exact fits_of (by first | omega | (have hr := a7.r a1 (by omega) (by omega); have hk := b4 (ix (ix a4 a1) a2) (by omega) (by omega); first | omega | (simp only [List.length_cons, List.length_nil]; omega))) (by first | omega | (have hr := a7.r a1 (by omega) (by omega); have hk := b4 (ix (ix a4 a1) a2) (by omega) (by omega); first | omega | (simp only [List.length_cons, List.length_nil]; omega)))
    refine rd_appW (k := 0) (es := b2) (news := b3) b5 rfl rfl rfl e1 d9 d1 e9 (fun b9 g5 d6 c9 e3 => ?_)
    have d8 : All2 tI.R ((ix a0 (ix (ix a4 a1) a2)) ++ ([a1] : List Int)) (b2 ++ b3) := All2.app d3 c3
    have e4 : ((ix a0 (ix (ix a4 a1) a2)) ++ ([a1] : List Int)).length ≤ 4611686018427387904 := by rw [← All2.length_eq d8, List.length_append]; exact fits_len e9
    have c8 : 0 ≤ (ix (ix a4 a1) a2) := (by first | omega | (have hk := a7.at (k := a1) (i := a2) (by omega) (by omega) (by omega) (by omega); omega))
    have f3 : (ix (ix a4 a1) a2) < (a0.length : Int) := (by first | omega | (have hk := a7.at (k := a1) (i := a2) (by omega) (by omega) (by omega) (by omega); omega))
    refine rd_op (ov_iaddr rfl rfl (n_idx 1 c8 (by omega))) ?_
    refine rd_setO (k := 1) (v := b9) e3 rfl rfl rfl (by rw [(Ns.len a6).1]; omega) (mem_cnt1 (k := 0) e3 rfl d6) (fun e6 c7 => ?_)
    replace c7 : Mem e6 (⟨b9, 3, 1, (b2 ++ b3)⟩ :: ⟨.os b1 b0 0 x0.length, 31, 1, (a3.set ((ix (ix a4 a1) a2)).toNat b9)⟩ :: ((a5.eraseIdx ((ix (ix a4 a1) a2)).toNat) ++ [])) := c7
    obtain ⟨b6, c6, f5, d4⟩ : ∃ b6 c6, Ns tI 3 (a0.set ((ix (ix a4 a1) a2)).toNat ((ix a0 (ix (ix a4 a1) a2)) ++ ([a1] : List Int))) b6 c6 ∧ Mem e6 (⟨.os b1 b0 0 x0.length, 31, 1, b6⟩ :: (c6 ++ [])) := ⟨_, _, ns_put a6  d8 d6 e4 c9, ns_back (C := [⟨.os b1 b0 0 x0.length, 31, 1, (a3.set ((ix (ix a4 a1) a2)).toNat b9)⟩]) c7 (by rw [(Ns.len a6).2]; omega)⟩
    have e7 : (a0.set ((ix (ix a4 a1) a2)).toNat ((ix a0 (ix (ix a4 a1) a2)) ++ ([a1] : List Int))).length = x0.length := by rw [List.length_set]; exact a8
    have e8 : (a0.set ((ix (ix a4 a1) a2)).toNat ((ix a0 (ix (ix a4 a1) a2)) ++ ([a1] : List Int))).length ≤ 4611686018427387904 := by rw [List.length_set]; exact a9
    refine rd_nil ?_
    refine pn_blk ?_
    refine pn_seq ?_
    refine rc_region ?_
    refine bN i_add rfl rfl ?_
    refine mV rfl ?_
    refine rd_nil ?_
    refine pn_again ?_
    have hbd := sl_bound e5
    have hinc : wr (a2 + 1) = a2 + 1 := wr_of (by omega) (by omega)
    erw [hinc]
    exact wC (ih  f5 e7 e8 (by omega) (by omega) (by first | omega | (have hk := a7.at (k := a1) (i := a2) (by omega) (by omega) (by omega) (by omega); exact LB.mono (LB.app (by assumption) (by omega) (by omega)) (by omega))) (by first | omega | (have hk := a7.at (k := a1) (i := a2) (by omega) (by omega) (by omega) (by omega); exact LB.mono (LB.app (by assumption) (by omega) (by omega)) (by omega))) (Mem.sub d4 (.cons_cons _ (List.Sublist.append_left (List.Sublist.refl _) _))) hres) rfl

theorem digraph_Reverse_L1_ok {S : List Fr} {res : (List (List Int))} {x0 : List (List Int)} {a7 : (List (List Int))} {c4 : PV} {b4 b5 : Nat} (hs : Sm x0) (hn : x0.length ≤ 24) (c5 : (List.replicate x0.length ([] : List Int)).length = x0.length) (c6 : (List.replicate x0.length ([] : List Int)).length ≤ 4611686018427387904) (c3 : digraph_clean x0 = a7) (c8 : (tSl (tSl tI)).R a7 c4) (b1 : Gd x0.length a7) (c9 : a7.length = x0.length) {K0 : (List (List Int)) → (List (List Int))}
    (d4 : ∀ {a0 : List (List Int)} {a1 : List PV} {a5 : List Ent} (a6 : Ns tI 3 a0 a1 a5) (a3 : a0.length = x0.length) (a2 : a0.length ≤ 4611686018427387904) {h : Heap} (M0 : Mem h (⟨.os b4 b5 0 x0.length, 31, 1, a1⟩ :: (a5 ++ []))), K0 a0 = res → PX Try.prog 0 S (QR Try.prog [(2, none)] (RF29 res)) [(3, .os b4 b5 0 x0.length)] h) :
    ∀ {m : Nat} {a4 : Int} {a0 : List (List Int)} {a1 : List PV} {a5 : List Ent} (a6 : Ns tI 3 a0 a1 a5) (a3 : a0.length = x0.length) (a2 : a0.length ≤ 4611686018427387904) (d3 : m = Int.toNat ((a7.length : Int) - a4)) (b7 : 0 ≤ a4) (b3 : LB a0 (40 * a4)) {h : Heap} (M0 : Mem h (⟨.os b4 b5 0 x0.length, 31, 1, a1⟩ :: (a5 ++ []))), digraph_Reverse_L1 a7 K0 m a4 a0 = res → RC Try.prog (.loop ac29_L1) S (QR Try.prog [(2, none)] (RF29 res)) [(14, vi a4), (13, vi (a7.length : Int)), (12, c4), (3, .os b4 b5 0 x0.length)] h := by
  intro m
  induction m with
  | zero =>
    intro a4 a0 a1 a5 a6 a3 a2 d3 b7 b3 h M0 hres
    rw [digraph_Reverse_L1] at hres
    refine rc_loop ?_
    refine sR ?_
    refine bN i_lss rfl rfl ?_
    refine nS ?_
    refine rc_seq ?_
    refine rc_cond rfl ?_ ?_ <;> intro c <;> try simp only [qa, qaD] at c
    · omega
    refine rc_exit ?_
    refine px_seq ?_
    refine px_again ?_
    exact wP (d4 a6 a3 a2 (Mem.sub M0 (.cons_cons _ (List.Sublist.append_left (List.Sublist.refl _) _))) hres) rfl
  | succ m ih =>
    intro a4 a0 a1 a5 a6 a3 a2 d3 b7 b3 h M0 hres
    rw [digraph_Reverse_L1] at hres
    refine rc_loop ?_
    refine sR ?_
    refine bN i_lss rfl rfl ?_
    refine nS ?_
    refine rc_seq ?_
    refine rc_cond rfl (fun a8 => ?_) (fun a8 => ?_)
    · have hgo := hres
      have b8 := a8
      try simp only [qa, qaD] at b8
      refine rc_skip ?_
      refine pn_seq ?_
      refine rc_seq ?_
      refine rc_block ?_
      refine sR ?_
      refine mV rfl ?_
      obtain ⟨d6, d1, b9⟩ := sl_idx (i := a4) c8 (by first | omega | (have hk := b1.at (k := a4) (i := x21_) (by omega) (by omega) (by omega) (by omega); omega)) (by first | omega | (have hk := b1.at (k := a4) (i := x21_) (by omega) (by omega) (by omega) (by omega); omega))
      refine rd_op (ov_iaddr rfl rfl d1) ?_
      refine lD b9 rfl rfl rfl ?_
      refine mV rfl ?_
      refine mV rfl ?_
      refine nR ?_
      refine mV rfl ?_
      refine rd_op (ov_bi rfl (sl_len b9 Try.underlying31 _)) ?_
      refine mI rfl ?_
      refine nS ?_
      refine rc_block ?_
      refine wC (digraph_Reverse_L2_ok hs hn c5 c6 c3 b1 c9 a3 a2 b7 b3 a8 b9 ?_  a6 a3 a2 rfl (by omega) (by first | omega | exact LB.mono (by assumption) (by omega)) (by first | omega | exact LB.mono (by assumption) (by omega)) (Mem.sub M0 (.cons_cons _ (List.Sublist.append_left (List.Sublist.refl _) _))) hres) rfl
      · intro b6 c2 c7 b2 a9 b0 d0 d5 d2 hres
        refine px_blk ?_
        refine pn_blk ?_
        refine pn_seq ?_
        refine rc_region ?_
        refine bN i_add rfl rfl ?_
        refine mV rfl ?_
        refine rd_nil ?_
        refine pn_again ?_
        have hbd := sl_bound c8
        have hinc : wr (a4 + 1) = a4 + 1 := wr_of (by omega) (by omega)
        erw [hinc]
        exact wC (ih  b2 a9 b0 (by omega) (by omega) (by exact LB.mono (by assumption) (by omega)) (Mem.sub d2 (.cons_cons _ (List.Sublist.append_left (List.Sublist.refl _) _))) hres) rfl
    · exfalso
      try simp only [qa, qaD] at a8
      omega

theorem f29_ok {x0 : List (List Int)} {v0 : PV} (r0 : (tSl (tSl tI)).R x0 v0) (hs : Sm x0) : ∃ r, FnR Try.prog 29 [v0] r ∧ (tSl (tSl tI)).R (digraph_Reverse x0) r := by
  refine fnT (R := RF29) text29 rfl fun res hres => ?_
  unfold digraph_Reverse at hres
  have hn : x0.length ≤ 24 := hs.n
  refine sR ?_
  refine rd_op (v := nilS) (ov_move rfl) ?_
  refine nR ?_
  refine mV rfl ?_
  refine rd_op (ov_bi rfl (sl_len r0 Try.underlying22 _)) ?_
  have b5 : fits (x0.length) 24 = true := fits_of (by first | omega | (have hr := a0.r x14_ (by omega) (by omega); have hk := iv2_0 (ix (ix a6 x14_) x21_) (by omega) (by omega); first | omega | (simp only [List.length_cons, List.length_nil]; omega))) (by first | omega | (have hr := a0.r x14_ (by omega) (by omega); have hk := iv2_0 (ix (ix a6 x14_) x21_) (by omega) (by omega); first | omega | (simp only [List.length_cons, List.length_nil]; omega)))
  refine rd_makeO (sz := 1) (ty := 31) (n := x0.length) (zz := nilS) (Mem.nil ⟨0, []⟩) rfl rfl rfl rfl rfl b5 (fun a8 b0 c6 c5 => ?_)
  have c7 : All2 (tSl tI).R (List.replicate x0.length ([] : List Int)) (List.replicate x0.length nilS) := All2.rep (show (tSl tI).R ([] : List Int) nilS from sl_nil) _
  have a4 : (List.replicate x0.length ([] : List Int)).length = x0.length := List.length_replicate
  have a7 : (List.replicate x0.length ([] : List Int)).length ≤ 4611686018427387904 := by rw [a4]; exact fits_len b5
  obtain ⟨b1, c4, b6⟩ : ∃ b1, Ns tI 3 (List.replicate x0.length ([] : List Int)) (List.replicate x0.length nilS) b1 ∧ Mem c6 (⟨.os a8 b0 0 x0.length, 31, 1, (List.replicate x0.length nilS)⟩ :: (b1 ++ [])) := ⟨_, ns_rep _, ns_new (C := [⟨.os a8 b0 0 x0.length, 31, 1, (List.replicate x0.length nilS)⟩]) c5 3 1 _⟩
  refine mV rfl ?_
  refine nS ?_
  refine rc_seq ?_
  refine sR ?_
  refine mV rfl ?_
  obtain ⟨a6, a3, hres⟩ := let_ex hres
  obtain ⟨c8, c2, a9⟩ := f37_ok  r0 (by first | assumption | omega)
  rw [a3] at a9
  have a0 : Gd x0.length a6 := clean_gd hs a3
  have b7 : a6.length = x0.length := a0.len
  refine cL c2 rfl rfl (clL_cons (TR.clo (tSl (tSl tI)) r0) clL_nil) ?_
  refine rd_op (ov_bi rfl (sl_len a9 Try.underlying22 _)) ?_
  refine mI rfl ?_
  refine nS ?_
  refine rc_block ?_
  refine wC (digraph_Reverse_L1_ok hs hn a4 a7 a3 a9 a0 b7 ?_  c4 a4 a7 rfl (by omega) (by exact lb_rep (by omega)) (Mem.sub b6 (.cons_cons _ (List.Sublist.append_left (List.Sublist.refl _) _))) hres) rfl
  · intro b2 a2 b4 a5 b3 a1 d0 b8 hres
    refine px_blk ?_
    refine pn_seq ?_
    refine sR ?_
    refine mV rfl ?_
    refine mV rfl ?_
    refine nS ?_
    obtain ⟨c9, b9, c3⟩ := ns_deep (P := Try.prog) (k := 0) (C := [⟨.os a8 b0 0 x0.length, 31, 1, a2⟩]) b8 rfl rfl a5 (Nat.le_trans a1 (by decide))
    subst hres
    exact rc_retV (.tmp rfl .nil) b9 c3

def RF43 (i2_ w2_ i3_ w3_ : Nat) (R_ : List Ent) (res : (List Int) × (List Int)) (r : PV) (h : Heap) : Prop := ∃ aF0_0 : PV, ∃ esF0_0 : List PV, ∃ aF1_0 : PV, ∃ esF1_0 : List PV, Mem h (⟨.op i2_ w2_ 0, 31, 1, [aF0_0]⟩ :: ⟨aF0_0, 3, 1, esF0_0⟩ :: ⟨.op i3_ w3_ 0, 31, 1, [aF1_0]⟩ :: ⟨aF1_0, 3, 1, esF1_0⟩ :: R_) ∧ (All2 tI.R res.1 esF0_0) ∧ (isL aF0_0 = true) ∧ (res.1.length ≤ 4611686018427387904) ∧ (Wri aF0_0 esF0_0) ∧ (All2 tI.R res.2 esF1_0) ∧ (isL aF1_0 = true) ∧ (res.2.length ≤ 4611686018427387904) ∧ (Wri aF1_0 esF1_0) ∧ r = .tup []
theorem f43_ok {x0 x1 : Int} {c0 c1 : List Int} {b0 : PV} {a1 : List PV} {a3 : PV} {a0 : List PV} {R_ : List Ent} {h_ : Heap} {b8 c6 b7 c3 : Nat} (a2 : All2 tI.R c0 a1) (c8 : isL b0 = true) (b3 : c0.length ≤ 4611686018427387904) (b9 : Wri b0 a1) (a8 : All2 tI.R c1 a0) (a9 : isL a3 = true) (c2 : c1.length ≤ 4611686018427387904) (b4 : Wri a3 a0) (M_ : Mem h_ (⟨.op b8 c6 0, 31, 1, [b0]⟩ :: ⟨b0, 3, 1, a1⟩ :: ⟨.op b7 c3 0, 31, 1, [a3]⟩ :: ⟨a3, 3, 1, a0⟩ :: R_)) (hw : 0 ≤ x0 ∧ x0 < (c0.length : Int)) (hq : c1.length ≤ 1000) : ∃ r f0, FnX Try.prog 43 [vi x0, vi x1, .op b8 c6 0, .op b7 c3 0] h_ r f0 ∧ RF43 b8 c6 b7 c3 R_ (digraph_distances_1 x0 x1 c0 c1) r f0 := by
  refine fnXX (R := RF43 b8 c6 b7 c3 R_) text43 rfl fun res hres => ?_
  unfold digraph_distances_1 at hres
  refine sR ?_
  refine rd_op (ov_load0 (k := 0) M_ rfl rfl (mem_one (k := 1) M_ rfl c8).2) ?_
  refine mV rfl ?_
  obtain ⟨a7, a6, a4, d1⟩ := wri_os (i := x0) b9 a2 (by omega) (by omega)
  subst d1
  have d5 : c0.length = a4 := by rw [mem_osn M_ (k := 1) rfl, All2.length_eq a2]
  have b2 : 0 ≤ x0 := (by omega)
  have c7 : x0 < (c0.length : Int) := (by omega)
  refine rd_op (ov_iaddr rfl rfl (n_idx 1 b2 (by omega))) ?_
  obtain ⟨e7, e5, c5⟩ := elem_at (i := x0) a2 b2 c7
  have c5 : e7 = vi (ix c0 x0) := c5; subst c5
  refine rd_op (ov_elem (k := 1) M_ rfl rfl e5 rfl) ?_
  refine bN i_lss rfl rfl ?_
  refine nS ?_
  refine rc_br hres rfl ?_ ?_ <;> clear hres <;> intro c hres <;> try simp only [qa, qaD] at c
  · refine sR ?_
    refine rd_op (ov_load0 (k := 0) M_ rfl rfl (mem_one (k := 1) M_ rfl rfl).2) ?_
    refine mV rfl ?_
    refine mV rfl ?_
    have b6 : 0 ≤ x0 := (by omega)
    have e3 : x0 < (c0.length : Int) := (by omega)
    refine rd_op (ov_iaddr rfl rfl (n_idx 1 b6 (by omega))) ?_
    refine rd_setO (k := 1) (v := vi x1) M_ rfl rfl rfl (by rw [All2.length_eq a2]; omega) rfl (fun e4 c4 => ?_)
    have e6 := All2.set (i := (x0).toNat) a2 (show tI.R x1 (vi x1) from rfl)
    have d9 : (c0.set (x0).toNat x1).length ≤ 4611686018427387904 := by simp only [List.length_set]; exact b3
    have e9 : (c0.set (x0).toNat x1).length = a4 := by simp only [List.length_set]; exact d5
    refine nS ?_
    refine rc_region ?_
    refine rd_op (ov_load0 (k := 2) c4 rfl rfl (mem_one (k := 3) c4 rfl a9).2) ?_
    refine mV rfl ?_
    refine rd_op (v := .fs true [vi x0]) (ov_bslice rfl (all_cons rfl all_nil)) ?_
    have e8 : (tSl tI).R ([x0] : List Int) (.fs true [vi x0]) := sl_fs ⟨rfl, trivial⟩ (by simp)
    obtain ⟨a5, d3, b5⟩ := src_of (t := tI) (h := e4) e8
    have d8 : fits (a0.length + a5.length) 8 = true := by rw [All2.length_eq a8, All2.length_eq b5]; (try simp only [List.length_cons, List.length_nil]); exact fits_of (by first | omega | (simp only [List.length_append, List.length_cons, List.length_nil] at *; omega)) (by first | omega | (simp only [List.length_append, List.length_cons, List.length_nil] at *; omega))
    refine rd_appW (k := 3) (es := a0) (news := a5) c4 rfl rfl rfl a9 b4 d3 d8 (fun b1 f1 e0 d6 e2 => ?_)
    have d4 : All2 tI.R (c1 ++ ([x0] : List Int)) (a0 ++ a5) := All2.app a8 b5
    have d0 : (c1 ++ ([x0] : List Int)).length ≤ 4611686018427387904 := by rw [← All2.length_eq d4, List.length_append]; exact fits_len d8
    refine rd_storeO (k := 2) (v := b1) e2 rfl rfl rfl (mem_cnt1 (k := 3) e2 rfl e0) (fun d2 c9 => ?_)
    replace c9 : Mem d2 (⟨.op b8 c6 0, 31, 1, [(.os a7 a6 0 a4)]⟩ :: ⟨.os a7 a6 0 a4, 3, 1, (a1.set (x0).toNat (vi x1))⟩ :: ⟨.op b7 c3 0, 31, 1, [b1]⟩ :: ⟨b1, 3, 1, (a0 ++ a5)⟩ :: R_) := c9
    refine rd_nil ?_
    have e1 : Mem d2 (⟨.op b8 c6 0, 31, 1, [(.os a7 a6 0 a4)]⟩ :: ⟨.os a7 a6 0 a4, 3, 1, (a1.set (x0).toNat (vi x1))⟩ :: ⟨.op b7 c3 0, 31, 1, [b1]⟩ :: ⟨b1, 3, 1, (a0 ++ a5)⟩ :: R_) := (Mem.front (k := 3) (Mem.front (k := 3) (Mem.front (k := 3) (Mem.front (k := 3) c9 rfl) rfl) rfl) rfl)
    subst hres
    exact pn_endX .nil ⟨(.os a7 a6 0 a4), (a1.set (x0).toNat (vi x1)), b1, (a0 ++ a5), Mem.sub e1 (.cons_cons _ (.cons_cons _ (.cons_cons _ (.cons_cons _ (List.Sublist.refl R_))))), e6, rfl, d9, (.inr ⟨_, _, _, rfl⟩), d4, e0, d0, d6, rfl⟩
  · refine rc_skip ?_
    have d7 : Mem h_ (⟨.op b8 c6 0, 31, 1, [(.os a7 a6 0 a4)]⟩ :: ⟨.os a7 a6 0 a4, 3, 1, a1⟩ :: ⟨.op b7 c3 0, 31, 1, [a3]⟩ :: ⟨a3, 3, 1, a0⟩ :: R_) := (Mem.front (k := 3) (Mem.front (k := 3) (Mem.front (k := 3) (Mem.front (k := 3) M_ rfl) rfl) rfl) rfl)
    subst hres
    exact pn_endX .nil ⟨(.os a7 a6 0 a4), a1, a3, a0, Mem.sub d7 (.cons_cons _ (.cons_cons _ (.cons_cons _ (.cons_cons _ (List.Sublist.refl R_))))), a2, rfl, b3, (.inr ⟨_, _, _, rfl⟩), a8, a9, c2, b4, rfl⟩

def RF34 (res : (List Int)) (r : PV) : Prop := (tSl tI).R res r
theorem digraph_distances_L1_ok {S : List Fr} {res : (List Int)} {x0 : List (List Int)} {x1 : Int} {v0 : PV} {a6 a7 a9 a8 : Nat} (hn : x0.length ≤ 1000) (b9 : (List.replicate x0.length (0 : Int)).length = x0.length) (c2 : (List.replicate x0.length (0 : Int)).length ≤ 4611686018427387904) {K0 : (List Int) → (List Int)}
    (c4 : ∀ {a0 : List Int} {a1 : List PV} (a5 : All2 tI.R a0 a1) (a4 : a0.length = x0.length) (a3 : a0.length ≤ 4611686018427387904) (c6 : NB a0 (x0.length : Int)) {h : Heap} (M0 : Mem h [⟨.op a9 a8 0, 31, 1, [.os a6 a7 0 x0.length]⟩, ⟨.os a6 a7 0 x0.length, 3, 1, a1⟩]), K0 a0 = res → PX Try.prog 0 S (QR Try.prog [(4, none)] (RF34 res)) [(0, v0), (1, vi x1), (5, .op a9 a8 0)] h) :
    ∀ {m : Nat} {a2 : Int} {a0 : List Int} {a1 : List PV} (a5 : All2 tI.R a0 a1) (a4 : a0.length = x0.length) (a3 : a0.length ≤ 4611686018427387904) (c3 : m = Int.toNat (((List.replicate x0.length (0 : Int)).length : Int) - a2)) (b5 : 0 ≤ a2) (b0 : NB a0 a2) (b1 : a2 ≤ (x0.length : Int)) {h : Heap} (M0 : Mem h [⟨.op a9 a8 0, 31, 1, [.os a6 a7 0 x0.length]⟩, ⟨.os a6 a7 0 x0.length, 3, 1, a1⟩]), digraph_distances_L1 K0 m a2 a0 = res → RC Try.prog (.loop ac34_L1) S (QR Try.prog [(4, none)] (RF34 res)) [(18, vi a2), (17, vi ((List.replicate x0.length (0 : Int)).length : Int)), (5, .op a9 a8 0), (1, vi x1), (0, v0)] h := by
  intro m
  induction m with
  | zero =>
    intro a2 a0 a1 a5 a4 a3 c3 b5 b0 b1 h M0 hres
    rw [digraph_distances_L1] at hres
    refine rc_loop ?_
    refine sR ?_
    refine bN i_lss rfl rfl ?_
    refine nS ?_
    refine rc_seq ?_
    refine rc_cond rfl ?_ ?_ <;> intro c <;> try simp only [qa, qaD] at c
    · omega
    refine rc_exit ?_
    refine px_seq ?_
    refine px_again ?_
    exact wP (c4 a5 a4 a3 (by exact NB.mono (by assumption) (by omega)) (Mem.sub M0 (.cons_cons _ (.cons_cons _ .slnil))) hres) rfl
  | succ m ih =>
    intro a2 a0 a1 a5 a4 a3 c3 b5 b0 b1 h M0 hres
    rw [digraph_distances_L1] at hres
    refine rc_loop ?_
    refine sR ?_
    refine bN i_lss rfl rfl ?_
    refine nS ?_
    refine rc_seq ?_
    refine rc_cond rfl ?_ ?_ <;> intro c <;> try simp only [qa, qaD] at c
    rotate_left
    · omega
    refine rc_skip ?_
    refine pn_seq ?_
    refine rc_seq ?_
    refine rc_block ?_
    refine sR ?_
    refine mV rfl ?_
    refine mV rfl ?_
    refine nS ?_
    refine rc_region ?_
    refine rd_op (ov_load0 (k := 0) M0 rfl rfl (mem_one (k := 1) M0 rfl rfl).2) ?_
    refine mV rfl ?_
    have b2 : 0 ≤ a2 := (by first | omega | first | (have hk := QI.at iv2_0 (i := x9_) (by omega) (by omega); omega) | (have hk := en111 (by assumption); omega) | (have hk := qi_pre iv3_0 iv3_1 (i := x9_) (by omega) (by omega); omega))
    have b6 : a2 < (a0.length : Int) := (by first | omega | first | (have hk := QI.at iv2_0 (i := x9_) (by omega) (by omega); omega) | (have hk := en111 (by assumption); omega) | (have hk := qi_pre iv3_0 iv3_1 (i := x9_) (by omega) (by omega); omega))
    refine rd_op (ov_iaddr rfl rfl (n_idx 1 b2 (by omega))) ?_
    refine rd_setO (k := 1) (v := vi (-1)) M0 rfl rfl rfl (by rw [All2.length_eq a5]; omega) rfl (fun c5 b7 => ?_)
    have b8 := All2.set (i := (a2).toNat) a5 (show tI.R (-1) (vi (-1)) from rfl)
    have b4 : (a0.set (a2).toNat (-1)).length ≤ 4611686018427387904 := by simp only [List.length_set]; exact a3
    have b3 : (a0.set (a2).toNat (-1)).length = x0.length := by simp only [List.length_set]; exact a4
    refine rd_nil ?_
    refine pn_blk ?_
    refine pn_seq ?_
    refine rc_region ?_
    refine bN i_add rfl rfl ?_
    refine mV rfl ?_
    refine rd_nil ?_
    refine pn_again ?_
    have hinc : wr (a2 + 1) = a2 + 1 := wr_of (by omega) (by omega)
    erw [hinc]
    exact wC (ih  b8 b3 b4 (by omega) (by omega) (by first | omega | exact NB.next (by assumption) (by omega) (by omega)) (by first | omega | exact NB.next (by assumption) (by omega) (by omega)) (Mem.sub b7 (.cons_cons _ (.cons_cons _ .slnil))) hres) rfl

theorem digraph_distances_L3_ok {S : List Fr} {res : (List Int)} {x0 : List (List Int)} {x1 : Int} {b0 : List Int} {g4 : Bool} {b1 : Int} {a1 e6 : List Int} {v0 : PV} {e7 : List PV} {e3 : PV} {f1 : List PV} {e4 g1 : PV} {c7 c4 c9 c8 h8 : Nat} (r0 : (tSl (tSl tI)).R x0 v0) (hn : x0.length ≤ 1000) (i5 : (List.replicate x0.length (0 : Int)).length = x0.length) (j1 : (List.replicate x0.length (0 : Int)).length ≤ 4611686018427387904) (f6 : b0.length = x0.length) (f5 : b0.length ≤ 4611686018427387904) (g9 : NB b0 (x0.length : Int)) (i7 : digraph_node x0 x1 = g4) (g7 : (!g4) = false) (j3 : ([x1] : List Int).length = 1) (j6 : ([x1] : List Int).length ≤ 4611686018427387904) (h0 : 0 ≤ x1) (h9 : x1 < (b0.length : Int)) (j5 : (b0.set (x1).toNat 0).length ≤ 4611686018427387904) (i6 : (b0.set (x1).toNat 0).length = x0.length) (i4 : isL e3 = true) (h7 : Wri e3 e7) (h5 : a1.length ≤ 4611686018427387904) (j7 : isL e4 = true) (i0 : Wri e4 f1) (i2 : e6.length ≤ 4611686018427387904) (c3 : QI x0.length e6 a1) (j0 : 0 ≤ b1) (g0 : (decide (b1 < (a1.length : Int))) = true) (j2 : a1.length = h8) (i1 : 0 ≤ b1) (h4 : b1 < (a1.length : Int)) (f4 : (tSl tI).R (ix x0 (ix a1 b1)) g1) {K4 : (List Int) → (List Int) → (List Int)}
    (k0 : ∀ {a2 a0 : List Int} {a4 : List PV} {a3 : PV} {a5 : List PV} {a7 : PV} (b6 : All2 tI.R a2 a4) (b8 : isL a3 = true) (b3 : Wri a3 a4) (b4 : a2.length ≤ 4611686018427387904) (a9 : All2 tI.R a0 a5) (b7 : isL a7 = true) (b5 : Wri a7 a5) (b2 : a0.length ≤ 4611686018427387904) (k3 : QI x0.length a0 a2) {h : Heap} (M0 : Mem h [⟨.op c9 c8 0, 31, 1, [a3]⟩, ⟨a3, 3, 1, a4⟩, ⟨.op c7 c4 0, 31, 1, [a7]⟩, ⟨a7, 3, 1, a5⟩]), K4 a2 a0 = res → PX Try.prog 4 S (QR Try.prog [(4, none)] (RF34 res)) [(0, v0), (5, .op c7 c4 0), (7, .op c9 c8 0), (8, .fn (.func 43) [] [.op c7 c4 0, .op c9 c8 0]), (9, vi b1)] h) :
    ∀ {m : Nat} {b9 : Int} {a2 a0 : List Int} {a4 : List PV} {a3 : PV} {a5 : List PV} {a7 : PV} (b6 : All2 tI.R a2 a4) (b8 : isL a3 = true) (b3 : Wri a3 a4) (b4 : a2.length ≤ 4611686018427387904) (a9 : All2 tI.R a0 a5) (b7 : isL a7 = true) (b5 : Wri a7 a5) (b2 : a0.length ≤ 4611686018427387904) (i8 : m = Int.toNat (((ix x0 (ix a1 b1)).length : Int) - b9)) (g3 : 0 ≤ b9) (a6 : QI x0.length a0 a2) (a8 : a1 <+: a2) {h : Heap} (M0 : Mem h [⟨.op c9 c8 0, 31, 1, [a3]⟩, ⟨a3, 3, 1, a4⟩, ⟨.op c7 c4 0, 31, 1, [a7]⟩, ⟨a7, 3, 1, a5⟩]), digraph_distances_L3 x0 b1 a1 K4 m b9 a2 a0 = res → RC Try.prog (.loop ac34_L3) S (QR Try.prog [(4, none)] (RF34 res)) [(51, vi b9), (50, vi ((ix x0 (ix a1 b1)).length : Int)), (49, g1), (10, vi (ix a1 b1)), (9, vi b1), (8, .fn (.func 43) [] [.op c7 c4 0, .op c9 c8 0]), (7, .op c9 c8 0), (5, .op c7 c4 0), (0, v0)] h := by
  have e9 := g7
  try simp only [qa, qaD] at e9
  have f2 := g0
  try simp only [qa, qaD] at f2
  intro m
  induction m with
  | zero =>
    intro b9 a2 a0 a4 a3 a5 a7 b6 b8 b3 b4 a9 b7 b5 b2 i8 g3 a6 a8 h M0 hres
    rw [digraph_distances_L3] at hres
    refine rc_loop ?_
    refine sR ?_
    refine bN i_lss rfl rfl ?_
    refine nS ?_
    refine rc_seq ?_
    refine rc_cond rfl ?_ ?_ <;> intro c <;> try simp only [qa, qaD] at c
    · omega
    refine rc_exit ?_
    refine px_seq ?_
    refine px_again ?_
    exact wP (k0 b6 b8 b3 b4 a9 b7 b5 b2 (by assumption) (Mem.sub M0 (.cons_cons _ (.cons_cons _ (.cons_cons _ (.cons_cons _ .slnil))))) hres) rfl
  | succ m ih =>
    intro b9 a2 a0 a4 a3 a5 a7 b6 b8 b3 b4 a9 b7 b5 b2 i8 g3 a6 a8 h M0 hres
    rw [digraph_distances_L3] at hres
    refine rc_loop ?_
    refine sR ?_
    refine bN i_lss rfl rfl ?_
    refine nS ?_
    refine rc_seq ?_
    refine rc_cond rfl ?_ ?_ <;> intro c <;> try simp only [qa, qaD] at c
    rotate_left
    · omega
    refine rc_skip ?_
    refine pn_seq ?_
    refine rc_seq ?_
    refine rc_block ?_
    refine sR ?_
    refine rd_op (ov_iaddr rfl rfl (slI f4 (by first | omega | first | (have hk := QI.at c3 (i := b1) (by omega) (by omega); omega) | (have hk := en111 (by assumption); omega) | (have hk := qi_pre a6 a8 (i := b1) (by omega) (by omega); omega)) (by first | omega | first | (have hk := QI.at c3 (i := b1) (by omega) (by omega); omega) | (have hk := en111 (by assumption); omega) | (have hk := qi_pre a6 a8 (i := b1) (by omega) (by omega); omega)))) ?_
    refine lR rfl rfl rfl ?_
    refine mV rfl ?_
    refine nR ?_
    refine mV rfl ?_
    refine mV rfl ?_
    obtain ⟨j9, e5, hres⟩ := let_ex hres
    have g5 := f33_ok (x1 := (ix (ix x0 (ix a1 b1)) b9)) r0 
    rw [e5] at g5
    have c2 := node_use e5
    refine cL g5 rfl rfl (clL_cons (TR.clo (tSl (tSl tI)) r0) (clL_cons rfl clL_nil)) ?_
    refine nS ?_
    refine rc_br hres rfl ?_ ?_ <;> clear hres <;> intro c hres <;> try simp only [qa, qaD] at c
    · refine rc_regionS ?_
      refine rs_step ?_
      refine mV rfl ?_
      refine rs_back ?_
      refine rs_step ?_
      refine mV rfl ?_
      refine rs_back ?_
      refine rs_step ?_
      refine rd_op (ov_load0 (k := 2) M0 rfl rfl (mem_one (k := 3) M0 rfl b7).2) ?_
      refine rs_back ?_
      refine rs_step ?_
      refine mV rfl ?_
      refine rs_back ?_
      refine rs_step ?_
      obtain ⟨g6, f7, e8, g2⟩ := wri_os (i := (ix a1 b1)) b5 a9 (by first | omega | first | (have hk := QI.at c3 (i := b1) (by omega) (by omega); omega) | (have hk := en111 (by assumption); omega) | (have hk := qi_pre a6 a8 (i := b1) (by omega) (by omega); omega)) (by first | omega | first | (have hk := QI.at c3 (i := b1) (by omega) (by omega); omega) | (have hk := en111 (by assumption); omega) | (have hk := qi_pre a6 a8 (i := b1) (by omega) (by omega); omega))
      subst g2
      have j4 : a0.length = e8 := by rw [mem_osn M0 (k := 3) rfl, All2.length_eq a9]
      have e0 : 0 ≤ (ix a1 b1) := (by first | omega | first | (have hk := QI.at c3 (i := b1) (by omega) (by omega); omega) | (have hk := en111 (by assumption); omega) | (have hk := qi_pre a6 a8 (i := b1) (by omega) (by omega); omega))
      have f0 : (ix a1 b1) < (a0.length : Int) := (by first | omega | first | (have hk := QI.at c3 (i := b1) (by omega) (by omega); omega) | (have hk := en111 (by assumption); omega) | (have hk := qi_pre a6 a8 (i := b1) (by omega) (by omega); omega))
      refine rd_op (ov_iaddr rfl rfl (n_idx 1 e0 (by omega))) ?_
      refine rs_back ?_
      refine rs_step ?_
      obtain ⟨i3, h3, f3⟩ := elem_at (i := (ix a1 b1)) a9 e0 f0
      have f3 : i3 = vi (ix a0 (ix a1 b1)) := f3; subst f3
      refine rd_op (ov_elem (k := 3) M0 rfl rfl h3 rfl) ?_
      refine rs_back ?_
      refine rs_step ?_
      refine bN i_add rfl rfl ?_
      refine rs_back ?_
      have h1 : Mem h [⟨.op c7 c4 0, 31, 1, [(.os g6 f7 0 e8)]⟩, ⟨.os g6 f7 0 e8, 3, 1, a5⟩, ⟨.op c9 c8 0, 31, 1, [a3]⟩, ⟨a3, 3, 1, a4⟩] := (Mem.front (k := 3) (Mem.front (k := 3) (Mem.front (k := 1) (Mem.front (k := 1) M0 rfl) rfl) rfl) rfl)
      obtain ⟨j8, g8, hres⟩ := let_ex hres
      obtain ⟨i9, h2, f9, e2⟩ := f43_ok (x0 := (ix (ix x0 (ix a1 b1)) b9)) (x1 := (wr ((ix a0 (ix a1 b1)) + 1))) (c0 := a0) (c1 := a2) a9 rfl b2 (.inr ⟨_, _, _, rfl⟩) b6 b8 b4 b3 h1 (by first | (have hk := c2 (by assumption); have hl := QI.len a6; omega) | (have hk := QI.qlen a6; omega)) (by first | (have hk := c2 (by assumption); have hl := QI.len a6; omega) | (have hk := QI.qlen a6; omega))
      rw [g8] at e2
      obtain ⟨c5, d8, c6, d3, h6, d7, d9, d6, d4, d2, d5, d1, d0, e1⟩ := e2
      replace e1 := e1.symm; subst e1
      refine rs_callXc rfl rfl f9 ?_
      refine rs_nil ?_
      refine pn_blk ?_
      refine pn_seq ?_
      refine rc_region ?_
      refine bN i_add rfl rfl ?_
      refine mV rfl ?_
      refine rd_nil ?_
      have f8 : Mem h2 [⟨.op c9 c8 0, 31, 1, [c6]⟩, ⟨c6, 3, 1, d3⟩, ⟨.op c7 c4 0, 31, 1, [c5]⟩, ⟨c5, 3, 1, d8⟩] := (Mem.front (k := 3) (Mem.front (k := 3) (Mem.front (k := 1) (Mem.front (k := 1) h6 rfl) rfl) rfl) rfl)
      refine pn_again ?_
      have hbd := sl_bound f4
      have hinc : wr (b9 + 1) = b9 + 1 := wr_of (by omega) (by omega)
      erw [hinc]
      exact wC (ih  d2 d5 d0 d1 d7 d9 d4 d6 (by omega) (by omega) (by first | assumption | (have hk := c2 (by assumption); have hp := qi_pre a6 a8 (i := b1) (by omega) (by omega); have hw := wr_of (n := ix a0 (ix a1 b1) + 1) (by omega) (by omega); have hv := QI.visit (d := wr (ix a0 (ix a1 b1) + 1)) a6 hk.1 hk.2 (by omega) (by omega) _ (by assumption); first | exact hv.1 | exact a8.trans hv.2.1)) (by first | assumption | (have hk := c2 (by assumption); have hp := qi_pre a6 a8 (i := b1) (by omega) (by omega); have hw := wr_of (n := ix a0 (ix a1 b1) + 1) (by omega) (by omega); have hv := QI.visit (d := wr (ix a0 (ix a1 b1) + 1)) a6 hk.1 hk.2 (by omega) (by omega) _ (by assumption); first | exact hv.1 | exact a8.trans hv.2.1)) (Mem.sub f8 (.cons_cons _ (.cons_cons _ (.cons_cons _ (.cons_cons _ .slnil))))) hres) rfl
    · refine rc_skip ?_
      refine pn_blk ?_
      refine pn_seq ?_
      refine rc_region ?_
      refine bN i_add rfl rfl ?_
      refine mV rfl ?_
      refine rd_nil ?_
      refine pn_again ?_
      have hbd := sl_bound f4
      have hinc : wr (b9 + 1) = b9 + 1 := wr_of (by omega) (by omega)
      erw [hinc]
      exact wC (ih  b6 b8 b3 b4 a9 b7 b5 b2 (by omega) (by omega) (by first | assumption | (have hk := c2 (by assumption); have hp := qi_pre a6 a8 (i := b1) (by omega) (by omega); have hw := wr_of (n := ix a0 (ix a1 b1) + 1) (by omega) (by omega); have hv := QI.visit (d := wr (ix a0 (ix a1 b1) + 1)) a6 hk.1 hk.2 (by omega) (by omega) _ (by assumption); first | exact hv.1 | exact a8.trans hv.2.1)) (by first | assumption | (have hk := c2 (by assumption); have hp := qi_pre a6 a8 (i := b1) (by omega) (by omega); have hw := wr_of (n := ix a0 (ix a1 b1) + 1) (by omega) (by omega); have hv := QI.visit (d := wr (ix a0 (ix a1 b1) + 1)) a6 hk.1 hk.2 (by omega) (by omega) _ (by assumption); first | exact hv.1 | exact a8.trans hv.2.1)) (Mem.sub M0 (.cons_cons _ (.cons_cons _ (.cons_cons _ (.cons_cons _ .slnil))))) hres) rfl

theorem digraph_distances_L2_ok {S : List Fr} {res : (List Int)} {x0 : List (List Int)} {x1 : Int} {a0 : List Int} {g1 : Bool} {v0 : PV} {d2 c7 d6 d5 : Nat} (r0 : (tSl (tSl tI)).R x0 v0) (hn : x0.length ≤ 1000) (f1 : (List.replicate x0.length (0 : Int)).length = x0.length) (f6 : (List.replicate x0.length (0 : Int)).length ≤ 4611686018427387904) (c5 : a0.length = x0.length) (c4 : a0.length ≤ 4611686018427387904) (d7 : NB a0 (x0.length : Int)) (f4 : digraph_node x0 x1 = g1) (e0 : (!g1) = false) (f8 : ([x1] : List Int).length = 1) (g2 : ([x1] : List Int).length ≤ 4611686018427387904) (e2 : 0 ≤ x1) (e6 : x1 < (a0.length : Int)) (f9 : (a0.set (x1).toNat 0).length ≤ 4611686018427387904) (f3 : (a0.set (x1).toNat 0).length = x0.length) {K2 : (List Int) → (List Int) → (List Int)}
    (g9 : ∀ {a1 a9 : List Int} {a2 : List PV} {a5 : PV} {a3 : List PV} {a6 : PV} (a7 : All2 tI.R a1 a2) (a4 : isL a5 = true) (b1 : Wri a5 a2) (b0 : a1.length ≤ 4611686018427387904) (b6 : All2 tI.R a9 a3) (b5 : isL a6 = true) (b2 : Wri a6 a3) (b3 : a9.length ≤ 4611686018427387904) {h : Heap} (M0 : Mem h [⟨.op d6 d5 0, 31, 1, [a5]⟩, ⟨a5, 3, 1, a2⟩, ⟨.op d2 c7 0, 31, 1, [a6]⟩, ⟨a6, 3, 1, a3⟩]), K2 a1 a9 = res → PX Try.prog 2 S (QR Try.prog [(4, none)] (RF34 res)) [(5, .op d2 c7 0)] h) :
    ∀ {m : Nat} {b4 : Int} {a1 a9 : List Int} {a2 : List PV} {a5 : PV} {a3 : List PV} {a6 : PV} (a7 : All2 tI.R a1 a2) (a4 : isL a5 = true) (b1 : Wri a5 a2) (b0 : a1.length ≤ 4611686018427387904) (b6 : All2 tI.R a9 a3) (b5 : isL a6 = true) (b2 : Wri a6 a3) (b3 : a9.length ≤ 4611686018427387904) (h0 : (x0.length : Int) - b4 ≤ (m : Int)) (a8 : QI x0.length a9 a1) (d0 : 0 ≤ b4) {h : Heap} (M0 : Mem h [⟨.op d6 d5 0, 31, 1, [a5]⟩, ⟨a5, 3, 1, a2⟩, ⟨.op d2 c7 0, 31, 1, [a6]⟩, ⟨a6, 3, 1, a3⟩]), digraph_distances_L2 x0 K2 m b4 a1 a9 = res → RC Try.prog (.loop ac34_L2) S (QR Try.prog [(4, none)] (RF34 res)) [(9, vi b4), (8, .fn (.func 43) [] [.op d2 c7 0, .op d6 d5 0]), (7, .op d6 d5 0), (5, .op d2 c7 0), (0, v0)] h := by
  have e4 := e0
  try simp only [qa, qaD] at e4
  intro m
  induction m with
  | zero =>
    intro b4 a1 a9 a2 a5 a3 a6 a7 a4 b1 b0 b6 b5 b2 b3 h0 a8 d0 h M0 hres
    rw [digraph_distances_L2] at hres
    refine rc_loop ?_
    refine rc_seq ?_
    refine sR ?_
    refine mV rfl ?_
    refine rd_op (ov_load0 (k := 0) M0 rfl rfl (mem_one (k := 1) M0 rfl a4).2) ?_
    refine rd_op (ov_bi rfl (own_len (k := 1) M0 rfl Try.underlying31 a4 a7 _)) ?_
    refine bN i_lss rfl rfl ?_
    refine nS ?_
    refine rc_cond rfl (fun c6 => ?_) (fun c6 => ?_)
    · exfalso
      try simp only [qa, qaD] at c6
      (have hk := QI.qlen a8; omega)
    · have hend := hres
      have e7 := c6
      try simp only [qa, qaD] at e7
      refine rc_exit ?_
      refine px_seq ?_
      refine px_again ?_
      exact wP (g9 a7 a4 b1 b0 b6 b5 b2 b3 (Mem.sub M0 (.cons_cons _ (.cons_cons _ (.cons_cons _ (.cons_cons _ .slnil))))) hres) rfl
  | succ m ih =>
    intro b4 a1 a9 a2 a5 a3 a6 a7 a4 b1 b0 b6 b5 b2 b3 h0 a8 d0 h M0 hres
    rw [digraph_distances_L2] at hres
    refine rc_loop ?_
    refine rc_seq ?_
    refine sR ?_
    refine mV rfl ?_
    refine rd_op (ov_load0 (k := 0) M0 rfl rfl (mem_one (k := 1) M0 rfl a4).2) ?_
    refine rd_op (ov_bi rfl (own_len (k := 1) M0 rfl Try.underlying31 a4 a7 _)) ?_
    refine bN i_lss rfl rfl ?_
    refine nS ?_
    refine rc_br hres rfl ?_ ?_ <;> clear hres <;> intro d9 hres <;> have e5 := d9 <;> try simp only [qa, qaD] at e5
    · refine rc_skip ?_
      refine pn_seq ?_
      refine rc_seq ?_
      refine rc_block ?_
      refine sR ?_
      refine rd_op (ov_load0 (k := 0) M0 rfl rfl (mem_one (k := 1) M0 rfl a4).2) ?_
      refine mV rfl ?_
      obtain ⟨h4, h3, g6, g0⟩ := wri_os (i := b4) b1 a7 (by first | omega | first | (have hk := QI.at a8 (i := b4) (by omega) (by omega); omega) | (have hk := en111 (by assumption); omega) | (have hk := qi_pre iv3_0 iv3_1 (i := b4) (by omega) (by omega); omega)) (by first | omega | first | (have hk := QI.at a8 (i := b4) (by omega) (by omega); omega) | (have hk := en111 (by assumption); omega) | (have hk := qi_pre iv3_0 iv3_1 (i := b4) (by omega) (by omega); omega))
      subst g0
      have f7 : a1.length = g6 := by rw [mem_osn M0 (k := 1) rfl, All2.length_eq a7]
      have b7 : 0 ≤ b4 := (by first | omega | first | (have hk := QI.at a8 (i := b4) (by omega) (by omega); omega) | (have hk := en111 (by assumption); omega) | (have hk := qi_pre iv3_0 iv3_1 (i := b4) (by omega) (by omega); omega))
      have c9 : b4 < (a1.length : Int) := (by first | omega | first | (have hk := QI.at a8 (i := b4) (by omega) (by omega); omega) | (have hk := en111 (by assumption); omega) | (have hk := qi_pre iv3_0 iv3_1 (i := b4) (by omega) (by omega); omega))
      refine rd_op (ov_iaddr rfl rfl (n_idx 1 b7 (by omega))) ?_
      obtain ⟨g7, g5, e3⟩ := elem_at (i := b4) a7 b7 c9
      have e3 : g7 = vi (ix a1 b4) := e3; subst e3
      refine rd_op (ov_elem (k := 1) M0 rfl rfl g5 rfl) ?_
      refine mV rfl ?_
      refine nR ?_
      refine mV rfl ?_
      refine mV rfl ?_
      obtain ⟨h2, g8, e8⟩ := sl_idx (i := (ix a1 b4)) r0 (by first | omega | first | (have hk := QI.at a8 (i := b4) (by omega) (by omega); omega) | (have hk := en111 (by assumption); omega) | (have hk := qi_pre iv3_0 iv3_1 (i := b4) (by omega) (by omega); omega)) (by first | omega | first | (have hk := QI.at a8 (i := b4) (by omega) (by omega); omega) | (have hk := en111 (by assumption); omega) | (have hk := qi_pre iv3_0 iv3_1 (i := b4) (by omega) (by omega); omega))
      refine rd_op (ov_iaddr rfl rfl g8) ?_
      refine lD e8 rfl rfl rfl ?_
      refine rd_op (ov_bi rfl (sl_len e8 Try.underlying31 _)) ?_
      refine mI rfl ?_
      refine nS ?_
      refine rc_block ?_
      refine wC (digraph_distances_L3_ok r0 hn f1 f6 c5 c4 d7 f4 e0 f8 g2 e2 e6 f9 f3 a4 b1 b0 b5 b2 b3 a8 d0 d9 f7 b7 c9 e8 ?_  a7 rfl (.inr ⟨_, _, _, rfl⟩) b0 b6 b5 b2 b3 rfl (by omega) (by first | assumption | exact List.prefix_refl _) (by first | assumption | exact List.prefix_refl _) (Mem.sub M0 (.cons_cons _ (.cons_cons _ (.cons_cons _ (.cons_cons _ .slnil))))) hres) rfl
      · intro d8 e1 e9 f5 f0 f2 d4 d3 b9 c2 d1 c8 c3 b8 g3 h1 g4 hres
        refine px_blk ?_
        refine pn_blk ?_
        refine pn_seq ?_
        refine rc_region ?_
        refine mV rfl ?_
        refine bN i_add rfl rfl ?_
        refine mV rfl ?_
        refine rd_nil ?_
        refine pn_again ?_
        exact wC (ih  d4 d3 b9 c2 d1 c8 c3 b8 (by (rw [wr_of (by omega) (by omega)]; omega)) (by first | assumption | (rw [wr_of (by omega) (by omega)]; omega)) (by first | assumption | (rw [wr_of (by omega) (by omega)]; omega)) (Mem.sub g4 (.cons_cons _ (.cons_cons _ (.cons_cons _ (.cons_cons _ .slnil))))) hres) rfl
    · refine rc_exit ?_
      refine px_seq ?_
      refine px_again ?_
      exact wP (g9 a7 a4 b1 b0 b6 b5 b2 b3 (Mem.sub M0 (.cons_cons _ (.cons_cons _ (.cons_cons _ (.cons_cons _ .slnil))))) hres) rfl

theorem f34_ok {x0 : List (List Int)} {x1 : Int} {v0 : PV} (r0 : (tSl (tSl tI)).R x0 v0) (hn : x0.length ≤ 1000) : ∃ r, FnR Try.prog 34 [v0, vi x1] r ∧ (tSl tI).R (digraph_distances x0 x1) r := by
  refine fnT (R := RF34) text34 rfl fun res hres => ?_
  unfold digraph_distances at hres
  refine sR ?_
  refine rd_op (v := nilS) (ov_move rfl) ?_
  refine nR ?_
  refine mV rfl ?_
  refine rd_op (ov_bi rfl (sl_len r0 Try.underlying22 _)) ?_
  have e3 : fits (x0.length) 8 = true := fits_of (by first | omega | (simp only [List.length_append, List.length_cons, List.length_nil] at *; omega)) (by first | omega | (simp only [List.length_append, List.length_cons, List.length_nil] at *; omega))
  refine rd_makeO (sz := 1) (ty := 3) (n := x0.length) (zz := vi 0) (Mem.nil ⟨0, []⟩) rfl rfl rfl rfl rfl e3 (fun a7 a6 g4 f5 => ?_)
  have e0 : All2 tI.R (List.replicate x0.length (0 : Int)) (List.replicate x0.length (vi 0)) := All2.rep (show tI.R (0 : Int) (vi 0) from rfl) _
  have a8 : (List.replicate x0.length (0 : Int)).length = x0.length := List.length_replicate
  have b4 : (List.replicate x0.length (0 : Int)).length ≤ 4611686018427387904 := by rw [a8]; exact fits_len e3
  refine rd_allocO (x := nilS) f5 rfl rfl (fun c2 b7 g9 e9 => ?_)
  refine rd_storeO (k := 0) (v := .os a7 a6 0 x0.length) e9 rfl rfl rfl (mem_cnt1 (k := 1) e9 rfl rfl) (fun f2 b0 => ?_)
  replace b0 : Mem f2 [⟨.op c2 b7 0, 31, 1, [.os a7 a6 0 x0.length]⟩, ⟨.os a7 a6 0 x0.length, 3, 1, (List.replicate x0.length (vi 0))⟩] := b0
  refine nS ?_
  refine rc_seq ?_
  refine sR ?_
  refine rd_op (ov_load0 (k := 0) b0 rfl rfl (mem_one (k := 1) b0 rfl rfl).2) ?_
  refine rd_op (ov_bi rfl (own_len (k := 1) b0 rfl Try.underlying31 rfl e0 _)) ?_
  refine mI rfl ?_
  refine nS ?_
  refine rc_block ?_
  refine wC (digraph_distances_L1_ok hn a8 b4 ?_  e0 a8 b4 rfl (by omega) (by first | omega | exact NB.nil) (by first | omega | exact NB.nil) (Mem.sub b0 (.cons_cons _ (.cons_cons _ .slnil))) hres) rfl
  · intro a0 a3 a2 a4 a1 c3 g5 b8 hres
    refine px_blk ?_
    refine pn_seq ?_
    refine rc_seq ?_
    refine sR ?_
    refine mV rfl ?_
    refine mV rfl ?_
    obtain ⟨h0, b2, hres⟩ := let_ex hres
    have e5 := f33_ok (x1 := x1) r0 
    rw [b2] at e5
    have c4 := node_use b2
    refine cL e5 rfl rfl (clL_cons (TR.clo (tSl (tSl tI)) r0) (clL_cons rfl clL_nil)) ?_
    refine rd_op (ov_not rfl) ?_
    refine nS ?_
    refine rc_br hres rfl ?_ ?_ <;> clear hres <;> intro c8 hres <;> have c9 := c8 <;> try simp only [qa, qaD] at c9
    · refine sR ?_
      refine rd_op (ov_load0 (k := 0) b8 rfl rfl (mem_one (k := 1) b8 rfl rfl).2) ?_
      refine mV rfl ?_
      refine nS ?_
      obtain ⟨g7, f6, g2⟩ := own_sl (P := Try.prog) (k := 1) (t := tI) b8 rfl rfl a2 (Nat.le_trans a1 (by decide))
      subst hres
      exact rc_retV (.tmp rfl .nil) f6 g2
    · refine rc_skip ?_
      refine pn_seq ?_
      refine sR ?_
      refine mV rfl ?_
      refine rd_bslO (vs := [vi x1]) b8 rfl (all_cons rfl all_nil) (fun b6 b9 f7 d2 => ?_)
      have f3 : All2 tI.R ([x1] : List Int) [vi x1] := ⟨rfl, trivial⟩
      have c5 : ([x1] : List Int).length = 1 := rfl
      have c7 : ([x1] : List Int).length ≤ 4611686018427387904 := by rw [c5]; decide
      replace d2 : Mem f7 [⟨.os b6 b9 0 1, 3, 1, [vi x1]⟩, ⟨.op c2 b7 0, 31, 1, [.os a7 a6 0 x0.length]⟩, ⟨.os a7 a6 0 x0.length, 3, 1, a3⟩] := d2
      refine rd_allocO (x := nilS) d2 rfl rfl (fun e7 e6 h1 f0 => ?_)
      refine rd_storeO (k := 0) (v := .os b6 b9 0 1) f0 rfl rfl rfl (mem_cnt1 (k := 1) f0 rfl rfl) (fun f8 b5 => ?_)
      replace b5 : Mem f8 [⟨.op e7 e6 0, 31, 1, [.os b6 b9 0 1]⟩, ⟨.os b6 b9 0 1, 3, 1, [vi x1]⟩, ⟨.op c2 b7 0, 31, 1, [.os a7 a6 0 x0.length]⟩, ⟨.os a7 a6 0 x0.length, 3, 1, a3⟩] := b5
      refine nR ?_
      refine rd_op (v := .fn (.func 43) [] [.op c2 b7 0, .op e7 e6 0]) (ov_mkFunc rfl rfl) ?_
      refine mV rfl ?_
      refine nR ?_
      refine rd_op (ov_load0 (k := 2) b5 rfl rfl (mem_one (k := 3) b5 rfl rfl).2) ?_
      refine mV rfl ?_
      have b1 : 0 ≤ x1 := (by first | omega | first | (have hk := QI.at iv2_0 (i := x9_) (by omega) (by omega); omega) | (have hk := c4 (by assumption); omega) | (have hk := qi_pre iv3_0 iv3_1 (i := x9_) (by omega) (by omega); omega))
      have d1 : x1 < (a0.length : Int) := (by first | omega | first | (have hk := QI.at iv2_0 (i := x9_) (by omega) (by omega); omega) | (have hk := c4 (by assumption); omega) | (have hk := qi_pre iv3_0 iv3_1 (i := x9_) (by omega) (by omega); omega))
      refine rd_op (ov_iaddr rfl rfl (n_idx 1 b1 (by omega))) ?_
      refine rd_setO (k := 3) (v := vi 0) b5 rfl rfl rfl (by rw [All2.length_eq a2]; omega) rfl (fun g8 f4 => ?_)
      have g0 := All2.set (i := (x1).toNat) a2 (show tI.R 0 (vi 0) from rfl)
      have c6 : (a0.set (x1).toNat 0).length ≤ 4611686018427387904 := by simp only [List.length_set]; exact a1
      have e1 : (a0.set (x1).toNat 0).length = x0.length := by simp only [List.length_set]; exact a4
      refine nS ?_
      refine rc_seq ?_
      refine sR ?_
      refine mI rfl ?_
      refine nS ?_
      refine rc_block ?_
      refine wC (digraph_distances_L2_ok r0 hn a8 b4 a4 a1 c3 b2 c8 c5 c7 b1 d1 c6 e1 ?_  f3 rfl (.inr ⟨_, _, _, rfl⟩) c7 g0 rfl (.inr ⟨_, _, _, rfl⟩) c6 (by omega) (by first | omega | exact qi_new (by omega) (by assumption) (by omega) (by omega)) (by first | omega | exact qi_new (by omega) (by assumption) (by omega) (by omega)) (Mem.sub f4 (.cons_cons _ (.cons_cons _ (.cons_cons _ (.cons_cons _ .slnil))))) hres) rfl
      · intro d3 d6 d7 f1 d5 e2 e4 e8 d9 d8 b3 a5 d4 a9 g3 d0 hres
        refine px_blk ?_
        refine pn_seq ?_
        refine sR ?_
        refine rd_op (ov_load0 (k := 2) d0 rfl rfl (mem_one (k := 3) d0 rfl a5).2) ?_
        refine mV rfl ?_
        refine nS ?_
        obtain ⟨g6, g1, f9⟩ := own_sl (P := Try.prog) (k := 3) (t := tI) d0 rfl a5 b3 (Nat.le_trans a9 (by decide))
        subst hres
        exact rc_retV (.tmp rfl .nil) g1 f9

end Go.Proofs.Ytpdimhpjehfjeaa
