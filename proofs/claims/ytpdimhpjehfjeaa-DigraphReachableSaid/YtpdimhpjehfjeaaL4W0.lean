/-
  The code of each function does what its plain program says.
-/
import Derived.Test.YtpdimhpjehfjeaaKDef
import Derived.Test.YtpdimhpjehfjeaaL4Text
import Derived.Test.YtpdimhpjehfjeaaPbV
import Derived.Test.YtpdimhpjehfjeaaKCo
import Derived.Test.YtpdimhpjehfjeaaKLy
import Derived.Test.YtpdimhpjehfjeaaKGbOrSpDsUsOk
import Derived.Test.YtpdimhpjehfjeaaKIn
import Derived.Test.YtpdimhpjehfjeaaKUuRsLvTwLa
set_option linter.unusedVariables false
set_option linter.unusedSimpArgs false
set_option maxRecDepth 100000
namespace Go.Proofs.Ytpdimhpjehfjeaa
open Go Go.Pb Go.RowKit
def RF13 (res : Bool) (r : PV) : Prop := r = vb res
theorem law06_large_L1_ok {S : List Fr} {res : Bool} {x0 : List (List Int)} {v0 : PV} (r0 : (tSl (tSl tI)).R x0 v0) (a4 : (decide (24 < (x0.length : Int))) = false) {K0 : Unit → Bool}
    (a7 : K0 () = res → PX Try.prog 0 S (QR Try.prog [(2, none)] (RF13 res)) [] ⟨0, []⟩) :
    ∀ {m : Nat} {a0 : Int} (a6 : m = Int.toNat ((x0.length : Int) - a0)) (a3 : 0 ≤ a0), law06_large_L1 x0 K0 m a0 = res → RC Try.prog (.loop ac13_L1) S (QR Try.prog [(2, none)] (RF13 res)) [(3, vi a0), (0, v0)] ⟨0, []⟩ := by
  have a1 := a4
  try simp only [qa, qaD] at a1
  intro m
  induction m with
  | zero =>
    intro a0 a6 a3 hres
    rw [law06_large_L1] at hres
    refine rc_loop ?_
    refine rc_seq ?_
    refine sR ?_
    refine mV rfl ?_
    refine mV rfl ?_
    refine rd_op (ov_bi rfl (sl_len r0 Try.underlying22 _)) ?_
    refine bN i_lss rfl rfl ?_
    refine nS ?_
    refine rc_cond rfl ?_ ?_ <;> intro c <;> try simp only [qa, qaD] at c
    · omega
    refine rc_exit ?_
    refine px_seq ?_
    refine px_again ?_
    exact wP (a7  hres) rfl
  | succ m ih =>
    intro a0 a6 a3 hres
    rw [law06_large_L1] at hres
    refine rc_loop ?_
    refine rc_seq ?_
    refine sR ?_
    refine mV rfl ?_
    refine mV rfl ?_
    refine rd_op (ov_bi rfl (sl_len r0 Try.underlying22 _)) ?_
    refine bN i_lss rfl rfl ?_
    refine nS ?_
    refine rc_cond rfl ?_ ?_ <;> intro c <;> try simp only [qa, qaD] at c
    rotate_left
    · omega
    refine rc_skip ?_
    refine pn_seq ?_
    refine rc_seq ?_
    refine rc_block ?_
    refine sR ?_
    refine mV rfl ?_
    refine mV rfl ?_
    obtain ⟨a8, a5, a2⟩ := sl_idx (i := a0) r0 (by omega) (by omega)
    refine rd_op (ov_iaddr rfl rfl a5) ?_
    refine lD a2 rfl rfl rfl ?_
    refine rd_op (ov_bi rfl (sl_len a2 Try.underlying31 _)) ?_
    refine bN i_gtr rfl rfl ?_
    refine nS ?_
    refine rc_br hres rfl ?_ ?_ <;> clear hres <;> intro c hres <;> try simp only [qa, qaD] at c
    · refine sR ?_
      refine mB rfl ?_
      refine nS ?_
      exact rR hres rfl rfl rfl
    · refine rc_skip ?_
      refine pn_blk ?_
      refine pn_seq ?_
      refine rc_region ?_
      refine mV rfl ?_
      refine bN i_add rfl rfl ?_
      refine mV rfl ?_
      refine rd_nil ?_
      refine pn_again ?_
      have hbd := sl_bound r0
      have hinc : wr (a0 + 1) = a0 + 1 := wr_of (by omega) (by omega)
      erw [hinc]
      exact wC (ih   (by omega) (by omega) hres) rfl

theorem f13_ok {x0 : List (List Int)} {v0 : PV} (r0 : (tSl (tSl tI)).R x0 v0) : FnR Try.prog 13 [v0] (vb (law06_large x0)) := by
  refine fnS (R := RF13) text13 (fun _ h => h) rfl fun res hres => ?_
  unfold law06_large at hres
  refine sR ?_
  refine mB rfl ?_
  refine nS ?_
  refine rc_seq ?_
  refine sR ?_
  refine mV rfl ?_
  refine rd_op (ov_bi rfl (sl_len r0 Try.underlying22 _)) ?_
  refine bN i_gtr rfl rfl ?_
  refine nS ?_
  refine rc_br hres rfl ?_ ?_ <;> clear hres <;> intro a0 hres <;> have a1 := a0 <;> try simp only [qa, qaD] at a1
  · refine sR ?_
    refine mB rfl ?_
    refine nS ?_
    exact rR hres rfl rfl rfl
  · refine rc_skip ?_
    refine pn_seq ?_
    refine rc_seq ?_
    refine sR ?_
    refine mI rfl ?_
    refine nS ?_
    refine rc_block ?_
    refine wC (law06_large_L1_ok r0 a0 ?_  rfl (by omega) hres) rfl
    · intro  hres
      refine px_blk ?_
      refine pn_seq ?_
      refine sR ?_
      refine mB rfl ?_
      refine nS ?_
      exact rR hres rfl rfl rfl

def RF33 (res : Bool) (r : PV) : Prop := r = vb res
theorem f33_ok {x0 : List (List Int)} {x1 : Int} {v0 : PV} (r0 : (tSl (tSl tI)).R x0 v0) : FnR Try.prog 33 [v0, vi x1] (vb (digraph_node x0 x1)) := by
  refine fnS (R := RF33) text33 (fun _ h => h) rfl fun res hres => ?_
  unfold digraph_node at hres
  refine sR ?_
  refine mB rfl ?_
  refine nR ?_
  refine mV rfl ?_
  refine bN i_geq rfl rfl ?_
  refine mV rfl ?_
  refine rd_cutn 5 (d := 12) (v := vb ((decide (0 ≤ x1)) && (decide (x1 < (x0.length : Int))))) ?_ ?_
  · intro S Q r
    cases a1 : (decide (0 ≤ x1))
    · exact gN 4 rfl rfl rfl rfl rfl rfl
    · intro k
      have a0 := a1
      try simp only [qa, qaD] at a0
      refine rd_yes rfl rfl (ov_move rfl) ?_
      refine rd_yes rfl rfl (ov_move rfl) ?_
      refine rd_yes rfl rfl (ov_bi rfl (sl_len r0 Try.underlying22 _)) ?_
      refine rd_yes rfl rfl (ov_bin rfl rfl i_lss) ?_
      exact gK rfl rfl rfl rfl rfl k
  refine mV rfl ?_
  refine nS ?_
  exact rR hres rfl rfl rfl

def RF44 (a0 : PV) (R_ : List Ent) (res : List Int) (r : PV) (h : Heap) : Prop := ∃ es : List PV, Mem h (⟨a0, 3, 1, es⟩ :: R_) ∧ All2 tI.R res es ∧ res.length ≤ 4611686018427387904 ∧ Wri a0 es ∧ r = .tup []
theorem f44_ok {x0 : List Int} {a0 : PV} {a1 : List PV} {R_ : List Ent} {h_ : Heap} (q : All2 tI.R x0 a1) (ne : isL a0 = true) (hl : x0.length ≤ 4611686018427387904) (wi : Wri a0 a1) (M : Mem h_ (⟨a0, 3, 1, a1⟩ :: R_)) (hb : x0.length ≤ 1000000) : ∃ r a2, FnX Try.prog 44 [a0] h_ r a2 ∧ RF44 a0 R_ (slices_Sort__int_int_ x0) r a2 := by
  obtain ⟨r, h2, X, es', M2, q2, w2, hr⟩ := sort_int_X text44.enters Go.Proofs.Try.sortI_calls Go.Proofs.Try.sortI_none q ne hb wi M
  exact ⟨r, h2, X, es', M2, q2, by rw [slices_Sort__int_int_, List.length_mergeSort]; exact hl, w2, hr⟩

theorem f45_ok {x0 : List Int} {a0 : PV} {a1 : List PV} {R_ : List Ent} {h_ : Heap} (q : All2 tI.R x0 a1) (ne : isL a0 = true) (hl : x0.length ≤ 4611686018427387904) (wi : Wri a0 a1) (M : Mem h_ (⟨a0, 3, 1, a1⟩ :: R_)) : ∃ r a2, FnX Try.prog 45 [a0] h_ r a2 ∧ RF45 R_ (slices_Compact__int_int_ x0) r a2 := f45_cpt q ne hl wi M

def RF37 (res : (List (List Int))) (r : PV) : Prop := (tSl (tSl tI)).R res r
theorem digraph_clean_L2_ok {S : List Fr} {res : (List (List Int))} {x0 : List (List Int)} {a1 : Int} {b5 : List (List Int)} {v0 d1 : PV} {a8 a9 : Nat} (r0 : (tSl (tSl tI)).R x0 v0) (hs : Sm x0) (hn : x0.length ≤ 24) (f5 : (List.replicate x0.length ([] : List Int)).length = x0.length) (f6 : (List.replicate x0.length ([] : List Int)).length ≤ 4611686018427387904) (f1 : b5.length = x0.length) (f2 : b5.length ≤ 4611686018427387904) (g3 : 0 ≤ a1) (f9 : LB b5 (40 * a1)) (e5 : (decide (a1 < (x0.length : Int))) = true) (c4 : (tSl tI).R (ix x0 a1) d1) {K2 : (List (List Int)) → (List (List Int))}
    (g0 : ∀ {a0 : List (List Int)} {a2 : List PV} {a4 : List Ent} (a3 : Ns tI 3 a0 a2 a4) (a7 : a0.length = x0.length) (a6 : a0.length ≤ 4611686018427387904) (g4 : LB a0 (40 * a1 + 40)) {h : Heap} (M0 : Mem h (⟨.os a8 a9 0 x0.length, 31, 1, a2⟩ :: (a4 ++ []))), K2 a0 = res → PX Try.prog 2 S (QR Try.prog [(2, none)] (RF37 res)) [(0, v0), (3, .os a8 a9 0 x0.length), (4, vi a1), (11, v0), (12, vi (x0.length : Int)), (13, vi a1)] h) :
    ∀ {m : Nat} {a5 : Int} {a0 : List (List Int)} {a2 : List PV} {a4 : List Ent} (a3 : Ns tI 3 a0 a2 a4) (a7 : a0.length = x0.length) (a6 : a0.length ≤ 4611686018427387904) (f8 : m = Int.toNat (((ix x0 a1).length : Int) - a5)) (e4 : 0 ≤ a5) (b1 : LB a0 (40 * a1 + a5)) (b8 : a5 ≤ ((ix x0 a1).length : Int)) {h : Heap} (M0 : Mem h (⟨.os a8 a9 0 x0.length, 31, 1, a2⟩ :: (a4 ++ []))), digraph_clean_L2 x0 a1 K2 m a5 a0 = res → RC Try.prog (.loop ac37_L2) S (QR Try.prog [(2, none)] (RF37 res)) [(20, vi a5), (19, vi ((ix x0 a1).length : Int)), (18, d1), (13, vi a1), (12, vi (x0.length : Int)), (11, v0), (4, vi a1), (3, .os a8 a9 0 x0.length), (0, v0)] h := by
  have c5 := e5
  try simp only [qa, qaD] at c5
  intro m
  induction m with
  | zero =>
    intro a5 a0 a2 a4 a3 a7 a6 f8 e4 b1 b8 h M0 hres
    rw [digraph_clean_L2] at hres
    refine rc_loop ?_
    refine sR ?_
    refine bN i_lss rfl rfl ?_
    refine nS ?_
    refine rc_seq ?_
    refine rc_cond rfl ?_ ?_ <;> intro c <;> try simp only [qa, qaD] at c
    · omega
    refine rc_exit ?_
    refine px_seq ?_
    refine px_again ?_
    exact wP (g0 a3 a7 a6 (by (have hr := hs.r a1 (by omega) (by omega); exact LB.mono (by assumption) (by omega))) (Mem.sub M0 (.cons_cons _ (List.Sublist.append_left (List.Sublist.refl _) _))) hres) rfl
  | succ m ih =>
    intro a5 a0 a2 a4 a3 a7 a6 f8 e4 b1 b8 h M0 hres
    rw [digraph_clean_L2] at hres
    refine rc_loop ?_
    refine sR ?_
    refine bN i_lss rfl rfl ?_
    refine nS ?_
    refine rc_seq ?_
    refine rc_cond rfl ?_ ?_ <;> intro c <;> try simp only [qa, qaD] at c
    rotate_left
    · omega
    refine rc_skip ?_
    refine pn_seq ?_
    refine rc_seq ?_
    refine rc_block ?_
    refine sR ?_
    refine rd_op (ov_iaddr rfl rfl (slI c4 (by omega) (by omega))) ?_
    refine lR rfl rfl rfl ?_
    refine mV rfl ?_
    refine nR ?_
    refine mV rfl ?_
    refine mV rfl ?_
    obtain ⟨g2, c8, hres⟩ := let_ex hres
    have e2 := f33_ok (x1 := (ix (ix x0 a1) a5)) r0 
    rw [c8] at e2
    refine cL e2 rfl rfl (clL_cons (TR.clo (tSl (tSl tI)) r0) (clL_cons rfl clL_nil)) ?_
    refine nS ?_
    refine rc_br hres rfl ?_ ?_ <;> clear hres <;> intro c hres <;> try simp only [qa, qaD] at c
    · refine rc_region ?_
      refine mV rfl ?_
      refine mV rfl ?_
      refine mV rfl ?_
      refine mV rfl ?_
      have b4 : 0 ≤ a1 := (by omega)
      have c7 : a1 < (a0.length : Int) := (by omega)
      refine rd_op (ov_iaddr rfl rfl (n_idx 1 b4 (by omega))) ?_
      obtain ⟨f4, b0, e6, d0, e8, d9, f7, d8⟩ := ns_at (i := a1) a3 b4 c7
      have b3 : Mem h (⟨f4, 3, 1, b0⟩ :: ⟨.os a8 a9 0 x0.length, 31, 1, a2⟩ :: ((a4.eraseIdx (a1).toNat) ++ [])) := ns_focus (C := [⟨.os a8 a9 0 x0.length, 31, 1, a2⟩]) M0 d0
      refine rd_op (ov_elem (k := 1) b3 rfl rfl e6 (mem_one (k := 0) b3 rfl d9).2) ?_
      refine mV rfl ?_
      refine rd_op (v := .fs true [vi (ix (ix x0 a1) a5)]) (ov_bslice rfl (all_cons rfl all_nil)) ?_
      have e9 : (tSl tI).R ([(ix (ix x0 a1) a5)] : List Int) (.fs true [vi (ix (ix x0 a1) a5)]) := sl_fs ⟨rfl, trivial⟩ (by simp)
      obtain ⟨b2, d7, b9⟩ := src_of (t := tI) (h := h) e9
      have e1 : fits (b0.length + b2.length) 8 = true := by rw [All2.length_eq e8, All2.length_eq b9]; (try simp only [List.length_cons, List.length_nil]); exact fits_of (by first | omega | (have hk := b1 a1 (by omega) (by omega); have hr := hs.r a1 (by omega) (by omega); first | omega | (simp only [List.length_cons, List.length_nil]; omega))) (by first | omega | (have hk := b1 a1 (by omega) (by omega); have hr := hs.r a1 (by omega) (by omega); first | omega | (simp only [List.length_cons, List.length_nil]; omega)))
      refine rd_appW (k := 0) (es := b0) (news := b2) b3 rfl rfl rfl d9 d8 d7 e1 (fun b7 g1 d3 d6 e7 => ?_)
      have d5 : All2 tI.R ((ix a0 a1) ++ ([(ix (ix x0 a1) a5)] : List Int)) (b0 ++ b2) := All2.app e8 b9
      have c9 : ((ix a0 a1) ++ ([(ix (ix x0 a1) a5)] : List Int)).length ≤ 4611686018427387904 := by rw [← All2.length_eq d5, List.length_append]; exact fits_len e1
      have c3 : 0 ≤ a1 := (by omega)
      have f0 : a1 < (a0.length : Int) := (by omega)
      refine rd_op (ov_iaddr rfl rfl (n_idx 1 c3 (by omega))) ?_
      refine rd_setO (k := 1) (v := b7) e7 rfl rfl rfl (by rw [(Ns.len a3).1]; omega) (mem_cnt1 (k := 0) e7 rfl d3) (fun e3 c2 => ?_)
      replace c2 : Mem e3 (⟨b7, 3, 1, (b0 ++ b2)⟩ :: ⟨.os a8 a9 0 x0.length, 31, 1, (a2.set (a1).toNat b7)⟩ :: ((a4.eraseIdx (a1).toNat) ++ [])) := c2
      obtain ⟨b6, c6, f3, d2⟩ : ∃ b6 c6, Ns tI 3 (a0.set (a1).toNat ((ix a0 a1) ++ ([(ix (ix x0 a1) a5)] : List Int))) b6 c6 ∧ Mem e3 (⟨.os a8 a9 0 x0.length, 31, 1, b6⟩ :: (c6 ++ [])) := ⟨_, _, ns_put a3  d5 d3 c9 d6, ns_back (C := [⟨.os a8 a9 0 x0.length, 31, 1, (a2.set (a1).toNat b7)⟩]) c2 (by rw [(Ns.len a3).2]; omega)⟩
      have e0 : (a0.set (a1).toNat ((ix a0 a1) ++ ([(ix (ix x0 a1) a5)] : List Int))).length = x0.length := by rw [List.length_set]; exact a7
      have d4 : (a0.set (a1).toNat ((ix a0 a1) ++ ([(ix (ix x0 a1) a5)] : List Int))).length ≤ 4611686018427387904 := by rw [List.length_set]; exact a6
      refine rd_nil ?_
      refine pn_blk ?_
      refine pn_seq ?_
      refine rc_region ?_
      refine bN i_add rfl rfl ?_
      refine mV rfl ?_
      refine rd_nil ?_
      refine pn_again ?_
      have hbd := sl_bound c4
      have hinc : wr (a5 + 1) = a5 + 1 := wr_of (by omega) (by omega)
      erw [hinc]
      exact wC (ih  f3 e0 d4 (by omega) (by omega) (by first | omega | exact LB.mono (by assumption) (by omega) | exact LB.mono (LB.app (by assumption) (by omega) (by omega)) (by omega)) (by first | omega | exact LB.mono (by assumption) (by omega) | exact LB.mono (LB.app (by assumption) (by omega) (by omega)) (by omega)) (Mem.sub d2 (.cons_cons _ (List.Sublist.append_left (List.Sublist.refl _) _))) hres) rfl
    · refine rc_skip ?_
      refine pn_blk ?_
      refine pn_seq ?_
      refine rc_region ?_
      refine bN i_add rfl rfl ?_
      refine mV rfl ?_
      refine rd_nil ?_
      refine pn_again ?_
      have hbd := sl_bound c4
      have hinc : wr (a5 + 1) = a5 + 1 := wr_of (by omega) (by omega)
      erw [hinc]
      exact wC (ih  a3 a7 a6 (by omega) (by omega) (by first | omega | exact LB.mono (by assumption) (by omega) | exact LB.mono (LB.app (by assumption) (by omega) (by omega)) (by omega)) (by first | omega | exact LB.mono (by assumption) (by omega) | exact LB.mono (LB.app (by assumption) (by omega) (by omega)) (by omega)) (Mem.sub M0 (.cons_cons _ (List.Sublist.append_left (List.Sublist.refl _) _))) hres) rfl

theorem digraph_clean_L1_ok {S : List Fr} {res : (List (List Int))} {x0 : List (List Int)} {v0 : PV} {a4 a5 : Nat} (r0 : (tSl (tSl tI)).R x0 v0) (hs : Sm x0) (hn : x0.length ≤ 24) (g1 : (List.replicate x0.length ([] : List Int)).length = x0.length) (g9 : (List.replicate x0.length ([] : List Int)).length ≤ 4611686018427387904) {K0 : (List (List Int)) → (List (List Int))}
    (j8 : ∀ {a2 : List (List Int)} {a6 : List PV} {b2 : List Ent} (b5 : Ns tI 3 a2 a6 b2) (a7 : a2.length = x0.length) (a8 : a2.length ≤ 4611686018427387904) {h : Heap} (M0 : Mem h (⟨.os a4 a5 0 x0.length, 31, 1, a6⟩ :: (b2 ++ []))), K0 a2 = res → PX Try.prog 0 S (QR Try.prog [(2, none)] (RF37 res)) [(3, .os a4 a5 0 x0.length)] h) :
    ∀ {m : Nat} {a1 : Int} {a2 : List (List Int)} {a6 : List PV} {b2 : List Ent} (b5 : Ns tI 3 a2 a6 b2) (a7 : a2.length = x0.length) (a8 : a2.length ≤ 4611686018427387904) (j3 : m = Int.toNat ((x0.length : Int) - a1)) (f7 : 0 ≤ a1) (d4 : LB a2 (40 * a1)) {h : Heap} (M0 : Mem h (⟨.os a4 a5 0 x0.length, 31, 1, a6⟩ :: (b2 ++ []))), digraph_clean_L1 x0 K0 m a1 a2 = res → RC Try.prog (.loop ac37_L1) S (QR Try.prog [(2, none)] (RF37 res)) [(13, vi a1), (12, vi (x0.length : Int)), (11, v0), (3, .os a4 a5 0 x0.length), (0, v0)] h := by
  intro m
  induction m with
  | zero =>
    intro a1 a2 a6 b2 b5 a7 a8 j3 f7 d4 h M0 hres
    rw [digraph_clean_L1] at hres
    refine rc_loop ?_
    refine sR ?_
    refine bN i_lss rfl rfl ?_
    refine nS ?_
    refine rc_seq ?_
    refine rc_cond rfl ?_ ?_ <;> intro c <;> try simp only [qa, qaD] at c
    · omega
    refine rc_exit ?_
    refine px_seq ?_
    refine px_again ?_
    exact wP (j8 b5 a7 a8 (Mem.sub M0 (.cons_cons _ (List.Sublist.append_left (List.Sublist.refl _) _))) hres) rfl
  | succ m ih =>
    intro a1 a2 a6 b2 b5 a7 a8 j3 f7 d4 h M0 hres
    rw [digraph_clean_L1] at hres
    refine rc_loop ?_
    refine sR ?_
    refine bN i_lss rfl rfl ?_
    refine nS ?_
    refine rc_seq ?_
    refine rc_cond rfl (fun b8 => ?_) (fun b8 => ?_)
    · have hgo := hres
      have f3 := b8
      try simp only [qa, qaD] at f3
      refine rc_skip ?_
      refine pn_seq ?_
      refine rc_seq ?_
      refine rc_block ?_
      refine sR ?_
      refine mV rfl ?_
      obtain ⟨j6, j1, f2⟩ := sl_idx (i := a1) r0 (by omega) (by omega)
      refine rd_op (ov_iaddr rfl rfl j1) ?_
      refine lD f2 rfl rfl rfl ?_
      refine mV rfl ?_
      refine mV rfl ?_
      refine nS ?_
      refine rc_seq ?_
      refine sR ?_
      refine mV rfl ?_
      refine rd_op (ov_bi rfl (sl_len f2 Try.underlying31 _)) ?_
      refine mI rfl ?_
      refine nS ?_
      refine rc_block ?_
      refine wC (digraph_clean_L2_ok r0 hs hn g1 g9 a7 a8 f7 d4 b8 f2 ?_  b5 a7 a8 rfl (by omega) (by first | omega | exact LB.mono (by assumption) (by omega)) (by first | omega | exact LB.mono (by assumption) (by omega)) (Mem.sub M0 (.cons_cons _ (List.Sublist.append_left (List.Sublist.refl _) _))) hres) rfl
      · intro a0 a3 b6 b1 c3 b9 b4 g8 i4 hres
        refine px_blk ?_
        refine pn_seq ?_
        refine rc_seq ?_
        refine rc_regionS ?_
        refine rs_step ?_
        refine mV rfl ?_
        refine rs_back ?_
        refine rs_step ?_
        refine mV rfl ?_
        refine rs_back ?_
        refine rs_step ?_
        have d3 : 0 ≤ a1 := (by omega)
        have f4 : a1 < (a0.length : Int) := (by omega)
        refine rd_op (ov_iaddr rfl rfl (n_idx 1 d3 (by omega))) ?_
        refine rs_back ?_
        refine rs_step ?_
        obtain ⟨h5, e3, e6, g2, i6, e8, i1, f8⟩ := ns_at (i := a1) b1 d3 f4
        have d2 : Mem g8 (⟨h5, 3, 1, e3⟩ :: ⟨.os a4 a5 0 x0.length, 31, 1, a3⟩ :: ((b6.eraseIdx (a1).toNat) ++ [])) := ns_focus (C := [⟨.os a4 a5 0 x0.length, 31, 1, a3⟩]) i4 g2
        refine rd_op (ov_elem (k := 1) d2 rfl rfl e6 (mem_one (k := 0) d2 rfl e8).2) ?_
        refine rs_back ?_
        have i9 : Mem g8 (⟨h5, 3, 1, e3⟩ :: ⟨.os a4 a5 0 x0.length, 31, 1, a3⟩ :: ((b6.eraseIdx (a1).toNat) ++ [])) := (Mem.front (k := 0) d2 rfl)
        obtain ⟨b3, e1, hres⟩ := let_ex hres
        obtain ⟨j5, f5, g5, e2⟩ := f44_ok (x0 := (ix a0 a1)) i6 e8 i1 f8 i9 (by (have hk := b4 a1 (by omega) (by omega); omega))
        rw [e1] at e2
        obtain ⟨h2, i7, c6, c9, d0, c8⟩ := e2
        replace c8 := c8.symm; subst c8
        refine rs_callXc rfl rfl g5 ?_
        have j4 := so_use e1
        obtain ⟨a9, c2, d8, h0⟩ : ∃ a9 c2, Ns tI 3 (a0.set (a1).toNat b3) a9 c2 ∧ Mem f5 (⟨.os a4 a5 0 x0.length, 31, 1, a9⟩ :: (c2 ++ [])) := ⟨_, _, ns_put0 b1 e6  c6 e8 c9 d0, ns_back (C := [⟨.os a4 a5 0 x0.length, 31, 1, a3⟩]) i7 (by rw [(Ns.len b1).2]; omega)⟩
        have h6 : (a0.set (a1).toNat b3).length = x0.length := by rw [List.length_set]; exact c3
        have i2 : (a0.set (a1).toNat b3).length ≤ 4611686018427387904 := by rw [List.length_set]; exact b9
        refine rs_nil ?_
        refine pn_seq ?_
        refine rc_regionS ?_
        refine rs_step ?_
        refine mV rfl ?_
        refine rs_back ?_
        refine rs_step ?_
        refine mV rfl ?_
        refine rs_back ?_
        refine rs_step ?_
        refine mV rfl ?_
        refine rs_back ?_
        refine rs_step ?_
        refine mV rfl ?_
        refine rs_back ?_
        refine rs_step ?_
        have d1 : 0 ≤ a1 := (by omega)
        have e7 : a1 < ((a0.set (a1).toNat b3).length : Int) := (by omega)
        refine rd_op (ov_iaddr rfl rfl (n_idx 1 d1 (by omega))) ?_
        refine rs_back ?_
        refine rs_step ?_
        obtain ⟨g7, e4, h7, h8, i8, g3, f9, h9⟩ := ns_at (i := a1) d8 d1 e7
        have c7 : Mem f5 (⟨g7, 3, 1, e4⟩ :: ⟨.os a4 a5 0 x0.length, 31, 1, a9⟩ :: ((c2.eraseIdx (a1).toNat) ++ [])) := ns_focus (C := [⟨.os a4 a5 0 x0.length, 31, 1, a9⟩]) h0 h8
        refine rd_op (ov_elem (k := 1) c7 rfl rfl h7 (mem_one (k := 0) c7 rfl g3).2) ?_
        refine rs_back ?_
        have i3 : Mem f5 (⟨g7, 3, 1, e4⟩ :: ⟨.os a4 a5 0 x0.length, 31, 1, a9⟩ :: ((c2.eraseIdx (a1).toNat) ++ [])) := (Mem.front (k := 0) c7 rfl)
        obtain ⟨e9, e0, hres⟩ := let_ex hres
        obtain ⟨j2, j7, i0, e5⟩ := f45_ok (x0 := (ix (a0.set (a1).toNat b3) a1)) i8 g3 f9 h9 i3 
        rw [e0] at e5
        obtain ⟨b0, d5, h4, d7, b7, d6, d9, c5⟩ := e5
        replace c5 := c5.symm; subst c5
        refine rs_callXc rfl rfl i0 ?_
        have g0 := co_use e0
        refine rs_step ?_
        have f6 : 0 ≤ a1 := (by omega)
        have i5 : a1 < ((a0.set (a1).toNat b3).length : Int) := (by omega)
        refine rd_op (ov_iaddr rfl rfl (n_idx 1 f6 (by omega))) ?_
        refine rs_back ?_
        refine rs_step ?_
        refine rd_setO (k := 1) (v := b0) h4 rfl rfl rfl (by rw [(Ns.len d8).1]; omega) (mem_cnt1 (k := 0) h4 rfl b7) (fun h3 f1 => ?_)
        replace f1 : Mem h3 (⟨b0, 3, 1, d5⟩ :: ⟨.os a4 a5 0 x0.length, 31, 1, (a9.set (a1).toNat b0)⟩ :: ((c2.eraseIdx (a1).toNat) ++ [])) := f1
        obtain ⟨c4, f0, j0, h1⟩ : ∃ c4 f0, Ns tI 3 ((a0.set (a1).toNat b3).set (a1).toNat e9) c4 f0 ∧ Mem h3 (⟨.os a4 a5 0 x0.length, 31, 1, c4⟩ :: (f0 ++ [])) := ⟨_, _, ns_put d8  d7 b7 d6 d9, ns_back (C := [⟨.os a4 a5 0 x0.length, 31, 1, (a9.set (a1).toNat b0)⟩]) f1 (by rw [(Ns.len d8).2]; omega)⟩
        have g4 : ((a0.set (a1).toNat b3).set (a1).toNat e9).length = x0.length := by rw [List.length_set]; exact h6
        have g6 : ((a0.set (a1).toNat b3).set (a1).toNat e9).length ≤ 4611686018427387904 := by rw [List.length_set]; exact i2
        refine rs_back ?_
        refine rs_nil ?_
        refine pn_blk ?_
        refine pn_seq ?_
        refine rc_region ?_
        refine bN i_add rfl rfl ?_
        refine mV rfl ?_
        refine rd_nil ?_
        refine pn_again ?_
        have hbd := sl_bound r0
        have hinc : wr (a1 + 1) = a1 + 1 := wr_of (by omega) (by omega)
        erw [hinc]
        exact wC (ih  j0 g4 g6 (by omega) (by omega) (by (have hk := b4 a1 (by omega) (by omega); exact LB.mono (LB.set (LB.set b4 (by omega) (by omega)) (by omega) (by rw [ix_set (by omega) (by omega) (by omega), if_pos rfl] at g0; omega)) (by omega))) (Mem.sub h1 (.cons_cons _ (List.Sublist.append_left (List.Sublist.refl _) _))) hres) rfl
    · exfalso
      try simp only [qa, qaD] at b8
      omega

theorem f37_ok {x0 : List (List Int)} {v0 : PV} (r0 : (tSl (tSl tI)).R x0 v0) (hs : Sm x0) : ∃ r, FnR Try.prog 37 [v0] r ∧ (tSl (tSl tI)).R (digraph_clean x0) r := by
  refine fnT (R := RF37) text37 rfl fun res hres => ?_
  unfold digraph_clean at hres
  have hn : x0.length ≤ 24 := hs.n
  refine sR ?_
  refine rd_op (v := nilS) (ov_move rfl) ?_
  refine nR ?_
  refine mV rfl ?_
  refine rd_op (ov_bi rfl (sl_len r0 Try.underlying22 _)) ?_
  have b0 : fits (x0.length) 24 = true := fits_of (by first | omega | (have hk := iv2_0 x13_ (by omega) (by omega); have hr := hs.r x13_ (by omega) (by omega); first | omega | (simp only [List.length_cons, List.length_nil]; omega))) (by first | omega | (have hk := iv2_0 x13_ (by omega) (by omega); have hr := hs.r x13_ (by omega) (by omega); first | omega | (simp only [List.length_cons, List.length_nil]; omega)))
  refine rd_makeO (sz := 1) (ty := 31) (n := x0.length) (zz := nilS) (Mem.nil ⟨0, []⟩) rfl rfl rfl rfl rfl b0 (fun a5 a7 b3 b7 => ?_)
  have c3 : All2 (tSl tI).R (List.replicate x0.length ([] : List Int)) (List.replicate x0.length nilS) := All2.rep (show (tSl tI).R ([] : List Int) nilS from sl_nil) _
  have a2 : (List.replicate x0.length ([] : List Int)).length = x0.length := List.length_replicate
  have a4 : (List.replicate x0.length ([] : List Int)).length ≤ 4611686018427387904 := by rw [a2]; exact fits_len b0
  obtain ⟨a6, b4, b2⟩ : ∃ a6, Ns tI 3 (List.replicate x0.length ([] : List Int)) (List.replicate x0.length nilS) a6 ∧ Mem b3 (⟨.os a5 a7 0 x0.length, 31, 1, (List.replicate x0.length nilS)⟩ :: (a6 ++ [])) := ⟨_, ns_rep _, ns_new (C := [⟨.os a5 a7 0 x0.length, 31, 1, (List.replicate x0.length nilS)⟩]) b7 3 1 _⟩
  refine mV rfl ?_
  refine nS ?_
  refine rc_seq ?_
  refine sR ?_
  refine mV rfl ?_
  refine rd_op (ov_bi rfl (sl_len r0 Try.underlying22 _)) ?_
  refine mI rfl ?_
  refine nS ?_
  refine rc_block ?_
  refine wC (digraph_clean_L1_ok r0 hs hn a2 a4 ?_  b4 a2 a4 rfl (by omega) (by exact lb_rep (by omega)) (Mem.sub b2 (.cons_cons _ (List.Sublist.append_left (List.Sublist.refl _) _))) hres) rfl
  · intro a8 a0 b1 a3 a9 a1 b9 b5 hres
    refine px_blk ?_
    refine pn_seq ?_
    refine sR ?_
    refine mV rfl ?_
    refine mV rfl ?_
    refine nS ?_
    obtain ⟨c2, b6, b8⟩ := ns_deep (P := Try.prog) (k := 0) (C := [⟨.os a5 a7 0 x0.length, 31, 1, a0⟩]) b5 rfl rfl a3 (Nat.le_trans a1 (by decide))
    subst hres
    exact rc_retV (.tmp rfl .nil) b6 b8

def RF29 (res : (List (List Int))) (r : PV) : Prop := (tSl (tSl tI)).R res r
theorem digraph_Reverse_L2_ok {S : List Fr} {res : (List (List Int))} {x0 : List (List Int)} {a4 : (List (List Int))} {a1 : Int} {b7 : List (List Int)} {e5 e9 : PV} {b0 b1 : Nat} (hs : Sm x0) (hn : x0.length ≤ 24) (f6 : (List.replicate x0.length ([] : List Int)).length = x0.length) (f7 : (List.replicate x0.length ([] : List Int)).length ≤ 4611686018427387904) (g0 : digraph_clean x0 = a4) (a9 : Gd x0.length a4) (g1 : a4.length = x0.length) (f2 : b7.length = x0.length) (f3 : b7.length ≤ 4611686018427387904) (g5 : 0 ≤ a1) (g2 : LB b7 (40 * a1)) (d0 : (decide (a1 < (a4.length : Int))) = true) (d6 : (tSl tI).R (ix a4 a1) e9) {K2 : (List (List Int)) → (List (List Int))}
    (g3 : ∀ {a0 : List (List Int)} {a3 : List PV} {a5 : List Ent} (a6 : Ns tI 3 a0 a3 a5) (a8 : a0.length = x0.length) (a7 : a0.length ≤ 4611686018427387904) (g6 : LB a0 (40 * a1 + 40)) {h : Heap} (M0 : Mem h (⟨.os b0 b1 0 x0.length, 31, 1, a3⟩ :: (a5 ++ []))), K2 a0 = res → PX Try.prog 2 S (QR Try.prog [(2, none)] (RF29 res)) [(3, .os b0 b1 0 x0.length), (12, e5), (13, vi (a4.length : Int)), (14, vi a1)] h) :
    ∀ {m : Nat} {a2 : Int} {a0 : List (List Int)} {a3 : List PV} {a5 : List Ent} (a6 : Ns tI 3 a0 a3 a5) (a8 : a0.length = x0.length) (a7 : a0.length ≤ 4611686018427387904) (f9 : m = Int.toNat (((ix a4 a1).length : Int) - a2)) (e4 : 0 ≤ a2) (b3 : LB a0 (40 * a1 + a2)) (c2 : a2 ≤ ((ix a4 a1).length : Int)) {h : Heap} (M0 : Mem h (⟨.os b0 b1 0 x0.length, 31, 1, a3⟩ :: (a5 ++ []))), digraph_Reverse_L2 a4 a1 K2 m a2 a0 = res → RC Try.prog (.loop ac29_L2) S (QR Try.prog [(2, none)] (RF29 res)) [(21, vi a2), (20, vi ((ix a4 a1).length : Int)), (19, e9), (14, vi a1), (13, vi (a4.length : Int)), (12, e5), (4, vi a1), (3, .os b0 b1 0 x0.length)] h := by
  have c5 := d0
  try simp only [qa, qaD] at c5
  intro m
  induction m with
  | zero =>
    intro a2 a0 a3 a5 a6 a8 a7 f9 e4 b3 c2 h M0 hres
    rw [digraph_Reverse_L2] at hres
    refine rc_loop ?_
    refine sR ?_
    refine bN i_lss rfl rfl ?_
    refine nS ?_
    refine rc_seq ?_
    refine rc_cond rfl ?_ ?_ <;> intro c <;> try simp only [qa, qaD] at c
    · omega
    refine rc_exit ?_
    refine px_seq ?_
    refine px_again ?_
    exact wP (g3 a6 a8 a7 (by (have hr := a9.r a1 (by omega) (by omega); exact LB.mono (by assumption) (by omega))) (Mem.sub M0 (.cons_cons _ (List.Sublist.append_left (List.Sublist.refl _) _))) hres) rfl
  | succ m ih =>
    intro a2 a0 a3 a5 a6 a8 a7 f9 e4 b3 c2 h M0 hres
    rw [digraph_Reverse_L2] at hres
    refine rc_loop ?_
    refine sR ?_
    refine bN i_lss rfl rfl ?_
    refine nS ?_
    refine rc_seq ?_
    refine rc_cond rfl ?_ ?_ <;> intro c <;> try simp only [qa, qaD] at c
    rotate_left
    · omega
    refine rc_skip ?_
    refine pn_seq ?_
    refine rc_seq ?_
    refine rc_block ?_
    refine sR ?_
    refine rd_op (ov_iaddr rfl rfl (slI d6 (by first | omega | (have hk := a9.at (k := a1) (i := a2) (by omega) (by omega) (by omega) (by omega); omega)) (by first | omega | (have hk := a9.at (k := a1) (i := a2) (by omega) (by omega) (by omega) (by omega); omega)))) ?_
    refine lR rfl rfl rfl ?_
    refine mV rfl ?_
    refine nS ?_
    refine rc_region ?_
    refine mV rfl ?_
    refine mV rfl ?_
    refine mV rfl ?_
    refine mV rfl ?_
    have b6 : 0 ≤ (ix (ix a4 a1) a2) := (by first | omega | (have hk := a9.at (k := a1) (i := a2) (by omega) (by omega) (by omega) (by omega); omega))
    have c8 : (ix (ix a4 a1) a2) < (a0.length : Int) := (by first | omega | (have hk := a9.at (k := a1) (i := a2) (by omega) (by omega) (by omega) (by omega); omega))
    refine rd_op (ov_iaddr rfl rfl (n_idx 1 b6 (by omega))) ?_
    obtain ⟨f5, b2, e6, d1, e8, e0, f8, d9⟩ := ns_at (i := (ix (ix a4 a1) a2)) a6 b6 c8
    have b5 : Mem h (⟨f5, 3, 1, b2⟩ :: ⟨.os b0 b1 0 x0.length, 31, 1, a3⟩ :: ((a5.eraseIdx ((ix (ix a4 a1) a2)).toNat) ++ [])) := ns_focus (C := [⟨.os b0 b1 0 x0.length, 31, 1, a3⟩]) M0 d1
    refine rd_op (ov_elem (k := 1) b5 rfl rfl e6 (mem_one (k := 0) b5 rfl e0).2) ?_
    refine mV rfl ?_
    refine rd_op (v := .fs true [vi a1]) (ov_bslice rfl (all_cons rfl all_nil)) ?_
    have f0 : (tSl tI).R ([a1] : List Int) (.fs true [vi a1]) := sl_fs ⟨rfl, trivial⟩ (by simp)
    obtain ⟨b4, d8, c3⟩ := src_of (t := tI) (h := h) f0
    have e2 : fits (b2.length + b4.length) 8 = true := by rw [All2.length_eq e8, All2.length_eq c3]; (try simp only [List.length_cons, List.length_nil]); exact fits_of (by first | omega | (have hr := a9.r a1 (by omega) (by omega); have hk := b3 (ix (ix a4 a1) a2) (by omega) (by omega); first | omega | (simp only [List.length_cons, List.length_nil]; omega))) (by first | omega | (have hr := a9.r a1 (by omega) (by omega); have hk := b3 (ix (ix a4 a1) a2) (by omega) (by omega); first | omega | (simp only [List.length_cons, List.length_nil]; omega)))
    refine rd_appW (k := 0) (es := b2) (news := b4) b5 rfl rfl rfl e0 d9 d8 e2 (fun b9 g4 d3 d7 e7 => ?_)
    have d5 : All2 tI.R ((ix a0 (ix (ix a4 a1) a2)) ++ ([a1] : List Int)) (b2 ++ b4) := All2.app e8 c3
    have c9 : ((ix a0 (ix (ix a4 a1) a2)) ++ ([a1] : List Int)).length ≤ 4611686018427387904 := by rw [← All2.length_eq d5, List.length_append]; exact fits_len e2
    have c6 : 0 ≤ (ix (ix a4 a1) a2) := (by first | omega | (have hk := a9.at (k := a1) (i := a2) (by omega) (by omega) (by omega) (by omega); omega))
    have f1 : (ix (ix a4 a1) a2) < (a0.length : Int) := (by first | omega | (have hk := a9.at (k := a1) (i := a2) (by omega) (by omega) (by omega) (by omega); omega))
    refine rd_op (ov_iaddr rfl rfl (n_idx 1 c6 (by omega))) ?_
    refine rd_setO (k := 1) (v := b9) e7 rfl rfl rfl (by rw [(Ns.len a6).1]; omega) (mem_cnt1 (k := 0) e7 rfl d3) (fun e3 c4 => ?_)
    replace c4 : Mem e3 (⟨b9, 3, 1, (b2 ++ b4)⟩ :: ⟨.os b0 b1 0 x0.length, 31, 1, (a3.set ((ix (ix a4 a1) a2)).toNat b9)⟩ :: ((a5.eraseIdx ((ix (ix a4 a1) a2)).toNat) ++ [])) := c4
    obtain ⟨b8, c7, f4, d2⟩ : ∃ b8 c7, Ns tI 3 (a0.set ((ix (ix a4 a1) a2)).toNat ((ix a0 (ix (ix a4 a1) a2)) ++ ([a1] : List Int))) b8 c7 ∧ Mem e3 (⟨.os b0 b1 0 x0.length, 31, 1, b8⟩ :: (c7 ++ [])) := ⟨_, _, ns_put a6  d5 d3 c9 d7, ns_back (C := [⟨.os b0 b1 0 x0.length, 31, 1, (a3.set ((ix (ix a4 a1) a2)).toNat b9)⟩]) c4 (by rw [(Ns.len a6).2]; omega)⟩
    have e1 : (a0.set ((ix (ix a4 a1) a2)).toNat ((ix a0 (ix (ix a4 a1) a2)) ++ ([a1] : List Int))).length = x0.length := by rw [List.length_set]; exact a8
    have d4 : (a0.set ((ix (ix a4 a1) a2)).toNat ((ix a0 (ix (ix a4 a1) a2)) ++ ([a1] : List Int))).length ≤ 4611686018427387904 := by rw [List.length_set]; exact a7
    refine rd_nil ?_
    refine pn_blk ?_
    refine pn_seq ?_
    refine rc_region ?_
    refine bN i_add rfl rfl ?_
    refine mV rfl ?_
    refine rd_nil ?_
    refine pn_again ?_
    have hbd := sl_bound d6
    have hinc : wr (a2 + 1) = a2 + 1 := wr_of (by omega) (by omega)
    erw [hinc]
    exact wC (ih  f4 e1 d4 (by omega) (by omega) (by first | omega | (have hk := a9.at (k := a1) (i := a2) (by omega) (by omega) (by omega) (by omega); exact LB.mono (LB.app (by assumption) (by omega) (by omega)) (by omega))) (by first | omega | (have hk := a9.at (k := a1) (i := a2) (by omega) (by omega) (by omega) (by omega); exact LB.mono (LB.app (by assumption) (by omega) (by omega)) (by omega))) (Mem.sub d2 (.cons_cons _ (List.Sublist.append_left (List.Sublist.refl _) _))) hres) rfl

theorem digraph_Reverse_L1_ok {S : List Fr} {res : (List (List Int))} {x0 : List (List Int)} {a7 : (List (List Int))} {c9 : PV} {b4 b5 : Nat} (hs : Sm x0) (hn : x0.length ≤ 24) (c5 : (List.replicate x0.length ([] : List Int)).length = x0.length) (c7 : (List.replicate x0.length ([] : List Int)).length ≤ 4611686018427387904) (c4 : digraph_clean x0 = a7) (c3 : (tSl (tSl tI)).R a7 c9) (b1 : Gd x0.length a7) (c8 : a7.length = x0.length) {K0 : (List (List Int)) → (List (List Int))}
    (d5 : ∀ {a0 : List (List Int)} {a1 : List PV} {a5 : List Ent} (a6 : Ns tI 3 a0 a1 a5) (a3 : a0.length = x0.length) (a2 : a0.length ≤ 4611686018427387904) {h : Heap} (M0 : Mem h (⟨.os b4 b5 0 x0.length, 31, 1, a1⟩ :: (a5 ++ []))), K0 a0 = res → PX Try.prog 0 S (QR Try.prog [(2, none)] (RF29 res)) [(3, .os b4 b5 0 x0.length)] h) :
    ∀ {m : Nat} {a4 : Int} {a0 : List (List Int)} {a1 : List PV} {a5 : List Ent} (a6 : Ns tI 3 a0 a1 a5) (a3 : a0.length = x0.length) (a2 : a0.length ≤ 4611686018427387904) (d3 : m = Int.toNat ((a7.length : Int) - a4)) (b8 : 0 ≤ a4) (b2 : LB a0 (40 * a4)) {h : Heap} (M0 : Mem h (⟨.os b4 b5 0 x0.length, 31, 1, a1⟩ :: (a5 ++ []))), digraph_Reverse_L1 a7 K0 m a4 a0 = res → RC Try.prog (.loop ac29_L1) S (QR Try.prog [(2, none)] (RF29 res)) [(14, vi a4), (13, vi (a7.length : Int)), (12, c9), (3, .os b4 b5 0 x0.length)] h := by
  intro m
  induction m with
  | zero =>
    intro a4 a0 a1 a5 a6 a3 a2 d3 b8 b2 h M0 hres
    rw [digraph_Reverse_L1] at hres
    refine rc_loop ?_
    refine sR ?_
    refine bN i_lss rfl rfl ?_
    refine nS ?_
    refine rc_seq ?_
    refine rc_cond rfl ?_ ?_ <;> intro c <;> try simp only [qa, qaD] at c
    · omega
    refine rc_exit ?_
    refine px_seq ?_
    refine px_again ?_
    exact wP (d5 a6 a3 a2 (Mem.sub M0 (.cons_cons _ (List.Sublist.append_left (List.Sublist.refl _) _))) hres) rfl
  | succ m ih =>
    intro a4 a0 a1 a5 a6 a3 a2 d3 b8 b2 h M0 hres
    rw [digraph_Reverse_L1] at hres
    refine rc_loop ?_
    refine sR ?_
    refine bN i_lss rfl rfl ?_
    refine nS ?_
    refine rc_seq ?_
    refine rc_cond rfl (fun a8 => ?_) (fun a8 => ?_)
    · have hgo := hres
      have b7 := a8
      try simp only [qa, qaD] at b7
      refine rc_skip ?_
      refine pn_seq ?_
      refine rc_seq ?_
      refine rc_block ?_
      refine sR ?_
      refine mV rfl ?_
      obtain ⟨d6, d1, b9⟩ := sl_idx (i := a4) c3 (by first | omega | (have hk := b1.at (k := a4) (i := x21_) (by omega) (by omega) (by omega) (by omega); omega)) (by first | omega | (have hk := b1.at (k := a4) (i := x21_) (by omega) (by omega) (by omega) (by omega); omega))
      refine rd_op (ov_iaddr rfl rfl d1) ?_
      refine lD b9 rfl rfl rfl ?_
      refine mV rfl ?_
      refine mV rfl ?_
      refine nR ?_
      refine mV rfl ?_
      refine rd_op (ov_bi rfl (sl_len b9 Try.underlying31 _)) ?_
      refine mI rfl ?_
      refine nS ?_
      refine rc_block ?_
      refine wC (digraph_Reverse_L2_ok hs hn c5 c7 c4 b1 c8 a3 a2 b8 b2 a8 b9 ?_  a6 a3 a2 rfl (by omega) (by first | omega | exact LB.mono (by assumption) (by omega)) (by first | omega | exact LB.mono (by assumption) (by omega)) (Mem.sub M0 (.cons_cons _ (List.Sublist.append_left (List.Sublist.refl _) _))) hres) rfl
      · intro b6 c2 c6 b3 a9 b0 d0 d4 d2 hres
        refine px_blk ?_
        refine pn_blk ?_
        refine pn_seq ?_
        refine rc_region ?_
        refine bN i_add rfl rfl ?_
        refine mV rfl ?_
        refine rd_nil ?_
        refine pn_again ?_
        have hbd := sl_bound c3
        have hinc : wr (a4 + 1) = a4 + 1 := wr_of (by omega) (by omega)
        erw [hinc]
        exact wC (ih  b3 a9 b0 (by omega) (by omega) (by exact LB.mono (by assumption) (by omega)) (Mem.sub d2 (.cons_cons _ (List.Sublist.append_left (List.Sublist.refl _) _))) hres) rfl
    · exfalso
      try simp only [qa, qaD] at a8
      omega

theorem f29_ok {x0 : List (List Int)} {v0 : PV} (r0 : (tSl (tSl tI)).R x0 v0) (hs : Sm x0) : ∃ r, FnR Try.prog 29 [v0] r ∧ (tSl (tSl tI)).R (digraph_Reverse x0) r := by
  refine fnT (R := RF29) text29 rfl fun res hres => ?_
  unfold digraph_Reverse at hres
  have hn : x0.length ≤ 24 := hs.n
  refine sR ?_
  refine rd_op (v := nilS) (ov_move rfl) ?_
  refine nR ?_
  refine mV rfl ?_
  refine rd_op (ov_bi rfl (sl_len r0 Try.underlying22 _)) ?_
  have b4 : fits (x0.length) 24 = true := fits_of (by first | omega | (have hr := a0.r x14_ (by omega) (by omega); have hk := iv2_0 (ix (ix a6 x14_) x21_) (by omega) (by omega); first | omega | (simp only [List.length_cons, List.length_nil]; omega))) (by first | omega | (have hr := a0.r x14_ (by omega) (by omega); have hk := iv2_0 (ix (ix a6 x14_) x21_) (by omega) (by omega); first | omega | (simp only [List.length_cons, List.length_nil]; omega)))
  refine rd_makeO (sz := 1) (ty := 31) (n := x0.length) (zz := nilS) (Mem.nil ⟨0, []⟩) rfl rfl rfl rfl rfl b4 (fun a9 b1 b9 c6 => ?_)
  have d0 : All2 (tSl tI).R (List.replicate x0.length ([] : List Int)) (List.replicate x0.length nilS) := All2.rep (show (tSl tI).R ([] : List Int) nilS from sl_nil) _
  have a5 : (List.replicate x0.length ([] : List Int)).length = x0.length := List.length_replicate
  have a7 : (List.replicate x0.length ([] : List Int)).length ≤ 4611686018427387904 := by rw [a5]; exact fits_len b4
  obtain ⟨b0, c3, b7⟩ : ∃ b0, Ns tI 3 (List.replicate x0.length ([] : List Int)) (List.replicate x0.length nilS) b0 ∧ Mem b9 (⟨.os a9 b1 0 x0.length, 31, 1, (List.replicate x0.length nilS)⟩ :: (b0 ++ [])) := ⟨_, ns_rep _, ns_new (C := [⟨.os a9 b1 0 x0.length, 31, 1, (List.replicate x0.length nilS)⟩]) c6 3 1 _⟩
  refine mV rfl ?_
  refine nS ?_
  refine rc_seq ?_
  refine sR ?_
  refine mV rfl ?_
  obtain ⟨a6, a4, hres⟩ := let_ex hres
  obtain ⟨c9, c5, a8⟩ := f37_ok  r0 (by first | assumption | omega)
  rw [a4] at a8
  have a0 : Gd x0.length a6 := clean_gd hs a4
  have b6 : a6.length = x0.length := a0.len
  refine cL c5 rfl rfl (clL_cons (TR.clo (tSl (tSl tI)) r0) clL_nil) ?_
  refine rd_op (ov_bi rfl (sl_len a8 Try.underlying22 _)) ?_
  refine mI rfl ?_
  refine nS ?_
  refine rc_block ?_
  refine wC (digraph_Reverse_L1_ok hs hn a5 a7 a4 a8 a0 b6 ?_  c3 a5 a7 rfl (by omega) (by exact lb_rep (by omega)) (Mem.sub b7 (.cons_cons _ (List.Sublist.append_left (List.Sublist.refl _) _))) hres) rfl
  · intro b2 a2 b5 a3 b3 a1 c7 c2 hres
    refine px_blk ?_
    refine pn_seq ?_
    refine sR ?_
    refine mV rfl ?_
    refine mV rfl ?_
    refine nS ?_
    obtain ⟨c8, b8, c4⟩ := ns_deep (P := Try.prog) (k := 0) (C := [⟨.os a9 b1 0 x0.length, 31, 1, a2⟩]) c2 rfl rfl a3 (Nat.le_trans a1 (by decide))
    subst hres
    exact rc_retV (.tmp rfl .nil) b8 c4

def RF43 (i2_ w2_ i3_ w3_ : Nat) (R_ : List Ent) (res : (List Int) × (List Int)) (r : PV) (h : Heap) : Prop := ∃ aF0_0 : PV, ∃ esF0_0 : List PV, ∃ aF1_0 : PV, ∃ esF1_0 : List PV, Mem h (⟨.op i2_ w2_ 0, 31, 1, [aF0_0]⟩ :: ⟨aF0_0, 3, 1, esF0_0⟩ :: ⟨.op i3_ w3_ 0, 31, 1, [aF1_0]⟩ :: ⟨aF1_0, 3, 1, esF1_0⟩ :: R_) ∧ (All2 tI.R res.1 esF0_0) ∧ (isL aF0_0 = true) ∧ (res.1.length ≤ 4611686018427387904) ∧ (Wri aF0_0 esF0_0) ∧ (All2 tI.R res.2 esF1_0) ∧ (isL aF1_0 = true) ∧ (res.2.length ≤ 4611686018427387904) ∧ (Wri aF1_0 esF1_0) ∧ r = .tup []
theorem f43_ok {x0 x1 : Int} {c0 c1 : List Int} {b0 : PV} {a1 : List PV} {a3 : PV} {a0 : List PV} {R_ : List Ent} {h_ : Heap} {b7 b6 b9 c9 : Nat} (a2 : All2 tI.R c0 a1) (b8 : isL b0 = true) (b2 : c0.length ≤ 4611686018427387904) (c5 : Wri b0 a1) (a9 : All2 tI.R c1 a0) (a8 : isL a3 = true) (c8 : c1.length ≤ 4611686018427387904) (b4 : Wri a3 a0) (M_ : Mem h_ (⟨.op b7 b6 0, 31, 1, [b0]⟩ :: ⟨b0, 3, 1, a1⟩ :: ⟨.op b9 c9 0, 31, 1, [a3]⟩ :: ⟨a3, 3, 1, a0⟩ :: R_)) (hw : 0 ≤ x0 ∧ x0 < (c0.length : Int)) (hq : c1.length ≤ 1000) : ∃ r f0, FnX Try.prog 43 [vi x0, vi x1, .op b7 b6 0, .op b9 c9 0] h_ r f0 ∧ RF43 b7 b6 b9 c9 R_ (digraph_distances_1 x0 x1 c0 c1) r f0 := by
  refine fnXX (R := RF43 b7 b6 b9 c9 R_) text43 rfl fun res hres => ?_
  unfold digraph_distances_1 at hres
  refine sR ?_
  refine rd_op (ov_load0 (k := 0) M_ rfl rfl (mem_one (k := 1) M_ rfl b8).2) ?_
  refine mV rfl ?_
  obtain ⟨a6, a7, a4, d8⟩ := wri_os (i := x0) c5 a2 (by omega) (by omega)
  subst d8
  have e0 : c0.length = a4 := by rw [mem_osn M_ (k := 1) rfl, All2.length_eq a2]
  have b3 : 0 ≤ x0 := (by omega)
  have c4 : x0 < (c0.length : Int) := (by omega)
  refine rd_op (ov_iaddr rfl rfl (n_idx 1 b3 (by omega))) ?_
  obtain ⟨e8, e5, c7⟩ := elem_at (i := x0) a2 b3 c4
  have c7 : e8 = vi (ix c0 x0) := c7; subst c7
  refine rd_op (ov_elem (k := 1) M_ rfl rfl e5 rfl) ?_
  refine bN i_lss rfl rfl ?_
  refine nS ?_
  refine rc_br hres rfl ?_ ?_ <;> clear hres <;> intro c hres <;> try simp only [qa, qaD] at c
  · refine sR ?_
    refine rd_op (ov_load0 (k := 0) M_ rfl rfl (mem_one (k := 1) M_ rfl rfl).2) ?_
    refine mV rfl ?_
    refine mV rfl ?_
    have c3 : 0 ≤ x0 := (by omega)
    have e7 : x0 < (c0.length : Int) := (by omega)
    refine rd_op (ov_iaddr rfl rfl (n_idx 1 c3 (by omega))) ?_
    refine rd_setO (k := 1) (v := vi x1) M_ rfl rfl rfl (by rw [All2.length_eq a2]; omega) rfl (fun e4 c6 => ?_)
    have e6 := All2.set (i := (x0).toNat) a2 (show tI.R x1 (vi x1) from rfl)
    have d6 : (c0.set (x0).toNat x1).length ≤ 4611686018427387904 := by simp only [List.length_set]; exact b2
    have e9 : (c0.set (x0).toNat x1).length = a4 := by simp only [List.length_set]; exact e0
    refine nS ?_
    refine rc_region ?_
    refine rd_op (ov_load0 (k := 2) c6 rfl rfl (mem_one (k := 3) c6 rfl a8).2) ?_
    refine mV rfl ?_
    refine rd_op (v := .fs true [vi x0]) (ov_bslice rfl (all_cons rfl all_nil)) ?_
    have e3 : (tSl tI).R ([x0] : List Int) (.fs true [vi x0]) := sl_fs ⟨rfl, trivial⟩ (by simp)
    obtain ⟨a5, d7, b5⟩ := src_of (t := tI) (h := e4) e3
    have d5 : fits (a0.length + a5.length) 8 = true := by rw [All2.length_eq a9, All2.length_eq b5]; (try simp only [List.length_cons, List.length_nil]); exact fits_of (by first | omega | (simp only [List.length_append, List.length_cons, List.length_nil] at *; omega)) (by first | omega | (simp only [List.length_append, List.length_cons, List.length_nil] at *; omega))
    refine rd_appW (k := 3) (es := a0) (news := a5) c6 rfl rfl rfl a8 b4 d7 d5 (fun b1 f1 d1 d3 e1 => ?_)
    have e2 : All2 tI.R (c1 ++ ([x0] : List Int)) (a0 ++ a5) := All2.app a9 b5
    have d0 : (c1 ++ ([x0] : List Int)).length ≤ 4611686018427387904 := by rw [← All2.length_eq e2, List.length_append]; exact fits_len d5
    refine rd_storeO (k := 2) (v := b1) e1 rfl rfl rfl (mem_cnt1 (k := 3) e1 rfl d1) (fun d2 c2 => ?_)
    replace c2 : Mem d2 (⟨.op b7 b6 0, 31, 1, [(.os a6 a7 0 a4)]⟩ :: ⟨.os a6 a7 0 a4, 3, 1, (a1.set (x0).toNat (vi x1))⟩ :: ⟨.op b9 c9 0, 31, 1, [b1]⟩ :: ⟨b1, 3, 1, (a0 ++ a5)⟩ :: R_) := c2
    refine rd_nil ?_
    have d9 : Mem d2 (⟨.op b7 b6 0, 31, 1, [(.os a6 a7 0 a4)]⟩ :: ⟨.os a6 a7 0 a4, 3, 1, (a1.set (x0).toNat (vi x1))⟩ :: ⟨.op b9 c9 0, 31, 1, [b1]⟩ :: ⟨b1, 3, 1, (a0 ++ a5)⟩ :: R_) := (Mem.front (k := 3) (Mem.front (k := 3) (Mem.front (k := 3) (Mem.front (k := 3) c2 rfl) rfl) rfl) rfl)
    subst hres
    exact pn_endX .nil ⟨(.os a6 a7 0 a4), (a1.set (x0).toNat (vi x1)), b1, (a0 ++ a5), Mem.sub d9 (.cons_cons _ (.cons_cons _ (.cons_cons _ (.cons_cons _ (List.Sublist.refl R_))))), e6, rfl, d6, (.inr ⟨_, _, _, rfl⟩), e2, d1, d0, d3, rfl⟩
  · refine rc_skip ?_
    have d4 : Mem h_ (⟨.op b7 b6 0, 31, 1, [(.os a6 a7 0 a4)]⟩ :: ⟨.os a6 a7 0 a4, 3, 1, a1⟩ :: ⟨.op b9 c9 0, 31, 1, [a3]⟩ :: ⟨a3, 3, 1, a0⟩ :: R_) := (Mem.front (k := 3) (Mem.front (k := 3) (Mem.front (k := 3) (Mem.front (k := 3) M_ rfl) rfl) rfl) rfl)
    subst hres
    exact pn_endX .nil ⟨(.os a6 a7 0 a4), a1, a3, a0, Mem.sub d4 (.cons_cons _ (.cons_cons _ (.cons_cons _ (.cons_cons _ (List.Sublist.refl R_))))), a2, rfl, b2, (.inr ⟨_, _, _, rfl⟩), a9, a8, c8, b4, rfl⟩

def RF34 (res : (List Int)) (r : PV) : Prop := (tSl tI).R res r
theorem digraph_distances_L1_ok {S : List Fr} {res : (List Int)} {x0 : List (List Int)} {x1 : Int} {v0 : PV} {a7 a9 a6 a8 : Nat} (hn : x0.length ≤ 1000) (b9 : (List.replicate x0.length (0 : Int)).length = x0.length) (c2 : (List.replicate x0.length (0 : Int)).length ≤ 4611686018427387904) {K0 : (List Int) → (List Int)}
    (c5 : ∀ {a0 : List Int} {a1 : List PV} (a5 : All2 tI.R a0 a1) (a4 : a0.length = x0.length) (a3 : a0.length ≤ 4611686018427387904) (c6 : NB a0 (x0.length : Int)) {h : Heap} (M0 : Mem h [⟨.op a6 a8 0, 31, 1, [.os a7 a9 0 x0.length]⟩, ⟨.os a7 a9 0 x0.length, 3, 1, a1⟩]), K0 a0 = res → PX Try.prog 0 S (QR Try.prog [(4, none)] (RF34 res)) [(0, v0), (1, vi x1), (5, .op a6 a8 0)] h) :
    ∀ {m : Nat} {a2 : Int} {a0 : List Int} {a1 : List PV} (a5 : All2 tI.R a0 a1) (a4 : a0.length = x0.length) (a3 : a0.length ≤ 4611686018427387904) (c3 : m = Int.toNat (((List.replicate x0.length (0 : Int)).length : Int) - a2)) (b4 : 0 ≤ a2) (b1 : NB a0 a2) (b0 : a2 ≤ (x0.length : Int)) {h : Heap} (M0 : Mem h [⟨.op a6 a8 0, 31, 1, [.os a7 a9 0 x0.length]⟩, ⟨.os a7 a9 0 x0.length, 3, 1, a1⟩]), digraph_distances_L1 K0 m a2 a0 = res → RC Try.prog (.loop ac34_L1) S (QR Try.prog [(4, none)] (RF34 res)) [(18, vi a2), (17, vi ((List.replicate x0.length (0 : Int)).length : Int)), (5, .op a6 a8 0), (1, vi x1), (0, v0)] h := by
  intro m
  induction m with
  | zero =>
    intro a2 a0 a1 a5 a4 a3 c3 b4 b1 b0 h M0 hres
    rw [digraph_distances_L1] at hres
    refine rc_loop ?_
    refine sR ?_
    refine bN i_lss rfl rfl ?_
    refine nS ?_
    refine rc_seq ?_
    refine rc_cond rfl ?_ ?_ <;> intro c <;> try simp only [qa, qaD] at c
    · omega
    refine rc_exit ?_
    refine px_seq ?_
    refine px_again ?_
    exact wP (c5 a5 a4 a3 (by exact NB.mono (by assumption) (by omega)) (Mem.sub M0 (.cons_cons _ (.cons_cons _ .slnil))) hres) rfl
  | succ m ih =>
    intro a2 a0 a1 a5 a4 a3 c3 b4 b1 b0 h M0 hres
    rw [digraph_distances_L1] at hres
    refine rc_loop ?_
    refine sR ?_
    refine bN i_lss rfl rfl ?_
    refine nS ?_
    refine rc_seq ?_
    refine rc_cond rfl ?_ ?_ <;> intro c <;> try simp only [qa, qaD] at c
    rotate_left
    · omega
    refine rc_skip ?_
    refine pn_seq ?_
    refine rc_seq ?_
    refine rc_block ?_
    refine sR ?_
    refine mV rfl ?_
    refine mV rfl ?_
    refine nS ?_
    refine rc_region ?_
    refine rd_op (ov_load0 (k := 0) M0 rfl rfl (mem_one (k := 1) M0 rfl rfl).2) ?_
    refine mV rfl ?_
    have b2 : 0 ≤ a2 := (by first | omega | first | (have hk := QI.at iv2_0 (i := x9_) (by omega) (by omega); omega) | (have hk := en111 (by assumption); omega) | (have hk := qi_pre iv3_0 iv3_1 (i := x9_) (by omega) (by omega); omega))
    have b7 : a2 < (a0.length : Int) := (by first | omega | first | (have hk := QI.at iv2_0 (i := x9_) (by omega) (by omega); omega) | (have hk := en111 (by assumption); omega) | (have hk := qi_pre iv3_0 iv3_1 (i := x9_) (by omega) (by omega); omega))
    refine rd_op (ov_iaddr rfl rfl (n_idx 1 b2 (by omega))) ?_
    refine rd_setO (k := 1) (v := vi (-1)) M0 rfl rfl rfl (by rw [All2.length_eq a5]; omega) rfl (fun c4 b8 => ?_)
    have b6 := All2.set (i := (a2).toNat) a5 (show tI.R (-1) (vi (-1)) from rfl)
    have b5 : (a0.set (a2).toNat (-1)).length ≤ 4611686018427387904 := by simp only [List.length_set]; exact a3
    have b3 : (a0.set (a2).toNat (-1)).length = x0.length := by simp only [List.length_set]; exact a4
    refine rd_nil ?_
    refine pn_blk ?_
    refine pn_seq ?_
    refine rc_region ?_
    refine bN i_add rfl rfl ?_
    refine mV rfl ?_
    refine rd_nil ?_
    refine pn_again ?_
    have hinc : wr (a2 + 1) = a2 + 1 := wr_of (by omega) (by omega)
    erw [hinc]
    exact wC (ih  b6 b3 b5 (by omega) (by omega) (by first | omega | exact NB.next (by assumption) (by omega) (by omega)) (by first | omega | exact NB.next (by assumption) (by omega) (by omega)) (Mem.sub b8 (.cons_cons _ (.cons_cons _ .slnil))) hres) rfl

theorem digraph_distances_L3_ok {S : List Fr} {res : (List Int)} {x0 : List (List Int)} {x1 : Int} {b0 : List Int} {g7 : Bool} {b1 : Int} {a1 e4 : List Int} {v0 : PV} {f0 : List PV} {e6 : PV} {f1 : List PV} {e5 g0 : PV} {c8 c7 c5 c9 h2 : Nat} (r0 : (tSl (tSl tI)).R x0 v0) (hn : x0.length ≤ 1000) (i9 : (List.replicate x0.length (0 : Int)).length = x0.length) (j1 : (List.replicate x0.length (0 : Int)).length ≤ 4611686018427387904) (f5 : b0.length = x0.length) (f6 : b0.length ≤ 4611686018427387904) (g9 : NB b0 (x0.length : Int)) (j7 : digraph_node x0 x1 = g7) (f8 : (!g7) = false) (i4 : ([x1] : List Int).length = 1) (i8 : ([x1] : List Int).length ≤ 4611686018427387904) (h5 : 0 ≤ x1) (h7 : x1 < (b0.length : Int)) (j0 : (b0.set (x1).toNat 0).length ≤ 4611686018427387904) (i5 : (b0.set (x1).toNat 0).length = x0.length) (j5 : isL e6 = true) (i1 : Wri e6 f0) (h9 : a1.length ≤ 4611686018427387904) (j3 : isL e5 = true) (h4 : Wri e5 f1) (i3 : e4.length ≤ 4611686018427387904) (c3 : QI x0.length e4 a1) (i6 : 0 ≤ b1) (g8 : (decide (b1 < (a1.length : Int))) = true) (j4 : a1.length = h2) (h0 : 0 ≤ b1) (h3 : b1 < (a1.length : Int)) (f2 : (tSl tI).R (ix x0 (ix a1 b1)) g0) {K4 : (List Int) → (List Int) → (List Int)}
    (j9 : ∀ {a2 a0 : List Int} {a5 : List PV} {a3 : PV} {a4 : List PV} {a7 : PV} (b8 : All2 tI.R a2 a5) (b7 : isL a3 = true) (b4 : Wri a3 a5) (b3 : a2.length ≤ 4611686018427387904) (a9 : All2 tI.R a0 a4) (b6 : isL a7 = true) (b2 : Wri a7 a4) (b5 : a0.length ≤ 4611686018427387904) (k3 : QI x0.length a0 a2) {h : Heap} (M0 : Mem h [⟨.op c5 c9 0, 31, 1, [a3]⟩, ⟨a3, 3, 1, a5⟩, ⟨.op c8 c7 0, 31, 1, [a7]⟩, ⟨a7, 3, 1, a4⟩]), K4 a2 a0 = res → PX Try.prog 4 S (QR Try.prog [(4, none)] (RF34 res)) [(0, v0), (5, .op c8 c7 0), (7, .op c5 c9 0), (8, .fn (.func 43) [] [.op c8 c7 0, .op c5 c9 0]), (9, vi b1)] h) :
    ∀ {m : Nat} {b9 : Int} {a2 a0 : List Int} {a5 : List PV} {a3 : PV} {a4 : List PV} {a7 : PV} (b8 : All2 tI.R a2 a5) (b7 : isL a3 = true) (b4 : Wri a3 a5) (b3 : a2.length ≤ 4611686018427387904) (a9 : All2 tI.R a0 a4) (b6 : isL a7 = true) (b2 : Wri a7 a4) (b5 : a0.length ≤ 4611686018427387904) (j2 : m = Int.toNat (((ix x0 (ix a1 b1)).length : Int) - b9)) (f9 : 0 ≤ b9) (a6 : QI x0.length a0 a2) (a8 : a1 <+: a2) {h : Heap} (M0 : Mem h [⟨.op c5 c9 0, 31, 1, [a3]⟩, ⟨a3, 3, 1, a5⟩, ⟨.op c8 c7 0, 31, 1, [a7]⟩, ⟨a7, 3, 1, a4⟩]), digraph_distances_L3 x0 b1 a1 K4 m b9 a2 a0 = res → RC Try.prog (.loop ac34_L3) S (QR Try.prog [(4, none)] (RF34 res)) [(51, vi b9), (50, vi ((ix x0 (ix a1 b1)).length : Int)), (49, g0), (10, vi (ix a1 b1)), (9, vi b1), (8, .fn (.func 43) [] [.op c8 c7 0, .op c5 c9 0]), (7, .op c5 c9 0), (5, .op c8 c7 0), (0, v0)] h := by
  have e7 := f8
  try simp only [qa, qaD] at e7
  have e9 := g8
  try simp only [qa, qaD] at e9
  intro m
  induction m with
  | zero =>
    intro b9 a2 a0 a5 a3 a4 a7 b8 b7 b4 b3 a9 b6 b2 b5 j2 f9 a6 a8 h M0 hres
    rw [digraph_distances_L3] at hres
    refine rc_loop ?_
    refine sR ?_
    refine bN i_lss rfl rfl ?_
    refine nS ?_
    refine rc_seq ?_
    refine rc_cond rfl ?_ ?_ <;> intro c <;> try simp only [qa, qaD] at c
    · omega
    refine rc_exit ?_
    refine px_seq ?_
    refine px_again ?_
    exact wP (j9 b8 b7 b4 b3 a9 b6 b2 b5 (by assumption) (Mem.sub M0 (.cons_cons _ (.cons_cons _ (.cons_cons _ (.cons_cons _ .slnil))))) hres) rfl
  | succ m ih =>
    intro b9 a2 a0 a5 a3 a4 a7 b8 b7 b4 b3 a9 b6 b2 b5 j2 f9 a6 a8 h M0 hres
    rw [digraph_distances_L3] at hres
    refine rc_loop ?_
    refine sR ?_
    refine bN i_lss rfl rfl ?_
    refine nS ?_
    refine rc_seq ?_
    refine rc_cond rfl ?_ ?_ <;> intro c <;> try simp only [qa, qaD] at c
    rotate_left
    · omega
    refine rc_skip ?_
    refine pn_seq ?_
    refine rc_seq ?_
    refine rc_block ?_
    refine sR ?_
    refine rd_op (ov_iaddr rfl rfl (slI f2 (by first | omega | first | (have hk := QI.at c3 (i := b1) (by omega) (by omega); omega) | (have hk := en111 (by assumption); omega) | (have hk := qi_pre a6 a8 (i := b1) (by omega) (by omega); omega)) (by first | omega | first | (have hk := QI.at c3 (i := b1) (by omega) (by omega); omega) | (have hk := en111 (by assumption); omega) | (have hk := qi_pre a6 a8 (i := b1) (by omega) (by omega); omega)))) ?_
    refine lR rfl rfl rfl ?_
    refine mV rfl ?_
    refine nR ?_
    refine mV rfl ?_
    refine mV rfl ?_
    obtain ⟨j8, e3, hres⟩ := let_ex hres
    have g5 := f33_ok (x1 := (ix (ix x0 (ix a1 b1)) b9)) r0 
    rw [e3] at g5
    have c2 := node_use e3
    refine cL g5 rfl rfl (clL_cons (TR.clo (tSl (tSl tI)) r0) (clL_cons rfl clL_nil)) ?_
    refine nS ?_
    refine rc_br hres rfl ?_ ?_ <;> clear hres <;> intro c hres <;> try simp only [qa, qaD] at c
    · refine rc_regionS ?_
      refine rs_step ?_
      refine mV rfl ?_
      refine rs_back ?_
      refine rs_step ?_
      refine mV rfl ?_
      refine rs_back ?_
      refine rs_step ?_
      refine rd_op (ov_load0 (k := 2) M0 rfl rfl (mem_one (k := 3) M0 rfl b6).2) ?_
      refine rs_back ?_
      refine rs_step ?_
      refine mV rfl ?_
      refine rs_back ?_
      refine rs_step ?_
      obtain ⟨g4, g2, f4, g3⟩ := wri_os (i := (ix a1 b1)) b2 a9 (by first | omega | first | (have hk := QI.at c3 (i := b1) (by omega) (by omega); omega) | (have hk := en111 (by assumption); omega) | (have hk := qi_pre a6 a8 (i := b1) (by omega) (by omega); omega)) (by first | omega | first | (have hk := QI.at c3 (i := b1) (by omega) (by omega); omega) | (have hk := en111 (by assumption); omega) | (have hk := qi_pre a6 a8 (i := b1) (by omega) (by omega); omega))
      subst g3
      have i7 : a0.length = f4 := by rw [mem_osn M0 (k := 3) rfl, All2.length_eq a9]
      have e1 : 0 ≤ (ix a1 b1) := (by first | omega | first | (have hk := QI.at c3 (i := b1) (by omega) (by omega); omega) | (have hk := en111 (by assumption); omega) | (have hk := qi_pre a6 a8 (i := b1) (by omega) (by omega); omega))
      have f3 : (ix a1 b1) < (a0.length : Int) := (by first | omega | first | (have hk := QI.at c3 (i := b1) (by omega) (by omega); omega) | (have hk := en111 (by assumption); omega) | (have hk := qi_pre a6 a8 (i := b1) (by omega) (by omega); omega))
      refine rd_op (ov_iaddr rfl rfl (n_idx 1 e1 (by omega))) ?_
      refine rs_back ?_
      refine rs_step ?_
      obtain ⟨h1, h8, e8⟩ := elem_at (i := (ix a1 b1)) a9 e1 f3
      have e8 : h1 = vi (ix a0 (ix a1 b1)) := e8; subst e8
      refine rd_op (ov_elem (k := 3) M0 rfl rfl h8 rfl) ?_
      refine rs_back ?_
      refine rs_step ?_
      refine bN i_add rfl rfl ?_
      refine rs_back ?_
      have h6 : Mem h [⟨.op c8 c7 0, 31, 1, [(.os g4 g2 0 f4)]⟩, ⟨.os g4 g2 0 f4, 3, 1, a4⟩, ⟨.op c5 c9 0, 31, 1, [a3]⟩, ⟨a3, 3, 1, a5⟩] := (Mem.front (k := 3) (Mem.front (k := 3) (Mem.front (k := 1) (Mem.front (k := 1) M0 rfl) rfl) rfl) rfl)
      obtain ⟨k0, g1, hres⟩ := let_ex hres
      obtain ⟨j6, i0, g6, e2⟩ := f43_ok (x0 := (ix (ix x0 (ix a1 b1)) b9)) (x1 := (wr ((ix a0 (ix a1 b1)) + 1))) (c0 := a0) (c1 := a2) a9 rfl b5 (.inr ⟨_, _, _, rfl⟩) b8 b7 b3 b4 h6 (by first | (have hk := c2 (by assumption); have hl := QI.len a6; omega) | (have hk := QI.qlen a6; omega)) (by first | (have hk := c2 (by assumption); have hl := QI.len a6; omega) | (have hk := QI.qlen a6; omega))
      rw [g1] at e2
      obtain ⟨c6, d3, c4, d2, i2, d5, d7, d4, d0, d9, d1, d8, d6, e0⟩ := e2
      replace e0 := e0.symm; subst e0
      refine rs_callXc rfl rfl g6 ?_
      refine rs_nil ?_
      refine pn_blk ?_
      refine pn_seq ?_
      refine rc_region ?_
      refine bN i_add rfl rfl ?_
      refine mV rfl ?_
      refine rd_nil ?_
      have f7 : Mem i0 [⟨.op c5 c9 0, 31, 1, [c4]⟩, ⟨c4, 3, 1, d2⟩, ⟨.op c8 c7 0, 31, 1, [c6]⟩, ⟨c6, 3, 1, d3⟩] := (Mem.front (k := 3) (Mem.front (k := 3) (Mem.front (k := 1) (Mem.front (k := 1) i2 rfl) rfl) rfl) rfl)
      refine pn_again ?_
      have hbd := sl_bound f2
      have hinc : wr (b9 + 1) = b9 + 1 := wr_of (by omega) (by omega)
      erw [hinc]
      exact wC (ih  d9 d1 d6 d8 d5 d7 d0 d4 (by omega) (by omega) (by first | assumption | (have hk := c2 (by assumption); have hp := qi_pre a6 a8 (i := b1) (by omega) (by omega); have hw := wr_of (n := ix a0 (ix a1 b1) + 1) (by omega) (by omega); have hv := QI.visit (d := wr (ix a0 (ix a1 b1) + 1)) a6 hk.1 hk.2 (by omega) (by omega) _ (by assumption); first | exact hv.1 | exact a8.trans hv.2.1)) (by first | assumption | (have hk := c2 (by assumption); have hp := qi_pre a6 a8 (i := b1) (by omega) (by omega); have hw := wr_of (n := ix a0 (ix a1 b1) + 1) (by omega) (by omega); have hv := QI.visit (d := wr (ix a0 (ix a1 b1) + 1)) a6 hk.1 hk.2 (by omega) (by omega) _ (by assumption); first | exact hv.1 | exact a8.trans hv.2.1)) (Mem.sub f7 (.cons_cons _ (.cons_cons _ (.cons_cons _ (.cons_cons _ .slnil))))) hres) rfl
    · refine rc_skip ?_
      refine pn_blk ?_
      refine pn_seq ?_
      refine rc_region ?_
      refine bN i_add rfl rfl ?_
      refine mV rfl ?_
      refine rd_nil ?_
      refine pn_again ?_
      have hbd := sl_bound f2
      have hinc : wr (b9 + 1) = b9 + 1 := wr_of (by omega) (by omega)
      erw [hinc]
      exact wC (ih  b8 b7 b4 b3 a9 b6 b2 b5 (by omega) (by omega) (by first | assumption | (have hk := c2 (by assumption); have hp := qi_pre a6 a8 (i := b1) (by omega) (by omega); have hw := wr_of (n := ix a0 (ix a1 b1) + 1) (by omega) (by omega); have hv := QI.visit (d := wr (ix a0 (ix a1 b1) + 1)) a6 hk.1 hk.2 (by omega) (by omega) _ (by assumption); first | exact hv.1 | exact a8.trans hv.2.1)) (by first | assumption | (have hk := c2 (by assumption); have hp := qi_pre a6 a8 (i := b1) (by omega) (by omega); have hw := wr_of (n := ix a0 (ix a1 b1) + 1) (by omega) (by omega); have hv := QI.visit (d := wr (ix a0 (ix a1 b1) + 1)) a6 hk.1 hk.2 (by omega) (by omega) _ (by assumption); first | exact hv.1 | exact a8.trans hv.2.1)) (Mem.sub M0 (.cons_cons _ (.cons_cons _ (.cons_cons _ (.cons_cons _ .slnil))))) hres) rfl

theorem digraph_distances_L2_ok {S : List Fr} {res : (List Int)} {x0 : List (List Int)} {x1 : Int} {a0 : List Int} {g1 : Bool} {v0 : PV} {d3 d2 d6 d7 : Nat} (r0 : (tSl (tSl tI)).R x0 v0) (hn : x0.length ≤ 1000) (f4 : (List.replicate x0.length (0 : Int)).length = x0.length) (f7 : (List.replicate x0.length (0 : Int)).length ≤ 4611686018427387904) (b9 : a0.length = x0.length) (c5 : a0.length ≤ 4611686018427387904) (d5 : NB a0 (x0.length : Int)) (g2 : digraph_node x0 x1 = g1) (d8 : (!g1) = false) (f1 : ([x1] : List Int).length = 1) (f3 : ([x1] : List Int).length ≤ 4611686018427387904) (e2 : 0 ≤ x1) (e4 : x1 < (a0.length : Int)) (f6 : (a0.set (x1).toNat 0).length ≤ 4611686018427387904) (f2 : (a0.set (x1).toNat 0).length = x0.length) {K2 : (List Int) → (List Int) → (List Int)}
    (g9 : ∀ {a1 a9 : List Int} {a2 : List PV} {a6 : PV} {a3 : List PV} {a5 : PV} (a4 : All2 tI.R a1 a2) (a7 : isL a6 = true) (b2 : Wri a6 a2) (b1 : a1.length ≤ 4611686018427387904) (b6 : All2 tI.R a9 a3) (b5 : isL a5 = true) (b0 : Wri a5 a3) (b3 : a9.length ≤ 4611686018427387904) {h : Heap} (M0 : Mem h [⟨.op d6 d7 0, 31, 1, [a6]⟩, ⟨a6, 3, 1, a2⟩, ⟨.op d3 d2 0, 31, 1, [a5]⟩, ⟨a5, 3, 1, a3⟩]), K2 a1 a9 = res → PX Try.prog 2 S (QR Try.prog [(4, none)] (RF34 res)) [(5, .op d3 d2 0)] h) :
    ∀ {m : Nat} {b4 : Int} {a1 a9 : List Int} {a2 : List PV} {a6 : PV} {a3 : List PV} {a5 : PV} (a4 : All2 tI.R a1 a2) (a7 : isL a6 = true) (b2 : Wri a6 a2) (b1 : a1.length ≤ 4611686018427387904) (b6 : All2 tI.R a9 a3) (b5 : isL a5 = true) (b0 : Wri a5 a3) (b3 : a9.length ≤ 4611686018427387904) (h0 : (x0.length : Int) - b4 ≤ (m : Int)) (a8 : QI x0.length a9 a1) (c6 : 0 ≤ b4) {h : Heap} (M0 : Mem h [⟨.op d6 d7 0, 31, 1, [a6]⟩, ⟨a6, 3, 1, a2⟩, ⟨.op d3 d2 0, 31, 1, [a5]⟩, ⟨a5, 3, 1, a3⟩]), digraph_distances_L2 x0 K2 m b4 a1 a9 = res → RC Try.prog (.loop ac34_L2) S (QR Try.prog [(4, none)] (RF34 res)) [(9, vi b4), (8, .fn (.func 43) [] [.op d3 d2 0, .op d6 d7 0]), (7, .op d6 d7 0), (5, .op d3 d2 0), (0, v0)] h := by
  have e5 := d8
  try simp only [qa, qaD] at e5
  intro m
  induction m with
  | zero =>
    intro b4 a1 a9 a2 a6 a3 a5 a4 a7 b2 b1 b6 b5 b0 b3 h0 a8 c6 h M0 hres
    rw [digraph_distances_L2] at hres
    refine rc_loop ?_
    refine rc_seq ?_
    refine sR ?_
    refine mV rfl ?_
    refine rd_op (ov_load0 (k := 0) M0 rfl rfl (mem_one (k := 1) M0 rfl a7).2) ?_
    refine rd_op (ov_bi rfl (own_len (k := 1) M0 rfl Try.underlying31 a7 a4 _)) ?_
    refine bN i_lss rfl rfl ?_
    refine nS ?_
    refine rc_cond rfl (fun c7 => ?_) (fun c7 => ?_)
    · exfalso
      try simp only [qa, qaD] at c7
      (have hk := QI.qlen a8; omega)
    · have hend := hres
      have e8 := c7
      try simp only [qa, qaD] at e8
      refine rc_exit ?_
      refine px_seq ?_
      refine px_again ?_
      exact wP (g9 a4 a7 b2 b1 b6 b5 b0 b3 (Mem.sub M0 (.cons_cons _ (.cons_cons _ (.cons_cons _ (.cons_cons _ .slnil))))) hres) rfl
  | succ m ih =>
    intro b4 a1 a9 a2 a6 a3 a5 a4 a7 b2 b1 b6 b5 b0 b3 h0 a8 c6 h M0 hres
    rw [digraph_distances_L2] at hres
    refine rc_loop ?_
    refine rc_seq ?_
    refine sR ?_
    refine mV rfl ?_
    refine rd_op (ov_load0 (k := 0) M0 rfl rfl (mem_one (k := 1) M0 rfl a7).2) ?_
    refine rd_op (ov_bi rfl (own_len (k := 1) M0 rfl Try.underlying31 a7 a4 _)) ?_
    refine bN i_lss rfl rfl ?_
    refine nS ?_
    refine rc_br hres rfl ?_ ?_ <;> clear hres <;> intro e1 hres <;> have e6 := e1 <;> try simp only [qa, qaD] at e6
    · refine rc_skip ?_
      refine pn_seq ?_
      refine rc_seq ?_
      refine rc_block ?_
      refine sR ?_
      refine rd_op (ov_load0 (k := 0) M0 rfl rfl (mem_one (k := 1) M0 rfl a7).2) ?_
      refine mV rfl ?_
      obtain ⟨h2, h4, g4, f5⟩ := wri_os (i := b4) b2 a4 (by first | omega | first | (have hk := QI.at a8 (i := b4) (by omega) (by omega); omega) | (have hk := en111 (by assumption); omega) | (have hk := qi_pre iv3_0 iv3_1 (i := b4) (by omega) (by omega); omega)) (by first | omega | first | (have hk := QI.at a8 (i := b4) (by omega) (by omega); omega) | (have hk := en111 (by assumption); omega) | (have hk := qi_pre iv3_0 iv3_1 (i := b4) (by omega) (by omega); omega))
      subst f5
      have g0 : a1.length = g4 := by rw [mem_osn M0 (k := 1) rfl, All2.length_eq a4]
      have b7 : 0 ≤ b4 := (by first | omega | first | (have hk := QI.at a8 (i := b4) (by omega) (by omega); omega) | (have hk := en111 (by assumption); omega) | (have hk := qi_pre iv3_0 iv3_1 (i := b4) (by omega) (by omega); omega))
      have c8 : b4 < (a1.length : Int) := (by first | omega | first | (have hk := QI.at a8 (i := b4) (by omega) (by omega); omega) | (have hk := en111 (by assumption); omega) | (have hk := qi_pre iv3_0 iv3_1 (i := b4) (by omega) (by omega); omega))
      refine rd_op (ov_iaddr rfl rfl (n_idx 1 b7 (by omega))) ?_
      obtain ⟨g5, g8, e3⟩ := elem_at (i := b4) a4 b7 c8
      have e3 : g5 = vi (ix a1 b4) := e3; subst e3
      refine rd_op (ov_elem (k := 1) M0 rfl rfl g8 rfl) ?_
      refine mV rfl ?_
      refine nR ?_
      refine mV rfl ?_
      refine mV rfl ?_
      obtain ⟨h1, g6, e7⟩ := sl_idx (i := (ix a1 b4)) r0 (by first | omega | first | (have hk := QI.at a8 (i := b4) (by omega) (by omega); omega) | (have hk := en111 (by assumption); omega) | (have hk := qi_pre iv3_0 iv3_1 (i := b4) (by omega) (by omega); omega)) (by first | omega | first | (have hk := QI.at a8 (i := b4) (by omega) (by omega); omega) | (have hk := en111 (by assumption); omega) | (have hk := qi_pre iv3_0 iv3_1 (i := b4) (by omega) (by omega); omega))
      refine rd_op (ov_iaddr rfl rfl g6) ?_
      refine lD e7 rfl rfl rfl ?_
      refine rd_op (ov_bi rfl (sl_len e7 Try.underlying31 _)) ?_
      refine mI rfl ?_
      refine nS ?_
      refine rc_block ?_
      refine wC (digraph_distances_L3_ok r0 hn f4 f7 b9 c5 d5 g2 d8 f1 f3 e2 e4 f6 f2 a7 b2 b1 b5 b0 b3 a8 c6 e1 g0 b7 c8 e7 ?_  a4 rfl (.inr ⟨_, _, _, rfl⟩) b1 b6 b5 b0 b3 rfl (by omega) (by first | assumption | exact List.prefix_refl _) (by first | assumption | exact List.prefix_refl _) (Mem.sub M0 (.cons_cons _ (.cons_cons _ (.cons_cons _ (.cons_cons _ .slnil))))) hres) rfl
      · intro e0 d9 f0 f8 e9 f9 d4 d1 b8 c2 d0 c9 c3 c4 g3 h3 g7 hres
        refine px_blk ?_
        refine pn_blk ?_
        refine pn_seq ?_
        refine rc_region ?_
        refine mV rfl ?_
        refine bN i_add rfl rfl ?_
        refine mV rfl ?_
        refine rd_nil ?_
        refine pn_again ?_
        exact wC (ih  d4 d1 b8 c2 d0 c9 c3 c4 (by (rw [wr_of (by omega) (by omega)]; omega)) (by first | assumption | (rw [wr_of (by omega) (by omega)]; omega)) (by first | assumption | (rw [wr_of (by omega) (by omega)]; omega)) (Mem.sub g7 (.cons_cons _ (.cons_cons _ (.cons_cons _ (.cons_cons _ .slnil))))) hres) rfl
    · refine rc_exit ?_
      refine px_seq ?_
      refine px_again ?_
      exact wP (g9 a4 a7 b2 b1 b6 b5 b0 b3 (Mem.sub M0 (.cons_cons _ (.cons_cons _ (.cons_cons _ (.cons_cons _ .slnil))))) hres) rfl

theorem f34_ok {x0 : List (List Int)} {x1 : Int} {v0 : PV} (r0 : (tSl (tSl tI)).R x0 v0) (hn : x0.length ≤ 1000) : ∃ r, FnR Try.prog 34 [v0, vi x1] r ∧ (tSl tI).R (digraph_distances x0 x1) r := by
  refine fnT (R := RF34) text34 rfl fun res hres => ?_
  unfold digraph_distances at hres
  refine sR ?_
  refine rd_op (v := nilS) (ov_move rfl) ?_
  refine nR ?_
  refine mV rfl ?_
  refine rd_op (ov_bi rfl (sl_len r0 Try.underlying22 _)) ?_
  have e9 : fits (x0.length) 8 = true := fits_of (by first | omega | (simp only [List.length_append, List.length_cons, List.length_nil] at *; omega)) (by first | omega | (simp only [List.length_append, List.length_cons, List.length_nil] at *; omega))
  refine rd_makeO (sz := 1) (ty := 3) (n := x0.length) (zz := vi 0) (Mem.nil ⟨0, []⟩) rfl rfl rfl rfl rfl e9 (fun a6 a7 g9 f9 => ?_)
  have e6 : All2 tI.R (List.replicate x0.length (0 : Int)) (List.replicate x0.length (vi 0)) := All2.rep (show tI.R (0 : Int) (vi 0) from rfl) _
  have a8 : (List.replicate x0.length (0 : Int)).length = x0.length := List.length_replicate
  have b3 : (List.replicate x0.length (0 : Int)).length ≤ 4611686018427387904 := by rw [a8]; exact fits_len e9
  refine rd_allocO (x := nilS) f9 rfl rfl (fun c3 b9 g3 e4 => ?_)
  refine rd_storeO (k := 0) (v := .os a6 a7 0 x0.length) e4 rfl rfl rfl (mem_cnt1 (k := 1) e4 rfl rfl) (fun g2 a9 => ?_)
  replace a9 : Mem g2 [⟨.op c3 b9 0, 31, 1, [.os a6 a7 0 x0.length]⟩, ⟨.os a6 a7 0 x0.length, 3, 1, (List.replicate x0.length (vi 0))⟩] := a9
  refine nS ?_
  refine rc_seq ?_
  refine sR ?_
  refine rd_op (ov_load0 (k := 0) a9 rfl rfl (mem_one (k := 1) a9 rfl rfl).2) ?_
  refine rd_op (ov_bi rfl (own_len (k := 1) a9 rfl Try.underlying31 rfl e6 _)) ?_
  refine mI rfl ?_
  refine nS ?_
  refine rc_block ?_
  refine wC (digraph_distances_L1_ok hn a8 b3 ?_  e6 a8 b3 rfl (by omega) (by first | omega | exact NB.nil) (by first | omega | exact NB.nil) (Mem.sub a9 (.cons_cons _ (.cons_cons _ .slnil))) hres) rfl
  · intro a0 a4 a2 a3 a1 b6 h0 c2 hres
    refine px_blk ?_
    refine pn_seq ?_
    refine rc_seq ?_
    refine sR ?_
    refine mV rfl ?_
    refine mV rfl ?_
    obtain ⟨h1, b5, hres⟩ := let_ex hres
    have f0 := f33_ok (x1 := x1) r0 
    rw [b5] at f0
    have c6 := node_use b5
    refine cL f0 rfl rfl (clL_cons (TR.clo (tSl (tSl tI)) r0) (clL_cons rfl clL_nil)) ?_
    refine rd_op (ov_not rfl) ?_
    refine nS ?_
    refine rc_br hres rfl ?_ ?_ <;> clear hres <;> intro c7 hres <;> have d0 := c7 <;> try simp only [qa, qaD] at d0
    · refine sR ?_
      refine rd_op (ov_load0 (k := 0) c2 rfl rfl (mem_one (k := 1) c2 rfl rfl).2) ?_
      refine mV rfl ?_
      refine nS ?_
      obtain ⟨g7, f6, f2⟩ := own_sl (P := Try.prog) (k := 1) (t := tI) c2 rfl rfl a2 (Nat.le_trans a1 (by decide))
      subst hres
      exact rc_retV (.tmp rfl .nil) f6 f2
    · refine rc_skip ?_
      refine pn_seq ?_
      refine sR ?_
      refine mV rfl ?_
      refine rd_bslO (vs := [vi x1]) c2 rfl (all_cons rfl all_nil) (fun b7 b8 g0 d2 => ?_)
      have f8 : All2 tI.R ([x1] : List Int) [vi x1] := ⟨rfl, trivial⟩
      have c4 : ([x1] : List Int).length = 1 := rfl
      have c5 : ([x1] : List Int).length ≤ 4611686018427387904 := by rw [c4]; decide
      replace d2 : Mem g0 [⟨.os b7 b8 0 1, 3, 1, [vi x1]⟩, ⟨.op c3 b9 0, 31, 1, [.os a6 a7 0 x0.length]⟩, ⟨.os a6 a7 0 x0.length, 3, 1, a4⟩] := d2
      refine rd_allocO (x := nilS) d2 rfl rfl (fun e2 e8 g5 e1 => ?_)
      refine rd_storeO (k := 0) (v := .os b7 b8 0 1) e1 rfl rfl rfl (mem_cnt1 (k := 1) e1 rfl rfl) (fun f7 b1 => ?_)
      replace b1 : Mem f7 [⟨.op e2 e8 0, 31, 1, [.os b7 b8 0 1]⟩, ⟨.os b7 b8 0 1, 3, 1, [vi x1]⟩, ⟨.op c3 b9 0, 31, 1, [.os a6 a7 0 x0.length]⟩, ⟨.os a6 a7 0 x0.length, 3, 1, a4⟩] := b1
      refine nR ?_
      refine rd_op (v := .fn (.func 43) [] [.op c3 b9 0, .op e2 e8 0]) (ov_mkFunc rfl rfl) ?_
      refine mV rfl ?_
      refine nR ?_
      refine rd_op (ov_load0 (k := 2) b1 rfl rfl (mem_one (k := 3) b1 rfl rfl).2) ?_
      refine mV rfl ?_
      have b2 : 0 ≤ x1 := (by first | omega | first | (have hk := QI.at iv2_0 (i := x9_) (by omega) (by omega); omega) | (have hk := c6 (by assumption); omega) | (have hk := qi_pre iv3_0 iv3_1 (i := x9_) (by omega) (by omega); omega))
      have c9 : x1 < (a0.length : Int) := (by first | omega | first | (have hk := QI.at iv2_0 (i := x9_) (by omega) (by omega); omega) | (have hk := c6 (by assumption); omega) | (have hk := qi_pre iv3_0 iv3_1 (i := x9_) (by omega) (by omega); omega))
      refine rd_op (ov_iaddr rfl rfl (n_idx 1 b2 (by omega))) ?_
      refine rd_setO (k := 3) (v := vi 0) b1 rfl rfl rfl (by rw [All2.length_eq a2]; omega) rfl (fun g6 f4 => ?_)
      have f3 := All2.set (i := (x1).toNat) a2 (show tI.R 0 (vi 0) from rfl)
      have c8 : (a0.set (x1).toNat 0).length ≤ 4611686018427387904 := by simp only [List.length_set]; exact a1
      have e0 : (a0.set (x1).toNat 0).length = x0.length := by simp only [List.length_set]; exact a3
      refine nS ?_
      refine rc_seq ?_
      refine sR ?_
      refine mI rfl ?_
      refine nS ?_
      refine rc_block ?_
      refine wC (digraph_distances_L2_ok r0 hn a8 b3 a3 a1 b6 b5 c7 c4 c5 b2 c9 c8 e0 ?_  f8 rfl (.inr ⟨_, _, _, rfl⟩) c5 f3 rfl (.inr ⟨_, _, _, rfl⟩) c8 (by omega) (by first | omega | exact qi_new (by omega) (by assumption) (by omega) (by omega)) (by first | omega | exact qi_new (by omega) (by assumption) (by omega) (by omega)) (Mem.sub f4 (.cons_cons _ (.cons_cons _ (.cons_cons _ (.cons_cons _ .slnil))))) hres) rfl
      · intro d7 d4 d5 f1 d6 e5 e3 e7 d9 d3 b4 a5 d8 b0 g4 d1 hres
        refine px_blk ?_
        refine pn_seq ?_
        refine sR ?_
        refine rd_op (ov_load0 (k := 2) d1 rfl rfl (mem_one (k := 3) d1 rfl a5).2) ?_
        refine mV rfl ?_
        refine nS ?_
        obtain ⟨g8, g1, f5⟩ := own_sl (P := Try.prog) (k := 3) (t := tI) d1 rfl a5 b4 (Nat.le_trans b0 (by decide))
        subst hres
        exact rc_retV (.tmp rfl .nil) g1 f5

end Go.Proofs.Ytpdimhpjehfjeaa
