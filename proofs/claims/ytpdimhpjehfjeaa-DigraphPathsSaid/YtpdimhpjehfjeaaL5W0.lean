/-
  The code of each function does what its plain program says.
-/
import Derived.Test.YtpdimhpjehfjeaaKDef
import Derived.Test.YtpdimhpjehfjeaaL5Text
import Derived.Test.YtpdimhpjehfjeaaPbV
import Derived.Test.YtpdimhpjehfjeaaKCo
import Derived.Test.YtpdimhpjehfjeaaKLy
import Derived.Test.YtpdimhpjehfjeaaKGbOrSpDsUsOk
import Derived.Test.YtpdimhpjehfjeaaKIn
import Derived.Test.YtpdimhpjehfjeaaKUuRsLvTwLaLp
set_option linter.unusedVariables false
set_option linter.unusedSimpArgs false
set_option maxRecDepth 100000
namespace Go.Proofs.Ytpdimhpjehfjeaa
open Go Go.Pb Go.RowKit
def RF13 (res : Bool) (r : PV) : Prop := r = vb res
theorem law06_large_L1_ok {S : List Fr} {res : Bool} {x0 : List (List Int)} {v0 : PV} (r0 : (tSl (tSl tI)).R x0 v0) (a4 : (decide (24 < (x0.length : Int))) = false) {K0 : Unit → Bool}
    (a8 : K0 () = res → PX Try.prog 0 S (QR Try.prog [(2, none)] (RF13 res)) [] ⟨0, []⟩) :
    ∀ {m : Nat} {a0 : Int} (a6 : m = Int.toNat ((x0.length : Int) - a0)) (a2 : 0 ≤ a0), law06_large_L1 x0 K0 m a0 = res → RC Try.prog (.loop ac13_L1) S (QR Try.prog [(2, none)] (RF13 res)) [(3, vi a0), (0, v0)] ⟨0, []⟩ := by
  have a1 := a4
  try simp only [qa, qaD] at a1
  intro m
  induction m with
  | zero =>
    intro a0 a6 a2 hres
    rw [law06_large_L1] at hres
    refine rc_loop ?_
    refine rc_seq ?_
    refine sR ?_
    refine mV rfl ?_
    refine mV rfl ?_
    refine rd_op (ov_bi rfl (sl_len r0 Try.underlying22 _)) ?_
    refine bN i_lss rfl rfl ?_
    refine nS ?_
    refine rc_cond rfl ?_ ?_ <;> intro c <;> try simp only [qa, qaD] at c
    · omega
    refine rc_exit ?_
    refine px_seq ?_
    refine px_again ?_
    exact wP (a8  hres) rfl
  | succ m ih =>
    intro a0 a6 a2 hres
    rw [law06_large_L1] at hres
    refine rc_loop ?_
    refine rc_seq ?_
    refine sR ?_
    refine mV rfl ?_
    refine mV rfl ?_
    refine rd_op (ov_bi rfl (sl_len r0 Try.underlying22 _)) ?_
    refine bN i_lss rfl rfl ?_
    refine nS ?_
    refine rc_cond rfl ?_ ?_ <;> intro c <;> try simp only [qa, qaD] at c
    rotate_left
    · omega
    refine rc_skip ?_
    refine pn_seq ?_
    refine rc_seq ?_
    refine rc_block ?_
    refine sR ?_
    refine mV rfl ?_
    refine mV rfl ?_
    obtain ⟨a7, a5, a3⟩ := sl_idx (i := a0) r0 (by omega) (by omega)
    refine rd_op (ov_iaddr rfl rfl a5) ?_
    refine lD a3 rfl rfl rfl ?_
    refine rd_op (ov_bi rfl (sl_len a3 Try.underlying31 _)) ?_
    refine bN i_gtr rfl rfl ?_
    refine nS ?_
    refine rc_br hres rfl ?_ ?_ <;> clear hres <;> intro c hres <;> try simp only [qa, qaD] at c
    · refine sR ?_
      refine mB rfl ?_
      refine nS ?_
      exact rR hres rfl rfl rfl
    · refine rc_skip ?_
      refine pn_blk ?_
      refine pn_seq ?_
      refine rc_region ?_
      refine mV rfl ?_
      refine bN i_add rfl rfl ?_
      refine mV rfl ?_
      refine rd_nil ?_
      refine pn_again ?_
      have hbd := sl_bound r0
      have hinc : wr (a0 + 1) = a0 + 1 := wr_of (by omega) (by omega)
      erw [hinc]
      exact wC (ih   (by omega) (by omega) hres) rfl

theorem f13_ok {x0 : List (List Int)} {v0 : PV} (r0 : (tSl (tSl tI)).R x0 v0) : FnR Try.prog 13 [v0] (vb (law06_large x0)) := by
  refine fnS (R := RF13) text13 (fun _ h => h) rfl fun res hres => ?_
  unfold law06_large at hres
  refine sR ?_
  refine mB rfl ?_
  refine nS ?_
  refine rc_seq ?_
  refine sR ?_
  refine mV rfl ?_
  refine rd_op (ov_bi rfl (sl_len r0 Try.underlying22 _)) ?_
  refine bN i_gtr rfl rfl ?_
  refine nS ?_
  refine rc_br hres rfl ?_ ?_ <;> clear hres <;> intro a0 hres <;> have a1 := a0 <;> try simp only [qa, qaD] at a1
  · refine sR ?_
    refine mB rfl ?_
    refine nS ?_
    exact rR hres rfl rfl rfl
  · refine rc_skip ?_
    refine pn_seq ?_
    refine rc_seq ?_
    refine sR ?_
    refine mI rfl ?_
    refine nS ?_
    refine rc_block ?_
    refine wC (law06_large_L1_ok r0 a0 ?_  rfl (by omega) hres) rfl
    · intro  hres
      refine px_blk ?_
      refine pn_seq ?_
      refine sR ?_
      refine mB rfl ?_
      refine nS ?_
      exact rR hres rfl rfl rfl

def RF33 (res : Bool) (r : PV) : Prop := r = vb res
theorem f33_ok {x0 : List (List Int)} {x1 : Int} {v0 : PV} (r0 : (tSl (tSl tI)).R x0 v0) : FnR Try.prog 33 [v0, vi x1] (vb (digraph_node x0 x1)) := by
  refine fnS (R := RF33) text33 (fun _ h => h) rfl fun res hres => ?_
  unfold digraph_node at hres
  refine sR ?_
  refine mB rfl ?_
  refine nR ?_
  refine mV rfl ?_
  refine bN i_geq rfl rfl ?_
  refine mV rfl ?_
  refine rd_cutn 5 (d := 12) (v := vb ((decide (0 ≤ x1)) && (decide (x1 < (x0.length : Int))))) ?_ ?_
  · intro S Q r
    cases a1 : (decide (0 ≤ x1))
    · exact gN 4 rfl rfl rfl rfl rfl rfl
    · intro k
      have a0 := a1
      try simp only [qa, qaD] at a0
      refine rd_yes rfl rfl (ov_move rfl) ?_
      refine rd_yes rfl rfl (ov_move rfl) ?_
      refine rd_yes rfl rfl (ov_bi rfl (sl_len r0 Try.underlying22 _)) ?_
      refine rd_yes rfl rfl (ov_bin rfl rfl i_lss) ?_
      exact gK rfl rfl rfl rfl rfl k
  refine mV rfl ?_
  refine nS ?_
  exact rR hres rfl rfl rfl

def RF44 (a0 : PV) (R_ : List Ent) (res : List Int) (r : PV) (h : Heap) : Prop := ∃ es : List PV, Mem h (⟨a0, 3, 1, es⟩ :: R_) ∧ All2 tI.R res es ∧ res.length ≤ 4611686018427387904 ∧ Wri a0 es ∧ r = .tup []
theorem f44_ok {x0 : List Int} {a0 : PV} {a1 : List PV} {R_ : List Ent} {h_ : Heap} (q : All2 tI.R x0 a1) (ne : isL a0 = true) (hl : x0.length ≤ 4611686018427387904) (wi : Wri a0 a1) (M : Mem h_ (⟨a0, 3, 1, a1⟩ :: R_)) (hb : x0.length ≤ 1000000) : ∃ r a2, FnX Try.prog 44 [a0] h_ r a2 ∧ RF44 a0 R_ (slices_Sort__int_int_ x0) r a2 := by
  obtain ⟨r, h2, X, es', M2, q2, w2, hr⟩ := sort_int_X text44.enters Go.Proofs.Try.sortI_calls Go.Proofs.Try.sortI_none q ne hb wi M
  exact ⟨r, h2, X, es', M2, q2, by rw [slices_Sort__int_int_, List.length_mergeSort]; exact hl, w2, hr⟩

theorem f45_ok {x0 : List Int} {a0 : PV} {a1 : List PV} {R_ : List Ent} {h_ : Heap} (q : All2 tI.R x0 a1) (ne : isL a0 = true) (hl : x0.length ≤ 4611686018427387904) (wi : Wri a0 a1) (M : Mem h_ (⟨a0, 3, 1, a1⟩ :: R_)) : ∃ r a2, FnX Try.prog 45 [a0] h_ r a2 ∧ RF45 R_ (slices_Compact__int_int_ x0) r a2 := f45_cpt q ne hl wi M

def RF37 (res : (List (List Int))) (r : PV) : Prop := (tSl (tSl tI)).R res r
theorem digraph_clean_L2_ok {S : List Fr} {res : (List (List Int))} {x0 : List (List Int)} {a1 : Int} {b3 : List (List Int)} {v0 d5 : PV} {a8 a9 : Nat} (r0 : (tSl (tSl tI)).R x0 v0) (hs : Sm x0) (hn : x0.length ≤ 24) (f5 : (List.replicate x0.length ([] : List Int)).length = x0.length) (f9 : (List.replicate x0.length ([] : List Int)).length ≤ 4611686018427387904) (f2 : b3.length = x0.length) (f1 : b3.length ≤ 4611686018427387904) (g2 : 0 ≤ a1) (f6 : LB b3 (40 * a1)) (d6 : (decide (a1 < (x0.length : Int))) = true) (c2 : (tSl tI).R (ix x0 a1) d5) {K2 : (List (List Int)) → (List (List Int))}
    (g0 : ∀ {a0 : List (List Int)} {a2 : List PV} {a4 : List Ent} (a3 : Ns tI 3 a0 a2 a4) (a6 : a0.length = x0.length) (a7 : a0.length ≤ 4611686018427387904) (g4 : LB a0 (40 * a1 + 40)) {h : Heap} (M0 : Mem h (⟨.os a8 a9 0 x0.length, 31, 1, a2⟩ :: (a4 ++ []))), K2 a0 = res → PX Try.prog 2 S (QR Try.prog [(2, none)] (RF37 res)) [(0, v0), (3, .os a8 a9 0 x0.length), (4, vi a1), (11, v0), (12, vi (x0.length : Int)), (13, vi a1)] h) :
    ∀ {m : Nat} {a5 : Int} {a0 : List (List Int)} {a2 : List PV} {a4 : List Ent} (a3 : Ns tI 3 a0 a2 a4) (a6 : a0.length = x0.length) (a7 : a0.length ≤ 4611686018427387904) (f7 : m = Int.toNat (((ix x0 a1).length : Int) - a5)) (d7 : 0 ≤ a5) (b2 : LB a0 (40 * a1 + a5)) (b9 : a5 ≤ ((ix x0 a1).length : Int)) {h : Heap} (M0 : Mem h (⟨.os a8 a9 0 x0.length, 31, 1, a2⟩ :: (a4 ++ []))), digraph_clean_L2 x0 a1 K2 m a5 a0 = res → RC Try.prog (.loop ac37_L2) S (QR Try.prog [(2, none)] (RF37 res)) [(20, vi a5), (19, vi ((ix x0 a1).length : Int)), (18, d5), (13, vi a1), (12, vi (x0.length : Int)), (11, v0), (4, vi a1), (3, .os a8 a9 0 x0.length), (0, v0)] h := by
  have c7 := d6
  try simp only [qa, qaD] at c7
  intro m
  induction m with
  | zero =>
    intro a5 a0 a2 a4 a3 a6 a7 f7 d7 b2 b9 h M0 hres
    rw [digraph_clean_L2] at hres
    refine rc_loop ?_
    refine sR ?_
    refine bN i_lss rfl rfl ?_
    refine nS ?_
    refine rc_seq ?_
    refine rc_cond rfl ?_ ?_ <;> intro c <;> try simp only [qa, qaD] at c
    · omega
    refine rc_exit ?_
    refine px_seq ?_
    refine px_again ?_
    exact wP (g0 a3 a6 a7 (by (have hr := hs.r a1 (by omega) (by omega); exact LB.mono (by assumption) (by omega))) (Mem.sub M0 (.cons_cons _ (List.Sublist.append_left (List.Sublist.refl _) _))) hres) rfl
  | succ m ih =>
    intro a5 a0 a2 a4 a3 a6 a7 f7 d7 b2 b9 h M0 hres
    rw [digraph_clean_L2] at hres
    refine rc_loop ?_
    refine sR ?_
    refine bN i_lss rfl rfl ?_
    refine nS ?_
    refine rc_seq ?_
    refine rc_cond rfl ?_ ?_ <;> intro c <;> try simp only [qa, qaD] at c
    rotate_left
    · omega
    refine rc_skip ?_
    refine pn_seq ?_
    refine rc_seq ?_
    refine rc_block ?_
    refine sR ?_
    refine rd_op (ov_iaddr rfl rfl (slI c2 (by omega) (by omega))) ?_
    refine lR rfl rfl rfl ?_
    refine mV rfl ?_
    refine nR ?_
    refine mV rfl ?_
    refine mV rfl ?_
    obtain ⟨g1, e3, hres⟩ := let_ex hres
    have e8 := f33_ok (x1 := (ix (ix x0 a1) a5)) r0 
    rw [e3] at e8
    refine cL e8 rfl rfl (clL_cons (TR.clo (tSl (tSl tI)) r0) (clL_cons rfl clL_nil)) ?_
    refine nS ?_
    refine rc_br hres rfl ?_ ?_ <;> clear hres <;> intro c hres <;> try simp only [qa, qaD] at c
    · refine rc_region ?_
      refine mV rfl ?_
      refine mV rfl ?_
      refine mV rfl ?_
      refine mV rfl ?_
      have b4 : 0 ≤ a1 := (by omega)
      have c6 : a1 < (a0.length : Int) := (by omega)
      refine rd_op (ov_iaddr rfl rfl (n_idx 1 b4 (by omega))) ?_
      obtain ⟨f0, b0, e4, e0, c8, e6, f8, d2⟩ := ns_at (i := a1) a3 b4 c6
      have b5 : Mem h (⟨f0, 3, 1, b0⟩ :: ⟨.os a8 a9 0 x0.length, 31, 1, a2⟩ :: ((a4.eraseIdx (a1).toNat) ++ [])) := ns_focus (C := [⟨.os a8 a9 0 x0.length, 31, 1, a2⟩]) M0 e0
      refine rd_op (ov_elem (k := 1) b5 rfl rfl e4 (mem_one (k := 0) b5 rfl e6).2) ?_
      refine mV rfl ?_
      refine rd_op (v := .fs true [vi (ix (ix x0 a1) a5)]) (ov_bslice rfl (all_cons rfl all_nil)) ?_
      have f4 : (tSl tI).R ([(ix (ix x0 a1) a5)] : List Int) (.fs true [vi (ix (ix x0 a1) a5)]) := sl_fs ⟨rfl, trivial⟩ (by simp)
      obtain ⟨b1, c9, b8⟩ := src_of (t := tI) (h := h) f4
      have d3 : fits (b0.length + b1.length) 8 = true := by rw [All2.length_eq c8, All2.length_eq b8]; (try simp only [List.length_cons, List.length_nil]); exact fits_of (by first | omega | (have hk := b2 a1 (by omega) (by omega); have hr := hs.r a1 (by omega) (by omega); first | omega | (simp only [List.length_cons, List.length_nil]; omega))) (by first | omega | (have hk := b2 a1 (by omega) (by omega); have hr := hs.r a1 (by omega) (by omega); first | omega | (simp only [List.length_cons, List.length_nil]; omega)))
      refine rd_appW (k := 0) (es := b0) (news := b1) b5 rfl rfl rfl e6 d2 c9 d3 (fun b7 g3 e2 d0 d1 => ?_)
      have d9 : All2 tI.R ((ix a0 a1) ++ ([(ix (ix x0 a1) a5)] : List Int)) (b0 ++ b1) := All2.app c8 b8
      have e1 : ((ix a0 a1) ++ ([(ix (ix x0 a1) a5)] : List Int)).length ≤ 4611686018427387904 := by rw [← All2.length_eq d9, List.length_append]; exact fits_len d3
      have c3 : 0 ≤ a1 := (by omega)
      have f3 : a1 < (a0.length : Int) := (by omega)
      refine rd_op (ov_iaddr rfl rfl (n_idx 1 c3 (by omega))) ?_
      refine rd_setO (k := 1) (v := b7) d1 rfl rfl rfl (by rw [(Ns.len a3).1]; omega) (mem_cnt1 (k := 0) d1 rfl e2) (fun e7 c4 => ?_)
      replace c4 : Mem e7 (⟨b7, 3, 1, (b0 ++ b1)⟩ :: ⟨.os a8 a9 0 x0.length, 31, 1, (a2.set (a1).toNat b7)⟩ :: ((a4.eraseIdx (a1).toNat) ++ [])) := c4
      obtain ⟨b6, c5, e9, d4⟩ : ∃ b6 c5, Ns tI 3 (a0.set (a1).toNat ((ix a0 a1) ++ ([(ix (ix x0 a1) a5)] : List Int))) b6 c5 ∧ Mem e7 (⟨.os a8 a9 0 x0.length, 31, 1, b6⟩ :: (c5 ++ [])) := ⟨_, _, ns_put a3  d9 e2 e1 d0, ns_back (C := [⟨.os a8 a9 0 x0.length, 31, 1, (a2.set (a1).toNat b7)⟩]) c4 (by rw [(Ns.len a3).2]; omega)⟩
      have e5 : (a0.set (a1).toNat ((ix a0 a1) ++ ([(ix (ix x0 a1) a5)] : List Int))).length = x0.length := by rw [List.length_set]; exact a6
      have d8 : (a0.set (a1).toNat ((ix a0 a1) ++ ([(ix (ix x0 a1) a5)] : List Int))).length ≤ 4611686018427387904 := by rw [List.length_set]; exact a7
      refine rd_nil ?_
      refine pn_blk ?_
      refine pn_seq ?_
      refine rc_region ?_
      refine bN i_add rfl rfl ?_
      refine mV rfl ?_
      refine rd_nil ?_
      refine pn_again ?_
      have hbd := sl_bound c2
      have hinc : wr (a5 + 1) = a5 + 1 := wr_of (by omega) (by omega)
      erw [hinc]
      exact wC (ih  e9 e5 d8 (by omega) (by omega) (by first | omega | exact LB.mono (by assumption) (by omega) | exact LB.mono (LB.app (by assumption) (by omega) (by omega)) (by omega)) (by first | omega | exact LB.mono (by assumption) (by omega) | exact LB.mono (LB.app (by assumption) (by omega) (by omega)) (by omega)) (Mem.sub d4 (.cons_cons _ (List.Sublist.append_left (List.Sublist.refl _) _))) hres) rfl
    · refine rc_skip ?_
      refine pn_blk ?_
      refine pn_seq ?_
      refine rc_region ?_
      refine bN i_add rfl rfl ?_
      refine mV rfl ?_
      refine rd_nil ?_
      refine pn_again ?_
      have hbd := sl_bound c2
      have hinc : wr (a5 + 1) = a5 + 1 := wr_of (by omega) (by omega)
      erw [hinc]
      exact wC (ih  a3 a6 a7 (by omega) (by omega) (by first | omega | exact LB.mono (by assumption) (by omega) | exact LB.mono (LB.app (by assumption) (by omega) (by omega)) (by omega)) (by first | omega | exact LB.mono (by assumption) (by omega) | exact LB.mono (LB.app (by assumption) (by omega) (by omega)) (by omega)) (Mem.sub M0 (.cons_cons _ (List.Sublist.append_left (List.Sublist.refl _) _))) hres) rfl

theorem digraph_clean_L1_ok {S : List Fr} {res : (List (List Int))} {x0 : List (List Int)} {v0 : PV} {a5 a6 : Nat} (r0 : (tSl (tSl tI)).R x0 v0) (hs : Sm x0) (hn : x0.length ≤ 24) (g3 : (List.replicate x0.length ([] : List Int)).length = x0.length) (h9 : (List.replicate x0.length ([] : List Int)).length ≤ 4611686018427387904) {K0 : (List (List Int)) → (List (List Int))}
    (j8 : ∀ {a2 : List (List Int)} {a4 : List PV} {b2 : List Ent} (b5 : Ns tI 3 a2 a4 b2) (a8 : a2.length = x0.length) (a7 : a2.length ≤ 4611686018427387904) {h : Heap} (M0 : Mem h (⟨.os a5 a6 0 x0.length, 31, 1, a4⟩ :: (b2 ++ []))), K0 a2 = res → PX Try.prog 0 S (QR Try.prog [(2, none)] (RF37 res)) [(3, .os a5 a6 0 x0.length)] h) :
    ∀ {m : Nat} {a1 : Int} {a2 : List (List Int)} {a4 : List PV} {b2 : List Ent} (b5 : Ns tI 3 a2 a4 b2) (a8 : a2.length = x0.length) (a7 : a2.length ≤ 4611686018427387904) (j3 : m = Int.toNat ((x0.length : Int) - a1)) (f2 : 0 ≤ a1) (c6 : LB a2 (40 * a1)) {h : Heap} (M0 : Mem h (⟨.os a5 a6 0 x0.length, 31, 1, a4⟩ :: (b2 ++ []))), digraph_clean_L1 x0 K0 m a1 a2 = res → RC Try.prog (.loop ac37_L1) S (QR Try.prog [(2, none)] (RF37 res)) [(13, vi a1), (12, vi (x0.length : Int)), (11, v0), (3, .os a5 a6 0 x0.length), (0, v0)] h := by
  intro m
  induction m with
  | zero =>
    intro a1 a2 a4 b2 b5 a8 a7 j3 f2 c6 h M0 hres
    rw [digraph_clean_L1] at hres
    refine rc_loop ?_
    refine sR ?_
    refine bN i_lss rfl rfl ?_
    refine nS ?_
    refine rc_seq ?_
    refine rc_cond rfl ?_ ?_ <;> intro c <;> try simp only [qa, qaD] at c
    · omega
    refine rc_exit ?_
    refine px_seq ?_
    refine px_again ?_
    exact wP (j8 b5 a8 a7 (Mem.sub M0 (.cons_cons _ (List.Sublist.append_left (List.Sublist.refl _) _))) hres) rfl
  | succ m ih =>
    intro a1 a2 a4 b2 b5 a8 a7 j3 f2 c6 h M0 hres
    rw [digraph_clean_L1] at hres
    refine rc_loop ?_
    refine sR ?_
    refine bN i_lss rfl rfl ?_
    refine nS ?_
    refine rc_seq ?_
    refine rc_cond rfl (fun b7 => ?_) (fun b7 => ?_)
    · have hgo := hres
      have f4 := b7
      try simp only [qa, qaD] at f4
      refine rc_skip ?_
      refine pn_seq ?_
      refine rc_seq ?_
      refine rc_block ?_
      refine sR ?_
      refine mV rfl ?_
      obtain ⟨j6, i6, e7⟩ := sl_idx (i := a1) r0 (by omega) (by omega)
      refine rd_op (ov_iaddr rfl rfl i6) ?_
      refine lD e7 rfl rfl rfl ?_
      refine mV rfl ?_
      refine mV rfl ?_
      refine nS ?_
      refine rc_seq ?_
      refine sR ?_
      refine mV rfl ?_
      refine rd_op (ov_bi rfl (sl_len e7 Try.underlying31 _)) ?_
      refine mI rfl ?_
      refine nS ?_
      refine rc_block ?_
      refine wC (digraph_clean_L2_ok r0 hs hn g3 h9 a8 a7 f2 c6 b7 e7 ?_  b5 a8 a7 rfl (by omega) (by first | omega | exact LB.mono (by assumption) (by omega)) (by first | omega | exact LB.mono (by assumption) (by omega)) (Mem.sub M0 (.cons_cons _ (List.Sublist.append_left (List.Sublist.refl _) _))) hres) rfl
      · intro a0 a3 b6 b1 c3 c2 b4 h5 i4 hres
        refine px_blk ?_
        refine pn_seq ?_
        refine rc_seq ?_
        refine rc_regionS ?_
        refine rs_step ?_
        refine mV rfl ?_
        refine rs_back ?_
        refine rs_step ?_
        refine mV rfl ?_
        refine rs_back ?_
        refine rs_step ?_
        have d4 : 0 ≤ a1 := (by omega)
        have f6 : a1 < (a0.length : Int) := (by omega)
        refine rd_op (ov_iaddr rfl rfl (n_idx 1 d4 (by omega))) ?_
        refine rs_back ?_
        refine rs_step ?_
        obtain ⟨g6, e6, e1, h2, i9, f5, h7, i1⟩ := ns_at (i := a1) b1 d4 f6
        have d0 : Mem h5 (⟨g6, 3, 1, e6⟩ :: ⟨.os a5 a6 0 x0.length, 31, 1, a3⟩ :: ((b6.eraseIdx (a1).toNat) ++ [])) := ns_focus (C := [⟨.os a5 a6 0 x0.length, 31, 1, a3⟩]) i4 h2
        refine rd_op (ov_elem (k := 1) d0 rfl rfl e1 (mem_one (k := 0) d0 rfl f5).2) ?_
        refine rs_back ?_
        have i7 : Mem h5 (⟨g6, 3, 1, e6⟩ :: ⟨.os a5 a6 0 x0.length, 31, 1, a3⟩ :: ((b6.eraseIdx (a1).toNat) ++ [])) := (Mem.front (k := 0) d0 rfl)
        obtain ⟨b3, e5, hres⟩ := let_ex hres
        obtain ⟨j2, f7, g5, e2⟩ := f44_ok (x0 := (ix a0 a1)) i9 f5 h7 i1 i7 (by (have hk := b4 a1 (by omega) (by omega); omega))
        rw [e5] at e2
        obtain ⟨g2, j0, d3, c7, c4, d2⟩ := e2
        replace d2 := d2.symm; subst d2
        refine rs_callXc rfl rfl g5 ?_
        have j4 := so_use e5
        obtain ⟨a9, b9, d6, h0⟩ : ∃ a9 b9, Ns tI 3 (a0.set (a1).toNat b3) a9 b9 ∧ Mem f7 (⟨.os a5 a6 0 x0.length, 31, 1, a9⟩ :: (b9 ++ [])) := ⟨_, _, ns_put0 b1 e1  d3 f5 c7 c4, ns_back (C := [⟨.os a5 a6 0 x0.length, 31, 1, a3⟩]) j0 (by rw [(Ns.len b1).2]; omega)⟩
        have h3 : (a0.set (a1).toNat b3).length = x0.length := by rw [List.length_set]; exact c3
        have h8 : (a0.set (a1).toNat b3).length ≤ 4611686018427387904 := by rw [List.length_set]; exact c2
        refine rs_nil ?_
        refine pn_seq ?_
        refine rc_regionS ?_
        refine rs_step ?_
        refine mV rfl ?_
        refine rs_back ?_
        refine rs_step ?_
        refine mV rfl ?_
        refine rs_back ?_
        refine rs_step ?_
        refine mV rfl ?_
        refine rs_back ?_
        refine rs_step ?_
        refine mV rfl ?_
        refine rs_back ?_
        refine rs_step ?_
        have c8 : 0 ≤ a1 := (by omega)
        have f0 : a1 < ((a0.set (a1).toNat b3).length : Int) := (by omega)
        refine rd_op (ov_iaddr rfl rfl (n_idx 1 c8 (by omega))) ?_
        refine rs_back ?_
        refine rs_step ?_
        obtain ⟨g1, e0, f9, g4, i5, i0, i2, g7⟩ := ns_at (i := a1) d6 c8 f0
        have c9 : Mem f7 (⟨g1, 3, 1, e0⟩ :: ⟨.os a5 a6 0 x0.length, 31, 1, a9⟩ :: ((b9.eraseIdx (a1).toNat) ++ [])) := ns_focus (C := [⟨.os a5 a6 0 x0.length, 31, 1, a9⟩]) h0 g4
        refine rd_op (ov_elem (k := 1) c9 rfl rfl f9 (mem_one (k := 0) c9 rfl i0).2) ?_
        refine rs_back ?_
        have j1 : Mem f7 (⟨g1, 3, 1, e0⟩ :: ⟨.os a5 a6 0 x0.length, 31, 1, a9⟩ :: ((b9.eraseIdx (a1).toNat) ++ [])) := (Mem.front (k := 0) c9 rfl)
        obtain ⟨e8, e3, hres⟩ := let_ex hres
        obtain ⟨j5, j7, g0, e4⟩ := f45_ok (x0 := (ix (a0.set (a1).toNat b3) a1)) i5 i0 i2 g7 j1 
        rw [e3] at e4
        obtain ⟨b0, d5, g9, d7, b8, d9, d8, d1⟩ := e4
        replace d1 := d1.symm; subst d1
        refine rs_callXc rfl rfl g0 ?_
        have g8 := co_use e3
        refine rs_step ?_
        have e9 : 0 ≤ a1 := (by omega)
        have i3 : a1 < ((a0.set (a1).toNat b3).length : Int) := (by omega)
        refine rd_op (ov_iaddr rfl rfl (n_idx 1 e9 (by omega))) ?_
        refine rs_back ?_
        refine rs_step ?_
        refine rd_setO (k := 1) (v := b0) g9 rfl rfl rfl (by rw [(Ns.len d6).1]; omega) (mem_cnt1 (k := 0) g9 rfl b8) (fun h6 f3 => ?_)
        replace f3 : Mem h6 (⟨b0, 3, 1, d5⟩ :: ⟨.os a5 a6 0 x0.length, 31, 1, (a9.set (a1).toNat b0)⟩ :: ((b9.eraseIdx (a1).toNat) ++ [])) := f3
        obtain ⟨c5, f1, i8, h4⟩ : ∃ c5 f1, Ns tI 3 ((a0.set (a1).toNat b3).set (a1).toNat e8) c5 f1 ∧ Mem h6 (⟨.os a5 a6 0 x0.length, 31, 1, c5⟩ :: (f1 ++ [])) := ⟨_, _, ns_put d6  d7 b8 d9 d8, ns_back (C := [⟨.os a5 a6 0 x0.length, 31, 1, (a9.set (a1).toNat b0)⟩]) f3 (by rw [(Ns.len d6).2]; omega)⟩
        have f8 : ((a0.set (a1).toNat b3).set (a1).toNat e8).length = x0.length := by rw [List.length_set]; exact h3
        have h1 : ((a0.set (a1).toNat b3).set (a1).toNat e8).length ≤ 4611686018427387904 := by rw [List.length_set]; exact h8
        refine rs_back ?_
        refine rs_nil ?_
        refine pn_blk ?_
        refine pn_seq ?_
        refine rc_region ?_
        refine bN i_add rfl rfl ?_
        refine mV rfl ?_
        refine rd_nil ?_
        refine pn_again ?_
        have hbd := sl_bound r0
        have hinc : wr (a1 + 1) = a1 + 1 := wr_of (by omega) (by omega)
        erw [hinc]
        exact wC (ih  i8 f8 h1 (by omega) (by omega) (by (have hk := b4 a1 (by omega) (by omega); exact LB.mono (LB.set (LB.set b4 (by omega) (by omega)) (by omega) (by rw [ix_set (by omega) (by omega) (by omega), if_pos rfl] at g8; omega)) (by omega))) (Mem.sub h4 (.cons_cons _ (List.Sublist.append_left (List.Sublist.refl _) _))) hres) rfl
    · exfalso
      try simp only [qa, qaD] at b7
      omega

theorem f37_ok {x0 : List (List Int)} {v0 : PV} (r0 : (tSl (tSl tI)).R x0 v0) (hs : Sm x0) : ∃ r, FnR Try.prog 37 [v0] r ∧ (tSl (tSl tI)).R (digraph_clean x0) r := by
  refine fnT (R := RF37) text37 rfl fun res hres => ?_
  unfold digraph_clean at hres
  have hn : x0.length ≤ 24 := hs.n
  refine sR ?_
  refine rd_op (v := nilS) (ov_move rfl) ?_
  refine nR ?_
  refine mV rfl ?_
  refine rd_op (ov_bi rfl (sl_len r0 Try.underlying22 _)) ?_
  have b2 : fits (x0.length) 24 = true := fits_of (by first | omega | (have hk := iv2_0 x13_ (by omega) (by omega); have hr := hs.r x13_ (by omega) (by omega); first | omega | (simp only [List.length_cons, List.length_nil]; omega))) (by first | omega | (have hk := iv2_0 x13_ (by omega) (by omega); have hr := hs.r x13_ (by omega) (by omega); first | omega | (simp only [List.length_cons, List.length_nil]; omega)))
  refine rd_makeO (sz := 1) (ty := 31) (n := x0.length) (zz := nilS) (Mem.nil ⟨0, []⟩) rfl rfl rfl rfl rfl b2 (fun a6 a7 b5 b4 => ?_)
  have b9 : All2 (tSl tI).R (List.replicate x0.length ([] : List Int)) (List.replicate x0.length nilS) := All2.rep (show (tSl tI).R ([] : List Int) nilS from sl_nil) _
  have a3 : (List.replicate x0.length ([] : List Int)).length = x0.length := List.length_replicate
  have a4 : (List.replicate x0.length ([] : List Int)).length ≤ 4611686018427387904 := by rw [a3]; exact fits_len b2
  obtain ⟨a5, b8, b0⟩ : ∃ a5, Ns tI 3 (List.replicate x0.length ([] : List Int)) (List.replicate x0.length nilS) a5 ∧ Mem b5 (⟨.os a6 a7 0 x0.length, 31, 1, (List.replicate x0.length nilS)⟩ :: (a5 ++ [])) := ⟨_, ns_rep _, ns_new (C := [⟨.os a6 a7 0 x0.length, 31, 1, (List.replicate x0.length nilS)⟩]) b4 3 1 _⟩
  refine mV rfl ?_
  refine nS ?_
  refine rc_seq ?_
  refine sR ?_
  refine mV rfl ?_
  refine rd_op (ov_bi rfl (sl_len r0 Try.underlying22 _)) ?_
  refine mI rfl ?_
  refine nS ?_
  refine rc_block ?_
  refine wC (digraph_clean_L1_ok r0 hs hn a3 a4 ?_  b8 a3 a4 rfl (by omega) (by exact lb_rep (by omega)) (Mem.sub b0 (.cons_cons _ (List.Sublist.append_left (List.Sublist.refl _) _))) hres) rfl
  · intro a8 a0 b1 a2 a9 a1 c2 b7 hres
    refine px_blk ?_
    refine pn_seq ?_
    refine sR ?_
    refine mV rfl ?_
    refine mV rfl ?_
    refine nS ?_
    obtain ⟨c3, b6, b3⟩ := ns_deep (P := Try.prog) (k := 0) (C := [⟨.os a6 a7 0 x0.length, 31, 1, a0⟩]) b7 rfl rfl a2 (Nat.le_trans a1 (by decide))
    subst hres
    exact rc_retV (.tmp rfl .nil) b6 b3

def RF29 (res : (List (List Int))) (r : PV) : Prop := (tSl (tSl tI)).R res r
theorem digraph_Reverse_L2_ok {S : List Fr} {res : (List (List Int))} {x0 : List (List Int)} {a4 : (List (List Int))} {a1 : Int} {b5 : List (List Int)} {d5 d7 : PV} {b0 b1 : Nat} (hs : Sm x0) (hn : x0.length ≤ 24) (f7 : (List.replicate x0.length ([] : List Int)).length = x0.length) (g2 : (List.replicate x0.length ([] : List Int)).length ≤ 4611686018427387904) (g1 : digraph_clean x0 = a4) (a9 : Gd x0.length a4) (f6 : a4.length = x0.length) (f3 : b5.length = x0.length) (f2 : b5.length ≤ 4611686018427387904) (g4 : 0 ≤ a1) (f8 : LB b5 (40 * a1)) (e7 : (decide (a1 < (a4.length : Int))) = true) (e1 : (tSl tI).R (ix a4 a1) d7) {K2 : (List (List Int)) → (List (List Int))}
    (g3 : ∀ {a0 : List (List Int)} {a3 : List PV} {a5 : List Ent} (a6 : Ns tI 3 a0 a3 a5) (a7 : a0.length = x0.length) (a8 : a0.length ≤ 4611686018427387904) (g6 : LB a0 (40 * a1 + 40)) {h : Heap} (M0 : Mem h (⟨.os b0 b1 0 x0.length, 31, 1, a3⟩ :: (a5 ++ []))), K2 a0 = res → PX Try.prog 2 S (QR Try.prog [(2, none)] (RF29 res)) [(3, .os b0 b1 0 x0.length), (12, d5), (13, vi (a4.length : Int)), (14, vi a1)] h) :
    ∀ {m : Nat} {a2 : Int} {a0 : List (List Int)} {a3 : List PV} {a5 : List Ent} (a6 : Ns tI 3 a0 a3 a5) (a7 : a0.length = x0.length) (a8 : a0.length ≤ 4611686018427387904) (f9 : m = Int.toNat (((ix a4 a1).length : Int) - a2)) (d8 : 0 ≤ a2) (b4 : LB a0 (40 * a1 + a2)) (c3 : a2 ≤ ((ix a4 a1).length : Int)) {h : Heap} (M0 : Mem h (⟨.os b0 b1 0 x0.length, 31, 1, a3⟩ :: (a5 ++ []))), digraph_Reverse_L2 a4 a1 K2 m a2 a0 = res → RC Try.prog (.loop ac29_L2) S (QR Try.prog [(2, none)] (RF29 res)) [(21, vi a2), (20, vi ((ix a4 a1).length : Int)), (19, d7), (14, vi a1), (13, vi (a4.length : Int)), (12, d5), (4, vi a1), (3, .os b0 b1 0 x0.length)] h := by
  have c4 := e7
  try simp only [qa, qaD] at c4
  intro m
  induction m with
  | zero =>
    intro a2 a0 a3 a5 a6 a7 a8 f9 d8 b4 c3 h M0 hres
    rw [digraph_Reverse_L2] at hres
    refine rc_loop ?_
    refine sR ?_
    refine bN i_lss rfl rfl ?_
    refine nS ?_
    refine rc_seq ?_
    refine rc_cond rfl ?_ ?_ <;> intro c <;> try simp only [qa, qaD] at c
    · omega
    refine rc_exit ?_
    refine px_seq ?_
    refine px_again ?_
    exact wP (g3 a6 a7 a8 (by (have hr := a9.r a1 (by omega) (by omega); exact LB.mono (by assumption) (by omega))) (Mem.sub M0 (.cons_cons _ (List.Sublist.append_left (List.Sublist.refl _) _))) hres) rfl
  | succ m ih =>
    intro a2 a0 a3 a5 a6 a7 a8 f9 d8 b4 c3 h M0 hres
    rw [digraph_Reverse_L2] at hres
    refine rc_loop ?_
    refine sR ?_
    refine bN i_lss rfl rfl ?_
    refine nS ?_
    refine rc_seq ?_
    refine rc_cond rfl ?_ ?_ <;> intro c <;> try simp only [qa, qaD] at c
    rotate_left
    · omega
    refine rc_skip ?_
    refine pn_seq ?_
    refine rc_seq ?_
    refine rc_block ?_
    refine sR ?_
    refine rd_op (ov_iaddr rfl rfl (slI e1 (by first | omega | (have hk := a9.at (k := a1) (i := a2) (by omega) (by omega) (by omega) (by omega); omega)) (by first | omega | (have hk := a9.at (k := a1) (i := a2) (by omega) (by omega) (by omega) (by omega); omega)))) ?_
    refine lR rfl rfl rfl ?_
    refine mV rfl ?_
    refine nS ?_
    refine rc_region ?_
    refine mV rfl ?_
    refine mV rfl ?_
    refine mV rfl ?_
    refine mV rfl ?_
    have b6 : 0 ≤ (ix (ix a4 a1) a2) := (by first | omega | (have hk := a9.at (k := a1) (i := a2) (by omega) (by omega) (by omega) (by omega); omega))
    have c8 : (ix (ix a4 a1) a2) < (a0.length : Int) := (by first | omega | (have hk := a9.at (k := a1) (i := a2) (by omega) (by omega) (by omega) (by omega); omega))
    refine rd_op (ov_iaddr rfl rfl (n_idx 1 b6 (by omega))) ?_
    obtain ⟨f1, b2, e5, e2, c9, e8, g0, d3⟩ := ns_at (i := (ix (ix a4 a1) a2)) a6 b6 c8
    have b7 : Mem h (⟨f1, 3, 1, b2⟩ :: ⟨.os b0 b1 0 x0.length, 31, 1, a3⟩ :: ((a5.eraseIdx ((ix (ix a4 a1) a2)).toNat) ++ [])) := ns_focus (C := [⟨.os b0 b1 0 x0.length, 31, 1, a3⟩]) M0 e2
    refine rd_op (ov_elem (k := 1) b7 rfl rfl e5 (mem_one (k := 0) b7 rfl e8).2) ?_
    refine mV rfl ?_
    refine rd_op (v := .fs true [vi a1]) (ov_bslice rfl (all_cons rfl all_nil)) ?_
    have f5 : (tSl tI).R ([a1] : List Int) (.fs true [vi a1]) := sl_fs ⟨rfl, trivial⟩ (by simp)
    obtain ⟨b3, d0, c2⟩ := src_of (t := tI) (h := h) f5
    have d4 : fits (b2.length + b3.length) 8 = true := by rw [All2.length_eq c9, All2.length_eq c2]; (try simp only [List.length_cons, List.length_nil]); exact fits_of (by first | omega | (have hr := a9.r a1 (by omega) (by omega); have hk := b4 (ix (ix a4 a1) a2) (by omega) (by omega); first | omega | (simp only [List.length_cons, List.length_nil]; omega))) (by first | omega | (have hr := a9.r a1 (by omega) (by omega); have hk := b4 (ix (ix a4 a1) a2) (by omega) (by omega); first | omega | (simp only [List.length_cons, List.length_nil]; omega)))
    refine rd_appW (k := 0) (es := b2) (news := b3) b7 rfl rfl rfl e8 d3 d0 d4 (fun b9 g5 e4 d1 d2 => ?_)
    have e0 : All2 tI.R ((ix a0 (ix (ix a4 a1) a2)) ++ ([a1] : List Int)) (b2 ++ b3) := All2.app c9 c2
    have e3 : ((ix a0 (ix (ix a4 a1) a2)) ++ ([a1] : List Int)).length ≤ 4611686018427387904 := by rw [← All2.length_eq e0, List.length_append]; exact fits_len d4
    have c5 : 0 ≤ (ix (ix a4 a1) a2) := (by first | omega | (have hk := a9.at (k := a1) (i := a2) (by omega) (by omega) (by omega) (by omega); omega))
    have f4 : (ix (ix a4 a1) a2) < (a0.length : Int) := (by first | omega | (have hk := a9.at (k := a1) (i := a2) (by omega) (by omega) (by omega) (by omega); omega))
    refine rd_op (ov_iaddr rfl rfl (n_idx 1 c5 (by omega))) ?_
    refine rd_setO (k := 1) (v := b9) d2 rfl rfl rfl (by rw [(Ns.len a6).1]; omega) (mem_cnt1 (k := 0) d2 rfl e4) (fun e9 c6 => ?_)
    replace c6 : Mem e9 (⟨b9, 3, 1, (b2 ++ b3)⟩ :: ⟨.os b0 b1 0 x0.length, 31, 1, (a3.set ((ix (ix a4 a1) a2)).toNat b9)⟩ :: ((a5.eraseIdx ((ix (ix a4 a1) a2)).toNat) ++ [])) := c6
    obtain ⟨b8, c7, f0, d6⟩ : ∃ b8 c7, Ns tI 3 (a0.set ((ix (ix a4 a1) a2)).toNat ((ix a0 (ix (ix a4 a1) a2)) ++ ([a1] : List Int))) b8 c7 ∧ Mem e9 (⟨.os b0 b1 0 x0.length, 31, 1, b8⟩ :: (c7 ++ [])) := ⟨_, _, ns_put a6  e0 e4 e3 d1, ns_back (C := [⟨.os b0 b1 0 x0.length, 31, 1, (a3.set ((ix (ix a4 a1) a2)).toNat b9)⟩]) c6 (by rw [(Ns.len a6).2]; omega)⟩
    have e6 : (a0.set ((ix (ix a4 a1) a2)).toNat ((ix a0 (ix (ix a4 a1) a2)) ++ ([a1] : List Int))).length = x0.length := by rw [List.length_set]; exact a7
    have d9 : (a0.set ((ix (ix a4 a1) a2)).toNat ((ix a0 (ix (ix a4 a1) a2)) ++ ([a1] : List Int))).length ≤ 4611686018427387904 := by rw [List.length_set]; exact a8
    refine rd_nil ?_
    refine pn_blk ?_
    refine pn_seq ?_
    refine rc_region ?_
    refine bN i_add rfl rfl ?_
    refine mV rfl ?_
    refine rd_nil ?_
    refine pn_again ?_
    have hbd := sl_bound e1
    have hinc : wr (a2 + 1) = a2 + 1 := wr_of (by omega) (by omega)
    erw [hinc]
    exact wC (ih  f0 e6 d9 (by omega) (by omega) (by first | omega | (have hk := a9.at (k := a1) (i := a2) (by omega) (by omega) (by omega) (by omega); exact LB.mono (LB.app (by assumption) (by omega) (by omega)) (by omega))) (by first | omega | (have hk := a9.at (k := a1) (i := a2) (by omega) (by omega) (by omega) (by omega); exact LB.mono (LB.app (by assumption) (by omega) (by omega)) (by omega))) (Mem.sub d6 (.cons_cons _ (List.Sublist.append_left (List.Sublist.refl _) _))) hres) rfl

theorem digraph_Reverse_L1_ok {S : List Fr} {res : (List (List Int))} {x0 : List (List Int)} {a7 : (List (List Int))} {c6 : PV} {b4 b5 : Nat} (hs : Sm x0) (hn : x0.length ≤ 24) (c7 : (List.replicate x0.length ([] : List Int)).length = x0.length) (c4 : (List.replicate x0.length ([] : List Int)).length ≤ 4611686018427387904) (c9 : digraph_clean x0 = a7) (c5 : (tSl (tSl tI)).R a7 c6) (b1 : Gd x0.length a7) (c3 : a7.length = x0.length) {K0 : (List (List Int)) → (List (List Int))}
    (d5 : ∀ {a0 : List (List Int)} {a1 : List PV} {a5 : List Ent} (a6 : Ns tI 3 a0 a1 a5) (a3 : a0.length = x0.length) (a2 : a0.length ≤ 4611686018427387904) {h : Heap} (M0 : Mem h (⟨.os b4 b5 0 x0.length, 31, 1, a1⟩ :: (a5 ++ []))), K0 a0 = res → PX Try.prog 0 S (QR Try.prog [(2, none)] (RF29 res)) [(3, .os b4 b5 0 x0.length)] h) :
    ∀ {m : Nat} {a4 : Int} {a0 : List (List Int)} {a1 : List PV} {a5 : List Ent} (a6 : Ns tI 3 a0 a1 a5) (a3 : a0.length = x0.length) (a2 : a0.length ≤ 4611686018427387904) (d3 : m = Int.toNat ((a7.length : Int) - a4)) (b8 : 0 ≤ a4) (b3 : LB a0 (40 * a4)) {h : Heap} (M0 : Mem h (⟨.os b4 b5 0 x0.length, 31, 1, a1⟩ :: (a5 ++ []))), digraph_Reverse_L1 a7 K0 m a4 a0 = res → RC Try.prog (.loop ac29_L1) S (QR Try.prog [(2, none)] (RF29 res)) [(14, vi a4), (13, vi (a7.length : Int)), (12, c6), (3, .os b4 b5 0 x0.length)] h := by
  intro m
  induction m with
  | zero =>
    intro a4 a0 a1 a5 a6 a3 a2 d3 b8 b3 h M0 hres
    rw [digraph_Reverse_L1] at hres
    refine rc_loop ?_
    refine sR ?_
    refine bN i_lss rfl rfl ?_
    refine nS ?_
    refine rc_seq ?_
    refine rc_cond rfl ?_ ?_ <;> intro c <;> try simp only [qa, qaD] at c
    · omega
    refine rc_exit ?_
    refine px_seq ?_
    refine px_again ?_
    exact wP (d5 a6 a3 a2 (Mem.sub M0 (.cons_cons _ (List.Sublist.append_left (List.Sublist.refl _) _))) hres) rfl
  | succ m ih =>
    intro a4 a0 a1 a5 a6 a3 a2 d3 b8 b3 h M0 hres
    rw [digraph_Reverse_L1] at hres
    refine rc_loop ?_
    refine sR ?_
    refine bN i_lss rfl rfl ?_
    refine nS ?_
    refine rc_seq ?_
    refine rc_cond rfl (fun a8 => ?_) (fun a8 => ?_)
    · have hgo := hres
      have b7 := a8
      try simp only [qa, qaD] at b7
      refine rc_skip ?_
      refine pn_seq ?_
      refine rc_seq ?_
      refine rc_block ?_
      refine sR ?_
      refine mV rfl ?_
      obtain ⟨d4, d1, b9⟩ := sl_idx (i := a4) c5 (by first | omega | (have hk := b1.at (k := a4) (i := x21_) (by omega) (by omega) (by omega) (by omega); omega)) (by first | omega | (have hk := b1.at (k := a4) (i := x21_) (by omega) (by omega) (by omega) (by omega); omega))
      refine rd_op (ov_iaddr rfl rfl d1) ?_
      refine lD b9 rfl rfl rfl ?_
      refine mV rfl ?_
      refine mV rfl ?_
      refine nR ?_
      refine mV rfl ?_
      refine rd_op (ov_bi rfl (sl_len b9 Try.underlying31 _)) ?_
      refine mI rfl ?_
      refine nS ?_
      refine rc_block ?_
      refine wC (digraph_Reverse_L2_ok hs hn c7 c4 c9 b1 c3 a3 a2 b8 b3 a8 b9 ?_  a6 a3 a2 rfl (by omega) (by first | omega | exact LB.mono (by assumption) (by omega)) (by first | omega | exact LB.mono (by assumption) (by omega)) (Mem.sub M0 (.cons_cons _ (List.Sublist.append_left (List.Sublist.refl _) _))) hres) rfl
      · intro b6 c2 c8 b2 b0 a9 d0 d6 d2 hres
        refine px_blk ?_
        refine pn_blk ?_
        refine pn_seq ?_
        refine rc_region ?_
        refine bN i_add rfl rfl ?_
        refine mV rfl ?_
        refine rd_nil ?_
        refine pn_again ?_
        have hbd := sl_bound c5
        have hinc : wr (a4 + 1) = a4 + 1 := wr_of (by omega) (by omega)
        erw [hinc]
        exact wC (ih  b2 b0 a9 (by omega) (by omega) (by exact LB.mono (by assumption) (by omega)) (Mem.sub d2 (.cons_cons _ (List.Sublist.append_left (List.Sublist.refl _) _))) hres) rfl
    · exfalso
      try simp only [qa, qaD] at a8
      omega

theorem f29_ok {x0 : List (List Int)} {v0 : PV} (r0 : (tSl (tSl tI)).R x0 v0) (hs : Sm x0) : ∃ r, FnR Try.prog 29 [v0] r ∧ (tSl (tSl tI)).R (digraph_Reverse x0) r := by
  refine fnT (R := RF29) text29 rfl fun res hres => ?_
  unfold digraph_Reverse at hres
  have hn : x0.length ≤ 24 := hs.n
  refine sR ?_
  refine rd_op (v := nilS) (ov_move rfl) ?_
  refine nR ?_
  refine mV rfl ?_
  refine rd_op (ov_bi rfl (sl_len r0 Try.underlying22 _)) ?_
  have b7 : fits (x0.length) 24 = true := fits_of (by first | omega | (have hr := a0.r x14_ (by omega) (by omega); have hk := iv2_0 (ix (ix a6 x14_) x21_) (by omega) (by omega); first | omega | (simp only [List.length_cons, List.length_nil]; omega))) (by first | omega | (have hr := a0.r x14_ (by omega) (by omega); have hk := iv2_0 (ix (ix a6 x14_) x21_) (by omega) (by omega); first | omega | (simp only [List.length_cons, List.length_nil]; omega)))
  refine rd_makeO (sz := 1) (ty := 31) (n := x0.length) (zz := nilS) (Mem.nil ⟨0, []⟩) rfl rfl rfl rfl rfl b7 (fun a9 b1 c4 c3 => ?_)
  have c7 : All2 (tSl tI).R (List.replicate x0.length ([] : List Int)) (List.replicate x0.length nilS) := All2.rep (show (tSl tI).R ([] : List Int) nilS from sl_nil) _
  have a4 : (List.replicate x0.length ([] : List Int)).length = x0.length := List.length_replicate
  have a7 : (List.replicate x0.length ([] : List Int)).length ≤ 4611686018427387904 := by rw [a4]; exact fits_len b7
  obtain ⟨a8, c6, b6⟩ : ∃ a8, Ns tI 3 (List.replicate x0.length ([] : List Int)) (List.replicate x0.length nilS) a8 ∧ Mem c4 (⟨.os a9 b1 0 x0.length, 31, 1, (List.replicate x0.length nilS)⟩ :: (a8 ++ [])) := ⟨_, ns_rep _, ns_new (C := [⟨.os a9 b1 0 x0.length, 31, 1, (List.replicate x0.length nilS)⟩]) c3 3 1 _⟩
  refine mV rfl ?_
  refine nS ?_
  refine rc_seq ?_
  refine sR ?_
  refine mV rfl ?_
  obtain ⟨a6, a5, hres⟩ := let_ex hres
  obtain ⟨c8, c2, b0⟩ := f37_ok  r0 (by first | assumption | omega)
  rw [a5] at b0
  have a0 : Gd x0.length a6 := clean_gd hs a5
  have b4 : a6.length = x0.length := a0.len
  refine cL c2 rfl rfl (clL_cons (TR.clo (tSl (tSl tI)) r0) clL_nil) ?_
  refine rd_op (ov_bi rfl (sl_len b0 Try.underlying22 _)) ?_
  refine mI rfl ?_
  refine nS ?_
  refine rc_block ?_
  refine wC (digraph_Reverse_L1_ok hs hn a4 a7 a5 b0 a0 b4 ?_  c6 a4 a7 rfl (by omega) (by exact lb_rep (by omega)) (Mem.sub b6 (.cons_cons _ (List.Sublist.append_left (List.Sublist.refl _) _))) hres) rfl
  · intro b3 a1 b5 a3 b2 a2 d0 b8 hres
    refine px_blk ?_
    refine pn_seq ?_
    refine sR ?_
    refine mV rfl ?_
    refine mV rfl ?_
    refine nS ?_
    obtain ⟨c9, b9, c5⟩ := ns_deep (P := Try.prog) (k := 0) (C := [⟨.os a9 b1 0 x0.length, 31, 1, a1⟩]) b8 rfl rfl a3 (Nat.le_trans a2 (by decide))
    subst hres
    exact rc_retV (.tmp rfl .nil) b9 c5

def RF43 (i2_ w2_ i3_ w3_ : Nat) (R_ : List Ent) (res : (List Int) × (List Int)) (r : PV) (h : Heap) : Prop := ∃ aF0_0 : PV, ∃ esF0_0 : List PV, ∃ aF1_0 : PV, ∃ esF1_0 : List PV, Mem h (⟨.op i2_ w2_ 0, 31, 1, [aF0_0]⟩ :: ⟨aF0_0, 3, 1, esF0_0⟩ :: ⟨.op i3_ w3_ 0, 31, 1, [aF1_0]⟩ :: ⟨aF1_0, 3, 1, esF1_0⟩ :: R_) ∧ (All2 tI.R res.1 esF0_0) ∧ (isL aF0_0 = true) ∧ (res.1.length ≤ 4611686018427387904) ∧ (Wri aF0_0 esF0_0) ∧ (All2 tI.R res.2 esF1_0) ∧ (isL aF1_0 = true) ∧ (res.2.length ≤ 4611686018427387904) ∧ (Wri aF1_0 esF1_0) ∧ r = .tup []
theorem f43_ok {x0 x1 : Int} {c0 c1 : List Int} {b0 : PV} {a1 : List PV} {a3 : PV} {a0 : List PV} {R_ : List Ent} {h_ : Heap} {c7 b6 c3 c2 : Nat} (a2 : All2 tI.R c0 a1) (c8 : isL b0 = true) (b4 : c0.length ≤ 4611686018427387904) (c4 : Wri b0 a1) (a8 : All2 tI.R c1 a0) (a9 : isL a3 = true) (b8 : c1.length ≤ 4611686018427387904) (b3 : Wri a3 a0) (M_ : Mem h_ (⟨.op c7 b6 0, 31, 1, [b0]⟩ :: ⟨b0, 3, 1, a1⟩ :: ⟨.op c3 c2 0, 31, 1, [a3]⟩ :: ⟨a3, 3, 1, a0⟩ :: R_)) (hw : 0 ≤ x0 ∧ x0 < (c0.length : Int)) (hq : c1.length ≤ 1000) : ∃ r f0, FnX Try.prog 43 [vi x0, vi x1, .op c7 b6 0, .op c3 c2 0] h_ r f0 ∧ RF43 c7 b6 c3 c2 R_ (digraph_distances_1 x0 x1 c0 c1) r f0 := by
  refine fnXX (R := RF43 c7 b6 c3 c2 R_) text43 rfl fun res hres => ?_
  unfold digraph_distances_1 at hres
  refine sR ?_
  refine rd_op (ov_load0 (k := 0) M_ rfl rfl (mem_one (k := 1) M_ rfl c8).2) ?_
  refine mV rfl ?_
  obtain ⟨a7, a6, a4, e1⟩ := wri_os (i := x0) c4 a2 (by omega) (by omega)
  subst e1
  have d7 : c0.length = a4 := by rw [mem_osn M_ (k := 1) rfl, All2.length_eq a2]
  have b2 : 0 ≤ x0 := (by omega)
  have b7 : x0 < (c0.length : Int) := (by omega)
  refine rd_op (ov_iaddr rfl rfl (n_idx 1 b2 (by omega))) ?_
  obtain ⟨e5, e7, c9⟩ := elem_at (i := x0) a2 b2 b7
  have c9 : e5 = vi (ix c0 x0) := c9; subst c9
  refine rd_op (ov_elem (k := 1) M_ rfl rfl e7 rfl) ?_
  refine bN i_lss rfl rfl ?_
  refine nS ?_
  refine rc_br hres rfl ?_ ?_ <;> clear hres <;> intro c hres <;> try simp only [qa, qaD] at c
  · refine sR ?_
    refine rd_op (ov_load0 (k := 0) M_ rfl rfl (mem_one (k := 1) M_ rfl rfl).2) ?_
    refine mV rfl ?_
    refine mV rfl ?_
    have b9 : 0 ≤ x0 := (by omega)
    have e8 : x0 < (c0.length : Int) := (by omega)
    refine rd_op (ov_iaddr rfl rfl (n_idx 1 b9 (by omega))) ?_
    refine rd_setO (k := 1) (v := vi x1) M_ rfl rfl rfl (by rw [All2.length_eq a2]; omega) rfl (fun e6 c5 => ?_)
    have e3 := All2.set (i := (x0).toNat) a2 (show tI.R x1 (vi x1) from rfl)
    have d2 : (c0.set (x0).toNat x1).length ≤ 4611686018427387904 := by simp only [List.length_set]; exact b4
    have e9 : (c0.set (x0).toNat x1).length = a4 := by simp only [List.length_set]; exact d7
    refine nS ?_
    refine rc_region ?_
    refine rd_op (ov_load0 (k := 2) c5 rfl rfl (mem_one (k := 3) c5 rfl a9).2) ?_
    refine mV rfl ?_
    refine rd_op (v := .fs true [vi x0]) (ov_bslice rfl (all_cons rfl all_nil)) ?_
    have e4 : (tSl tI).R ([x0] : List Int) (.fs true [vi x0]) := sl_fs ⟨rfl, trivial⟩ (by simp)
    obtain ⟨a5, d6, b5⟩ := src_of (t := tI) (h := e6) e4
    have d8 : fits (a0.length + a5.length) 8 = true := by rw [All2.length_eq a8, All2.length_eq b5]; (try simp only [List.length_cons, List.length_nil]); exact fits_of (by first | omega | (simp only [List.length_append, List.length_cons, List.length_nil] at *; omega)) (by first | omega | (simp only [List.length_append, List.length_cons, List.length_nil] at *; omega))
    refine rd_appW (k := 3) (es := a0) (news := a5) c5 rfl rfl rfl a9 b3 d6 d8 (fun b1 f1 e2 d1 d5 => ?_)
    have d4 : All2 tI.R (c1 ++ ([x0] : List Int)) (a0 ++ a5) := All2.app a8 b5
    have d0 : (c1 ++ ([x0] : List Int)).length ≤ 4611686018427387904 := by rw [← All2.length_eq d4, List.length_append]; exact fits_len d8
    refine rd_storeO (k := 2) (v := b1) d5 rfl rfl rfl (mem_cnt1 (k := 3) d5 rfl e2) (fun d9 c6 => ?_)
    replace c6 : Mem d9 (⟨.op c7 b6 0, 31, 1, [(.os a7 a6 0 a4)]⟩ :: ⟨.os a7 a6 0 a4, 3, 1, (a1.set (x0).toNat (vi x1))⟩ :: ⟨.op c3 c2 0, 31, 1, [b1]⟩ :: ⟨b1, 3, 1, (a0 ++ a5)⟩ :: R_) := c6
    refine rd_nil ?_
    have d3 : Mem d9 (⟨.op c7 b6 0, 31, 1, [(.os a7 a6 0 a4)]⟩ :: ⟨.os a7 a6 0 a4, 3, 1, (a1.set (x0).toNat (vi x1))⟩ :: ⟨.op c3 c2 0, 31, 1, [b1]⟩ :: ⟨b1, 3, 1, (a0 ++ a5)⟩ :: R_) := (Mem.front (k := 3) (Mem.front (k := 3) (Mem.front (k := 3) (Mem.front (k := 3) c6 rfl) rfl) rfl) rfl)
    subst hres
    exact pn_endX .nil ⟨(.os a7 a6 0 a4), (a1.set (x0).toNat (vi x1)), b1, (a0 ++ a5), Mem.sub d3 (.cons_cons _ (.cons_cons _ (.cons_cons _ (.cons_cons _ (List.Sublist.refl R_))))), e3, rfl, d2, (.inr ⟨_, _, _, rfl⟩), d4, e2, d0, d1, rfl⟩
  · refine rc_skip ?_
    have e0 : Mem h_ (⟨.op c7 b6 0, 31, 1, [(.os a7 a6 0 a4)]⟩ :: ⟨.os a7 a6 0 a4, 3, 1, a1⟩ :: ⟨.op c3 c2 0, 31, 1, [a3]⟩ :: ⟨a3, 3, 1, a0⟩ :: R_) := (Mem.front (k := 3) (Mem.front (k := 3) (Mem.front (k := 3) (Mem.front (k := 3) M_ rfl) rfl) rfl) rfl)
    subst hres
    exact pn_endX .nil ⟨(.os a7 a6 0 a4), a1, a3, a0, Mem.sub e0 (.cons_cons _ (.cons_cons _ (.cons_cons _ (.cons_cons _ (List.Sublist.refl R_))))), a2, rfl, b4, (.inr ⟨_, _, _, rfl⟩), a8, a9, b8, b3, rfl⟩

def RF34 (res : (List Int)) (r : PV) : Prop := (tSl tI).R res r
theorem digraph_distances_L1_ok {S : List Fr} {res : (List Int)} {x0 : List (List Int)} {x1 : Int} {v0 : PV} {a6 a9 a7 a8 : Nat} (hn : x0.length ≤ 1000) (c3 : (List.replicate x0.length (0 : Int)).length = x0.length) (c2 : (List.replicate x0.length (0 : Int)).length ≤ 4611686018427387904) {K0 : (List Int) → (List Int)}
    (c5 : ∀ {a0 : List Int} {a2 : List PV} (a5 : All2 tI.R a0 a2) (a4 : a0.length = x0.length) (a3 : a0.length ≤ 4611686018427387904) (c6 : NB a0 (x0.length : Int)) {h : Heap} (M0 : Mem h [⟨.op a7 a8 0, 31, 1, [.os a6 a9 0 x0.length]⟩, ⟨.os a6 a9 0 x0.length, 3, 1, a2⟩]), K0 a0 = res → PX Try.prog 0 S (QR Try.prog [(4, none)] (RF34 res)) [(0, v0), (1, vi x1), (5, .op a7 a8 0)] h) :
    ∀ {m : Nat} {a1 : Int} {a0 : List Int} {a2 : List PV} (a5 : All2 tI.R a0 a2) (a4 : a0.length = x0.length) (a3 : a0.length ≤ 4611686018427387904) (b9 : m = Int.toNat (((List.replicate x0.length (0 : Int)).length : Int) - a1)) (b3 : 0 ≤ a1) (b1 : NB a0 a1) (b0 : a1 ≤ (x0.length : Int)) {h : Heap} (M0 : Mem h [⟨.op a7 a8 0, 31, 1, [.os a6 a9 0 x0.length]⟩, ⟨.os a6 a9 0 x0.length, 3, 1, a2⟩]), digraph_distances_L1 K0 m a1 a0 = res → RC Try.prog (.loop ac34_L1) S (QR Try.prog [(4, none)] (RF34 res)) [(18, vi a1), (17, vi ((List.replicate x0.length (0 : Int)).length : Int)), (5, .op a7 a8 0), (1, vi x1), (0, v0)] h := by
  intro m
  induction m with
  | zero =>
    intro a1 a0 a2 a5 a4 a3 b9 b3 b1 b0 h M0 hres
    rw [digraph_distances_L1] at hres
    refine rc_loop ?_
    refine sR ?_
    refine bN i_lss rfl rfl ?_
    refine nS ?_
    refine rc_seq ?_
    refine rc_cond rfl ?_ ?_ <;> intro c <;> try simp only [qa, qaD] at c
    · omega
    refine rc_exit ?_
    refine px_seq ?_
    refine px_again ?_
    exact wP (c5 a5 a4 a3 (by exact NB.mono (by assumption) (by omega)) (Mem.sub M0 (.cons_cons _ (.cons_cons _ .slnil))) hres) rfl
  | succ m ih =>
    intro a1 a0 a2 a5 a4 a3 b9 b3 b1 b0 h M0 hres
    rw [digraph_distances_L1] at hres
    refine rc_loop ?_
    refine sR ?_
    refine bN i_lss rfl rfl ?_
    refine nS ?_
    refine rc_seq ?_
    refine rc_cond rfl ?_ ?_ <;> intro c <;> try simp only [qa, qaD] at c
    rotate_left
    · omega
    refine rc_skip ?_
    refine pn_seq ?_
    refine rc_seq ?_
    refine rc_block ?_
    refine sR ?_
    refine mV rfl ?_
    refine mV rfl ?_
    refine nS ?_
    refine rc_region ?_
    refine rd_op (ov_load0 (k := 0) M0 rfl rfl (mem_one (k := 1) M0 rfl rfl).2) ?_
    refine mV rfl ?_
    have b2 : 0 ≤ a1 := (by first | omega | first | (have hk := QI.at iv2_0 (i := x9_) (by omega) (by omega); omega) | (have hk := en111 (by assumption); omega) | (have hk := qi_pre iv3_0 iv3_1 (i := x9_) (by omega) (by omega); omega))
    have b8 : a1 < (a0.length : Int) := (by first | omega | first | (have hk := QI.at iv2_0 (i := x9_) (by omega) (by omega); omega) | (have hk := en111 (by assumption); omega) | (have hk := qi_pre iv3_0 iv3_1 (i := x9_) (by omega) (by omega); omega))
    refine rd_op (ov_iaddr rfl rfl (n_idx 1 b2 (by omega))) ?_
    refine rd_setO (k := 1) (v := vi (-1)) M0 rfl rfl rfl (by rw [All2.length_eq a5]; omega) rfl (fun c4 b6 => ?_)
    have b7 := All2.set (i := (a1).toNat) a5 (show tI.R (-1) (vi (-1)) from rfl)
    have b5 : (a0.set (a1).toNat (-1)).length ≤ 4611686018427387904 := by simp only [List.length_set]; exact a3
    have b4 : (a0.set (a1).toNat (-1)).length = x0.length := by simp only [List.length_set]; exact a4
    refine rd_nil ?_
    refine pn_blk ?_
    refine pn_seq ?_
    refine rc_region ?_
    refine bN i_add rfl rfl ?_
    refine mV rfl ?_
    refine rd_nil ?_
    refine pn_again ?_
    have hinc : wr (a1 + 1) = a1 + 1 := wr_of (by omega) (by omega)
    erw [hinc]
    exact wC (ih  b7 b4 b5 (by omega) (by omega) (by first | omega | exact NB.next (by assumption) (by omega) (by omega)) (by first | omega | exact NB.next (by assumption) (by omega) (by omega)) (Mem.sub b6 (.cons_cons _ (.cons_cons _ .slnil))) hres) rfl

theorem digraph_distances_L3_ok {S : List Fr} {res : (List Int)} {x0 : List (List Int)} {x1 : Int} {b0 : List Int} {f8 : Bool} {b1 : Int} {a1 e2 : List Int} {v0 : PV} {f4 : List PV} {e6 : PV} {e9 : List PV} {e5 g5 : PV} {c7 c6 c8 c9 i2 : Nat} (r0 : (tSl (tSl tI)).R x0 v0) (hn : x0.length ≤ 1000) (i4 : (List.replicate x0.length (0 : Int)).length = x0.length) (j6 : (List.replicate x0.length (0 : Int)).length ≤ 4611686018427387904) (f6 : b0.length = x0.length) (f5 : b0.length ≤ 4611686018427387904) (g9 : NB b0 (x0.length : Int)) (j4 : digraph_node x0 x1 = f8) (g1 : (!f8) = false) (j2 : ([x1] : List Int).length = 1) (j1 : ([x1] : List Int).length ≤ 4611686018427387904) (h7 : 0 ≤ x1) (h0 : x1 < (b0.length : Int)) (i8 : (b0.set (x1).toNat 0).length ≤ 4611686018427387904) (i9 : (b0.set (x1).toNat 0).length = x0.length) (i5 : isL e6 = true) (h1 : Wri e6 f4) (i1 : a1.length ≤ 4611686018427387904) (j3 : isL e5 = true) (h2 : Wri e5 e9) (h4 : e2.length ≤ 4611686018427387904) (c3 : QI x0.length e2 a1) (j5 : 0 ≤ b1) (f7 : (decide (b1 < (a1.length : Int))) = true) (i7 : a1.length = i2) (h3 : 0 ≤ b1) (i3 : b1 < (a1.length : Int)) (f1 : (tSl tI).R (ix x0 (ix a1 b1)) g5) {K4 : (List Int) → (List Int) → (List Int)}
    (k0 : ∀ {a2 a0 : List Int} {a4 : List PV} {a3 : PV} {a5 : List PV} {a7 : PV} (b8 : All2 tI.R a2 a4) (b6 : isL a3 = true) (b3 : Wri a3 a4) (b5 : a2.length ≤ 4611686018427387904) (a9 : All2 tI.R a0 a5) (b7 : isL a7 = true) (b4 : Wri a7 a5) (b2 : a0.length ≤ 4611686018427387904) (k3 : QI x0.length a0 a2) {h : Heap} (M0 : Mem h [⟨.op c8 c9 0, 31, 1, [a3]⟩, ⟨a3, 3, 1, a4⟩, ⟨.op c7 c6 0, 31, 1, [a7]⟩, ⟨a7, 3, 1, a5⟩]), K4 a2 a0 = res → PX Try.prog 4 S (QR Try.prog [(4, none)] (RF34 res)) [(0, v0), (5, .op c7 c6 0), (7, .op c8 c9 0), (8, .fn (.func 43) [] [.op c7 c6 0, .op c8 c9 0]), (9, vi b1)] h) :
    ∀ {m : Nat} {b9 : Int} {a2 a0 : List Int} {a4 : List PV} {a3 : PV} {a5 : List PV} {a7 : PV} (b8 : All2 tI.R a2 a4) (b6 : isL a3 = true) (b3 : Wri a3 a4) (b5 : a2.length ≤ 4611686018427387904) (a9 : All2 tI.R a0 a5) (b7 : isL a7 = true) (b4 : Wri a7 a5) (b2 : a0.length ≤ 4611686018427387904) (j0 : m = Int.toNat (((ix x0 (ix a1 b1)).length : Int) - b9)) (g8 : 0 ≤ b9) (a6 : QI x0.length a0 a2) (a8 : a1 <+: a2) {h : Heap} (M0 : Mem h [⟨.op c8 c9 0, 31, 1, [a3]⟩, ⟨a3, 3, 1, a4⟩, ⟨.op c7 c6 0, 31, 1, [a7]⟩, ⟨a7, 3, 1, a5⟩]), digraph_distances_L3 x0 b1 a1 K4 m b9 a2 a0 = res → RC Try.prog (.loop ac34_L3) S (QR Try.prog [(4, none)] (RF34 res)) [(51, vi b9), (50, vi ((ix x0 (ix a1 b1)).length : Int)), (49, g5), (10, vi (ix a1 b1)), (9, vi b1), (8, .fn (.func 43) [] [.op c7 c6 0, .op c8 c9 0]), (7, .op c8 c9 0), (5, .op c7 c6 0), (0, v0)] h := by
  have f3 := g1
  try simp only [qa, qaD] at f3
  have e8 := f7
  try simp only [qa, qaD] at e8
  intro m
  induction m with
  | zero =>
    intro b9 a2 a0 a4 a3 a5 a7 b8 b6 b3 b5 a9 b7 b4 b2 j0 g8 a6 a8 h M0 hres
    rw [digraph_distances_L3] at hres
    refine rc_loop ?_
    refine sR ?_
    refine bN i_lss rfl rfl ?_
    refine nS ?_
    refine rc_seq ?_
    refine rc_cond rfl ?_ ?_ <;> intro c <;> try simp only [qa, qaD] at c
    · omega
    refine rc_exit ?_
    refine px_seq ?_
    refine px_again ?_
    exact wP (k0 b8 b6 b3 b5 a9 b7 b4 b2 (by assumption) (Mem.sub M0 (.cons_cons _ (.cons_cons _ (.cons_cons _ (.cons_cons _ .slnil))))) hres) rfl
  | succ m ih =>
    intro b9 a2 a0 a4 a3 a5 a7 b8 b6 b3 b5 a9 b7 b4 b2 j0 g8 a6 a8 h M0 hres
    rw [digraph_distances_L3] at hres
    refine rc_loop ?_
    refine sR ?_
    refine bN i_lss rfl rfl ?_
    refine nS ?_
    refine rc_seq ?_
    refine rc_cond rfl ?_ ?_ <;> intro c <;> try simp only [qa, qaD] at c
    rotate_left
    · omega
    refine rc_skip ?_
    refine pn_seq ?_
    refine rc_seq ?_
    refine rc_block ?_
    refine sR ?_
    refine rd_op (ov_iaddr rfl rfl (slI f1 (by first | omega | first | (have hk := QI.at c3 (i := b1) (by omega) (by omega); omega) | (have hk := en111 (by assumption); omega) | (have hk := qi_pre a6 a8 (i := b1) (by omega) (by omega); omega)) (by first | omega | first | (have hk := QI.at c3 (i := b1) (by omega) (by omega); omega) | (have hk := en111 (by assumption); omega) | (have hk := qi_pre a6 a8 (i := b1) (by omega) (by omega); omega)))) ?_
    refine lR rfl rfl rfl ?_
    refine mV rfl ?_
    refine nR ?_
    refine mV rfl ?_
    refine mV rfl ?_
    obtain ⟨j9, e4, hres⟩ := let_ex hres
    have g0 := f33_ok (x1 := (ix (ix x0 (ix a1 b1)) b9)) r0 
    rw [e4] at g0
    have c2 := node_use e4
    refine cL g0 rfl rfl (clL_cons (TR.clo (tSl (tSl tI)) r0) (clL_cons rfl clL_nil)) ?_
    refine nS ?_
    refine rc_br hres rfl ?_ ?_ <;> clear hres <;> intro c hres <;> try simp only [qa, qaD] at c
    · refine rc_regionS ?_
      refine rs_step ?_
      refine mV rfl ?_
      refine rs_back ?_
      refine rs_step ?_
      refine mV rfl ?_
      refine rs_back ?_
      refine rs_step ?_
      refine rd_op (ov_load0 (k := 2) M0 rfl rfl (mem_one (k := 3) M0 rfl b7).2) ?_
      refine rs_back ?_
      refine rs_step ?_
      refine mV rfl ?_
      refine rs_back ?_
      refine rs_step ?_
      obtain ⟨g6, g4, f2, g7⟩ := wri_os (i := (ix a1 b1)) b4 a9 (by first | omega | first | (have hk := QI.at c3 (i := b1) (by omega) (by omega); omega) | (have hk := en111 (by assumption); omega) | (have hk := qi_pre a6 a8 (i := b1) (by omega) (by omega); omega)) (by first | omega | first | (have hk := QI.at c3 (i := b1) (by omega) (by omega); omega) | (have hk := en111 (by assumption); omega) | (have hk := qi_pre a6 a8 (i := b1) (by omega) (by omega); omega))
      subst g7
      have i6 : a0.length = f2 := by rw [mem_osn M0 (k := 3) rfl, All2.length_eq a9]
      have e0 : 0 ≤ (ix a1 b1) := (by first | omega | first | (have hk := QI.at c3 (i := b1) (by omega) (by omega); omega) | (have hk := en111 (by assumption); omega) | (have hk := qi_pre a6 a8 (i := b1) (by omega) (by omega); omega))
      have f0 : (ix a1 b1) < (a0.length : Int) := (by first | omega | first | (have hk := QI.at c3 (i := b1) (by omega) (by omega); omega) | (have hk := en111 (by assumption); omega) | (have hk := qi_pre a6 a8 (i := b1) (by omega) (by omega); omega))
      refine rd_op (ov_iaddr rfl rfl (n_idx 1 e0 (by omega))) ?_
      refine rs_back ?_
      refine rs_step ?_
      obtain ⟨h6, h5, e7⟩ := elem_at (i := (ix a1 b1)) a9 e0 f0
      have e7 : h6 = vi (ix a0 (ix a1 b1)) := e7; subst e7
      refine rd_op (ov_elem (k := 3) M0 rfl rfl h5 rfl) ?_
      refine rs_back ?_
      refine rs_step ?_
      refine bN i_add rfl rfl ?_
      refine rs_back ?_
      have i0 : Mem h [⟨.op c7 c6 0, 31, 1, [(.os g6 g4 0 f2)]⟩, ⟨.os g6 g4 0 f2, 3, 1, a5⟩, ⟨.op c8 c9 0, 31, 1, [a3]⟩, ⟨a3, 3, 1, a4⟩] := (Mem.front (k := 3) (Mem.front (k := 3) (Mem.front (k := 1) (Mem.front (k := 1) M0 rfl) rfl) rfl) rfl)
      obtain ⟨j8, f9, hres⟩ := let_ex hres
      obtain ⟨j7, h9, g3, e3⟩ := f43_ok (x0 := (ix (ix x0 (ix a1 b1)) b9)) (x1 := (wr ((ix a0 (ix a1 b1)) + 1))) (c0 := a0) (c1 := a2) a9 rfl b2 (.inr ⟨_, _, _, rfl⟩) b8 b6 b5 b3 i0 (by first | (have hk := c2 (by assumption); have hl := QI.len a6; omega) | (have hk := QI.qlen a6; omega)) (by first | (have hk := c2 (by assumption); have hl := QI.len a6; omega) | (have hk := QI.qlen a6; omega))
      rw [f9] at e3
      obtain ⟨c5, d2, c4, d9, h8, d4, d6, d3, d0, d7, d5, d8, d1, e1⟩ := e3
      replace e1 := e1.symm; subst e1
      refine rs_callXc rfl rfl g3 ?_
      refine rs_nil ?_
      refine pn_blk ?_
      refine pn_seq ?_
      refine rc_region ?_
      refine bN i_add rfl rfl ?_
      refine mV rfl ?_
      refine rd_nil ?_
      have g2 : Mem h9 [⟨.op c8 c9 0, 31, 1, [c4]⟩, ⟨c4, 3, 1, d9⟩, ⟨.op c7 c6 0, 31, 1, [c5]⟩, ⟨c5, 3, 1, d2⟩] := (Mem.front (k := 3) (Mem.front (k := 3) (Mem.front (k := 1) (Mem.front (k := 1) h8 rfl) rfl) rfl) rfl)
      refine pn_again ?_
      have hbd := sl_bound f1
      have hinc : wr (b9 + 1) = b9 + 1 := wr_of (by omega) (by omega)
      erw [hinc]
      exact wC (ih  d7 d5 d1 d8 d4 d6 d0 d3 (by omega) (by omega) (by first | assumption | (have hk := c2 (by assumption); have hp := qi_pre a6 a8 (i := b1) (by omega) (by omega); have hw := wr_of (n := ix a0 (ix a1 b1) + 1) (by omega) (by omega); have hv := QI.visit (d := wr (ix a0 (ix a1 b1) + 1)) a6 hk.1 hk.2 (by omega) (by omega) _ (by assumption); first | exact hv.1 | exact a8.trans hv.2.1)) (by first | assumption | (have hk := c2 (by assumption); have hp := qi_pre a6 a8 (i := b1) (by omega) (by omega); have hw := wr_of (n := ix a0 (ix a1 b1) + 1) (by omega) (by omega); have hv := QI.visit (d := wr (ix a0 (ix a1 b1) + 1)) a6 hk.1 hk.2 (by omega) (by omega) _ (by assumption); first | exact hv.1 | exact a8.trans hv.2.1)) (Mem.sub g2 (.cons_cons _ (.cons_cons _ (.cons_cons _ (.cons_cons _ .slnil))))) hres) rfl
    · refine rc_skip ?_
      refine pn_blk ?_
      refine pn_seq ?_
      refine rc_region ?_
      refine bN i_add rfl rfl ?_
      refine mV rfl ?_
      refine rd_nil ?_
      refine pn_again ?_
      have hbd := sl_bound f1
      have hinc : wr (b9 + 1) = b9 + 1 := wr_of (by omega) (by omega)
      erw [hinc]
      exact wC (ih  b8 b6 b3 b5 a9 b7 b4 b2 (by omega) (by omega) (by first | assumption | (have hk := c2 (by assumption); have hp := qi_pre a6 a8 (i := b1) (by omega) (by omega); have hw := wr_of (n := ix a0 (ix a1 b1) + 1) (by omega) (by omega); have hv := QI.visit (d := wr (ix a0 (ix a1 b1) + 1)) a6 hk.1 hk.2 (by omega) (by omega) _ (by assumption); first | exact hv.1 | exact a8.trans hv.2.1)) (by first | assumption | (have hk := c2 (by assumption); have hp := qi_pre a6 a8 (i := b1) (by omega) (by omega); have hw := wr_of (n := ix a0 (ix a1 b1) + 1) (by omega) (by omega); have hv := QI.visit (d := wr (ix a0 (ix a1 b1) + 1)) a6 hk.1 hk.2 (by omega) (by omega) _ (by assumption); first | exact hv.1 | exact a8.trans hv.2.1)) (Mem.sub M0 (.cons_cons _ (.cons_cons _ (.cons_cons _ (.cons_cons _ .slnil))))) hres) rfl

theorem digraph_distances_L2_ok {S : List Fr} {res : (List Int)} {x0 : List (List Int)} {x1 : Int} {a0 : List Int} {f1 : Bool} {v0 : PV} {c9 c6 d6 d7 : Nat} (r0 : (tSl (tSl tI)).R x0 v0) (hn : x0.length ≤ 1000) (f2 : (List.replicate x0.length (0 : Int)).length = x0.length) (g2 : (List.replicate x0.length (0 : Int)).length ≤ 4611686018427387904) (c5 : a0.length = x0.length) (c3 : a0.length ≤ 4611686018427387904) (d5 : NB a0 (x0.length : Int)) (f9 : digraph_node x0 x1 = f1) (e1 : (!f1) = false) (f8 : ([x1] : List Int).length = 1) (f7 : ([x1] : List Int).length ≤ 4611686018427387904) (e7 : 0 ≤ x1) (e3 : x1 < (a0.length : Int)) (f4 : (a0.set (x1).toNat 0).length ≤ 4611686018427387904) (f5 : (a0.set (x1).toNat 0).length = x0.length) {K2 : (List Int) → (List Int) → (List Int)}
    (g9 : ∀ {a1 a8 : List Int} {a3 : List PV} {a7 : PV} {a2 : List PV} {a6 : PV} (a5 : All2 tI.R a1 a3) (a4 : isL a7 = true) (b0 : Wri a7 a3) (b3 : a1.length ≤ 4611686018427387904) (b6 : All2 tI.R a8 a2) (b5 : isL a6 = true) (b1 : Wri a6 a2) (b2 : a8.length ≤ 4611686018427387904) {h : Heap} (M0 : Mem h [⟨.op d6 d7 0, 31, 1, [a7]⟩, ⟨a7, 3, 1, a3⟩, ⟨.op c9 c6 0, 31, 1, [a6]⟩, ⟨a6, 3, 1, a2⟩]), K2 a1 a8 = res → PX Try.prog 2 S (QR Try.prog [(4, none)] (RF34 res)) [(5, .op c9 c6 0)] h) :
    ∀ {m : Nat} {b4 : Int} {a1 a8 : List Int} {a3 : List PV} {a7 : PV} {a2 : List PV} {a6 : PV} (a5 : All2 tI.R a1 a3) (a4 : isL a7 = true) (b0 : Wri a7 a3) (b3 : a1.length ≤ 4611686018427387904) (b6 : All2 tI.R a8 a2) (b5 : isL a6 = true) (b1 : Wri a6 a2) (b2 : a8.length ≤ 4611686018427387904) (h0 : (x0.length : Int) - b4 ≤ (m : Int)) (a9 : QI x0.length a8 a1) (d1 : 0 ≤ b4) {h : Heap} (M0 : Mem h [⟨.op d6 d7 0, 31, 1, [a7]⟩, ⟨a7, 3, 1, a3⟩, ⟨.op c9 c6 0, 31, 1, [a6]⟩, ⟨a6, 3, 1, a2⟩]), digraph_distances_L2 x0 K2 m b4 a1 a8 = res → RC Try.prog (.loop ac34_L2) S (QR Try.prog [(4, none)] (RF34 res)) [(9, vi b4), (8, .fn (.func 43) [] [.op c9 c6 0, .op d6 d7 0]), (7, .op d6 d7 0), (5, .op c9 c6 0), (0, v0)] h := by
  have e8 := e1
  try simp only [qa, qaD] at e8
  intro m
  induction m with
  | zero =>
    intro b4 a1 a8 a3 a7 a2 a6 a5 a4 b0 b3 b6 b5 b1 b2 h0 a9 d1 h M0 hres
    rw [digraph_distances_L2] at hres
    refine rc_loop ?_
    refine rc_seq ?_
    refine sR ?_
    refine mV rfl ?_
    refine rd_op (ov_load0 (k := 0) M0 rfl rfl (mem_one (k := 1) M0 rfl a4).2) ?_
    refine rd_op (ov_bi rfl (own_len (k := 1) M0 rfl Try.underlying31 a4 a5 _)) ?_
    refine bN i_lss rfl rfl ?_
    refine nS ?_
    refine rc_cond rfl (fun c8 => ?_) (fun c8 => ?_)
    · exfalso
      try simp only [qa, qaD] at c8
      (have hk := QI.qlen a9; omega)
    · have hend := hres
      have e5 := c8
      try simp only [qa, qaD] at e5
      refine rc_exit ?_
      refine px_seq ?_
      refine px_again ?_
      exact wP (g9 a5 a4 b0 b3 b6 b5 b1 b2 (Mem.sub M0 (.cons_cons _ (.cons_cons _ (.cons_cons _ (.cons_cons _ .slnil))))) hres) rfl
  | succ m ih =>
    intro b4 a1 a8 a3 a7 a2 a6 a5 a4 b0 b3 b6 b5 b1 b2 h0 a9 d1 h M0 hres
    rw [digraph_distances_L2] at hres
    refine rc_loop ?_
    refine rc_seq ?_
    refine sR ?_
    refine mV rfl ?_
    refine rd_op (ov_load0 (k := 0) M0 rfl rfl (mem_one (k := 1) M0 rfl a4).2) ?_
    refine rd_op (ov_bi rfl (own_len (k := 1) M0 rfl Try.underlying31 a4 a5 _)) ?_
    refine bN i_lss rfl rfl ?_
    refine nS ?_
    refine rc_br hres rfl ?_ ?_ <;> clear hres <;> intro d9 hres <;> have e2 := d9 <;> try simp only [qa, qaD] at e2
    · refine rc_skip ?_
      refine pn_seq ?_
      refine rc_seq ?_
      refine rc_block ?_
      refine sR ?_
      refine rd_op (ov_load0 (k := 0) M0 rfl rfl (mem_one (k := 1) M0 rfl a4).2) ?_
      refine mV rfl ?_
      obtain ⟨h2, h1, g8, g0⟩ := wri_os (i := b4) b0 a5 (by first | omega | first | (have hk := QI.at a9 (i := b4) (by omega) (by omega); omega) | (have hk := en111 (by assumption); omega) | (have hk := qi_pre iv3_0 iv3_1 (i := b4) (by omega) (by omega); omega)) (by first | omega | first | (have hk := QI.at a9 (i := b4) (by omega) (by omega); omega) | (have hk := en111 (by assumption); omega) | (have hk := qi_pre iv3_0 iv3_1 (i := b4) (by omega) (by omega); omega))
      subst g0
      have f3 : a1.length = g8 := by rw [mem_osn M0 (k := 1) rfl, All2.length_eq a5]
      have b7 : 0 ≤ b4 := (by first | omega | first | (have hk := QI.at a9 (i := b4) (by omega) (by omega); omega) | (have hk := en111 (by assumption); omega) | (have hk := qi_pre iv3_0 iv3_1 (i := b4) (by omega) (by omega); omega))
      have d3 : b4 < (a1.length : Int) := (by first | omega | first | (have hk := QI.at a9 (i := b4) (by omega) (by omega); omega) | (have hk := en111 (by assumption); omega) | (have hk := qi_pre iv3_0 iv3_1 (i := b4) (by omega) (by omega); omega))
      refine rd_op (ov_iaddr rfl rfl (n_idx 1 b7 (by omega))) ?_
      obtain ⟨g4, g5, e6⟩ := elem_at (i := b4) a5 b7 d3
      have e6 : g4 = vi (ix a1 b4) := e6; subst e6
      refine rd_op (ov_elem (k := 1) M0 rfl rfl g5 rfl) ?_
      refine mV rfl ?_
      refine nR ?_
      refine mV rfl ?_
      refine mV rfl ?_
      obtain ⟨h3, g6, e4⟩ := sl_idx (i := (ix a1 b4)) r0 (by first | omega | first | (have hk := QI.at a9 (i := b4) (by omega) (by omega); omega) | (have hk := en111 (by assumption); omega) | (have hk := qi_pre iv3_0 iv3_1 (i := b4) (by omega) (by omega); omega)) (by first | omega | first | (have hk := QI.at a9 (i := b4) (by omega) (by omega); omega) | (have hk := en111 (by assumption); omega) | (have hk := qi_pre iv3_0 iv3_1 (i := b4) (by omega) (by omega); omega))
      refine rd_op (ov_iaddr rfl rfl g6) ?_
      refine lD e4 rfl rfl rfl ?_
      refine rd_op (ov_bi rfl (sl_len e4 Try.underlying31 _)) ?_
      refine mI rfl ?_
      refine nS ?_
      refine rc_block ?_
      refine wC (digraph_distances_L3_ok r0 hn f2 g2 c5 c3 d5 f9 e1 f8 f7 e7 e3 f4 f5 a4 b0 b3 b5 b1 b2 a9 d1 d9 f3 b7 d3 e4 ?_  a5 rfl (.inr ⟨_, _, _, rfl⟩) b3 b6 b5 b1 b2 rfl (by omega) (by first | assumption | exact List.prefix_refl _) (by first | assumption | exact List.prefix_refl _) (Mem.sub M0 (.cons_cons _ (.cons_cons _ (.cons_cons _ (.cons_cons _ .slnil))))) hres) rfl
      · intro d8 e0 e9 g1 f0 f6 d0 d2 b9 c2 d4 c7 c4 b8 g3 h4 g7 hres
        refine px_blk ?_
        refine pn_blk ?_
        refine pn_seq ?_
        refine rc_region ?_
        refine mV rfl ?_
        refine bN i_add rfl rfl ?_
        refine mV rfl ?_
        refine rd_nil ?_
        refine pn_again ?_
        exact wC (ih  d0 d2 b9 c2 d4 c7 c4 b8 (by (rw [wr_of (by omega) (by omega)]; omega)) (by first | assumption | (rw [wr_of (by omega) (by omega)]; omega)) (by first | assumption | (rw [wr_of (by omega) (by omega)]; omega)) (Mem.sub g7 (.cons_cons _ (.cons_cons _ (.cons_cons _ (.cons_cons _ .slnil))))) hres) rfl
    · refine rc_exit ?_
      refine px_seq ?_
      refine px_again ?_
      exact wP (g9 a5 a4 b0 b3 b6 b5 b1 b2 (Mem.sub M0 (.cons_cons _ (.cons_cons _ (.cons_cons _ (.cons_cons _ .slnil))))) hres) rfl

theorem f34_ok {x0 : List (List Int)} {x1 : Int} {v0 : PV} (r0 : (tSl (tSl tI)).R x0 v0) (hn : x0.length ≤ 1000) : ∃ r, FnR Try.prog 34 [v0, vi x1] r ∧ (tSl tI).R (digraph_distances x0 x1) r := by
  refine fnT (R := RF34) text34 rfl fun res hres => ?_
  unfold digraph_distances at hres
  refine sR ?_
  refine rd_op (v := nilS) (ov_move rfl) ?_
  refine nR ?_
  refine mV rfl ?_
  refine rd_op (ov_bi rfl (sl_len r0 Try.underlying22 _)) ?_
  have e6 : fits (x0.length) 8 = true := fits_of (by first | omega | (simp only [List.length_append, List.length_cons, List.length_nil] at *; omega)) (by first | omega | (simp only [List.length_append, List.length_cons, List.length_nil] at *; omega))
  refine rd_makeO (sz := 1) (ty := 3) (n := x0.length) (zz := vi 0) (Mem.nil ⟨0, []⟩) rfl rfl rfl rfl rfl e6 (fun a6 a7 g8 f4 => ?_)
  have f1 : All2 tI.R (List.replicate x0.length (0 : Int)) (List.replicate x0.length (vi 0)) := All2.rep (show tI.R (0 : Int) (vi 0) from rfl) _
  have a8 : (List.replicate x0.length (0 : Int)).length = x0.length := List.length_replicate
  have b5 : (List.replicate x0.length (0 : Int)).length ≤ 4611686018427387904 := by rw [a8]; exact fits_len e6
  refine rd_allocO (x := nilS) f4 rfl rfl (fun b8 b7 h1 e0 => ?_)
  refine rd_storeO (k := 0) (v := .os a6 a7 0 x0.length) e0 rfl rfl rfl (mem_cnt1 (k := 1) e0 rfl rfl) (fun g0 a9 => ?_)
  replace a9 : Mem g0 [⟨.op b8 b7 0, 31, 1, [.os a6 a7 0 x0.length]⟩, ⟨.os a6 a7 0 x0.length, 3, 1, (List.replicate x0.length (vi 0))⟩] := a9
  refine nS ?_
  refine rc_seq ?_
  refine sR ?_
  refine rd_op (ov_load0 (k := 0) a9 rfl rfl (mem_one (k := 1) a9 rfl rfl).2) ?_
  refine rd_op (ov_bi rfl (own_len (k := 1) a9 rfl Try.underlying31 rfl f1 _)) ?_
  refine mI rfl ?_
  refine nS ?_
  refine rc_block ?_
  refine wC (digraph_distances_L1_ok hn a8 b5 ?_  f1 a8 b5 rfl (by omega) (by first | omega | exact NB.nil) (by first | omega | exact NB.nil) (Mem.sub a9 (.cons_cons _ (.cons_cons _ .slnil))) hres) rfl
  · intro a0 a4 a2 a3 a1 b6 g7 b9 hres
    refine px_blk ?_
    refine pn_seq ?_
    refine rc_seq ?_
    refine sR ?_
    refine mV rfl ?_
    refine mV rfl ?_
    obtain ⟨g4, b3, hres⟩ := let_ex hres
    have e4 := f33_ok (x1 := x1) r0 
    rw [b3] at e4
    have c4 := node_use b3
    refine cL e4 rfl rfl (clL_cons (TR.clo (tSl (tSl tI)) r0) (clL_cons rfl clL_nil)) ?_
    refine rd_op (ov_not rfl) ?_
    refine nS ?_
    refine rc_br hres rfl ?_ ?_ <;> clear hres <;> intro c7 hres <;> have d2 := c7 <;> try simp only [qa, qaD] at d2
    · refine sR ?_
      refine rd_op (ov_load0 (k := 0) b9 rfl rfl (mem_one (k := 1) b9 rfl rfl).2) ?_
      refine mV rfl ?_
      refine nS ?_
      obtain ⟨g9, f5, g2⟩ := own_sl (P := Try.prog) (k := 1) (t := tI) b9 rfl rfl a2 (Nat.le_trans a1 (by decide))
      subst hres
      exact rc_retV (.tmp rfl .nil) f5 g2
    · refine rc_skip ?_
      refine pn_seq ?_
      refine sR ?_
      refine mV rfl ?_
      refine rd_bslO (vs := [vi x1]) b9 rfl (all_cons rfl all_nil) (fun c2 c3 f7 c9 => ?_)
      have f3 : All2 tI.R ([x1] : List Int) [vi x1] := ⟨rfl, trivial⟩
      have c8 : ([x1] : List Int).length = 1 := rfl
      have c6 : ([x1] : List Int).length ≤ 4611686018427387904 := by rw [c8]; decide
      replace c9 : Mem f7 [⟨.os c2 c3 0 1, 3, 1, [vi x1]⟩, ⟨.op b8 b7 0, 31, 1, [.os a6 a7 0 x0.length]⟩, ⟨.os a6 a7 0 x0.length, 3, 1, a4⟩] := c9
      refine rd_allocO (x := nilS) c9 rfl rfl (fun e3 e9 h0 e7 => ?_)
      refine rd_storeO (k := 0) (v := .os c2 c3 0 1) e7 rfl rfl rfl (mem_cnt1 (k := 1) e7 rfl rfl) (fun f8 b1 => ?_)
      replace b1 : Mem f8 [⟨.op e3 e9 0, 31, 1, [.os c2 c3 0 1]⟩, ⟨.os c2 c3 0 1, 3, 1, [vi x1]⟩, ⟨.op b8 b7 0, 31, 1, [.os a6 a7 0 x0.length]⟩, ⟨.os a6 a7 0 x0.length, 3, 1, a4⟩] := b1
      refine nR ?_
      refine rd_op (v := .fn (.func 43) [] [.op b8 b7 0, .op e3 e9 0]) (ov_mkFunc rfl rfl) ?_
      refine mV rfl ?_
      refine nR ?_
      refine rd_op (ov_load0 (k := 2) b1 rfl rfl (mem_one (k := 3) b1 rfl rfl).2) ?_
      refine mV rfl ?_
      have b2 : 0 ≤ x1 := (by first | omega | first | (have hk := QI.at iv2_0 (i := x9_) (by omega) (by omega); omega) | (have hk := c4 (by assumption); omega) | (have hk := qi_pre iv3_0 iv3_1 (i := x9_) (by omega) (by omega); omega))
      have d0 : x1 < (a0.length : Int) := (by first | omega | first | (have hk := QI.at iv2_0 (i := x9_) (by omega) (by omega); omega) | (have hk := c4 (by assumption); omega) | (have hk := qi_pre iv3_0 iv3_1 (i := x9_) (by omega) (by omega); omega))
      refine rd_op (ov_iaddr rfl rfl (n_idx 1 b2 (by omega))) ?_
      refine rd_setO (k := 3) (v := vi 0) b1 rfl rfl rfl (by rw [All2.length_eq a2]; omega) rfl (fun g3 g1 => ?_)
      have f6 := All2.set (i := (x1).toNat) a2 (show tI.R 0 (vi 0) from rfl)
      have c5 : (a0.set (x1).toNat 0).length ≤ 4611686018427387904 := by simp only [List.length_set]; exact a1
      have e2 : (a0.set (x1).toNat 0).length = x0.length := by simp only [List.length_set]; exact a3
      refine nS ?_
      refine rc_seq ?_
      refine sR ?_
      refine mI rfl ?_
      refine nS ?_
      refine rc_block ?_
      refine wC (digraph_distances_L2_ok r0 hn a8 b5 a3 a1 b6 b3 c7 c8 c6 b2 d0 c5 e2 ?_  f3 rfl (.inr ⟨_, _, _, rfl⟩) c6 f6 rfl (.inr ⟨_, _, _, rfl⟩) c5 (by omega) (by first | omega | exact qi_new (by omega) (by assumption) (by omega) (by omega)) (by first | omega | exact qi_new (by omega) (by assumption) (by omega) (by omega)) (Mem.sub g1 (.cons_cons _ (.cons_cons _ (.cons_cons _ (.cons_cons _ .slnil))))) hres) rfl
      · intro d7 d4 d8 e1 d9 e5 f0 e8 d3 d5 b4 a5 d6 b0 g6 d1 hres
        refine px_blk ?_
        refine pn_seq ?_
        refine sR ?_
        refine rd_op (ov_load0 (k := 2) d1 rfl rfl (mem_one (k := 3) d1 rfl a5).2) ?_
        refine mV rfl ?_
        refine nS ?_
        obtain ⟨g5, f9, f2⟩ := own_sl (P := Try.prog) (k := 3) (t := tI) d1 rfl a5 b4 (Nat.le_trans b0 (by decide))
        subst hres
        exact rc_retV (.tmp rfl .nil) f9 f2

end Go.Proofs.Ytpdimhpjehfjeaa
