/-
  The code of each function does what its plain program says.
-/
import Derived.Test.YtpdimhpjehfjeaaKDef
import Derived.Test.YtpdimhpjehfjeaaL8Text
import Derived.Test.YtpdimhpjehfjeaaPbV
import Derived.Test.YtpdimhpjehfjeaaKCo
import Derived.Test.YtpdimhpjehfjeaaKLy
import Derived.Test.YtpdimhpjehfjeaaKGbOrSpDsUsOk
import Derived.Test.YtpdimhpjehfjeaaKIn
import Derived.Test.YtpdimhpjehfjeaaKUuRsLvTwLaLpLoLsLrLiLj
set_option linter.unusedVariables false
set_option linter.unusedSimpArgs false
set_option maxRecDepth 100000
namespace Go.Proofs.Ytpdimhpjehfjeaa
open Go Go.Pb Go.RowKit
def RF13 (res : Bool) (r : PV) : Prop := r = vb res
theorem law06_large_L1_ok {S : List Fr} {res : Bool} {x0 : List (List Int)} {v0 : PV} (r0 : (tSl (tSl tI)).R x0 v0) (a4 : (decide (24 < (x0.length : Int))) = false) {K0 : Unit → Bool}
    (a7 : K0 () = res → PX Try.prog 0 S (QR Try.prog [(2, none)] (RF13 res)) [] ⟨0, []⟩) :
    ∀ {m : Nat} {a0 : Int} (a6 : m = Int.toNat ((x0.length : Int) - a0)) (a3 : 0 ≤ a0), law06_large_L1 x0 K0 m a0 = res → RC Try.prog (.loop ac13_L1) S (QR Try.prog [(2, none)] (RF13 res)) [(3, vi a0), (0, v0)] ⟨0, []⟩ := by
  have a1 := a4
  try simp only [qa, qaD] at a1
  intro m
  induction m with
  | zero =>
    intro a0 a6 a3 hres
    rw [law06_large_L1] at hres
    refine rc_loop ?_
    refine rc_seq ?_
    refine sR ?_
    refine mV rfl ?_
    refine mV rfl ?_
    refine rd_op (ov_bi rfl (sl_len r0 Try.underlying22 _)) ?_
    refine bN i_lss rfl rfl ?_
    refine nS ?_
    refine rc_cond rfl ?_ ?_ <;> intro c <;> try simp only [qa, qaD] at c
    · omega
    refine rc_exit ?_
    refine px_seq ?_
    refine px_again ?_
    exact wP (a7  hres) rfl
  | succ m ih =>
    intro a0 a6 a3 hres
    rw [law06_large_L1] at hres
    refine rc_loop ?_
    refine rc_seq ?_
    refine sR ?_
    refine mV rfl ?_
    refine mV rfl ?_
    refine rd_op (ov_bi rfl (sl_len r0 Try.underlying22 _)) ?_
    refine bN i_lss rfl rfl ?_
    refine nS ?_
    refine rc_cond rfl ?_ ?_ <;> intro c <;> try simp only [qa, qaD] at c
    rotate_left
    · omega
    refine rc_skip ?_
    refine pn_seq ?_
    refine rc_seq ?_
    refine rc_block ?_
    refine sR ?_
    refine mV rfl ?_
    refine mV rfl ?_
    obtain ⟨a8, a5, a2⟩ := sl_idx (i := a0) r0 (by omega) (by omega)
    refine rd_op (ov_iaddr rfl rfl a5) ?_
    refine lD a2 rfl rfl rfl ?_
    refine rd_op (ov_bi rfl (sl_len a2 Try.underlying31 _)) ?_
    refine bN i_gtr rfl rfl ?_
    refine nS ?_
    refine rc_br hres rfl ?_ ?_ <;> clear hres <;> intro c hres <;> try simp only [qa, qaD] at c
    · refine sR ?_
      refine mB rfl ?_
      refine nS ?_
      exact rR hres rfl rfl rfl
    · refine rc_skip ?_
      refine pn_blk ?_
      refine pn_seq ?_
      refine rc_region ?_
      refine mV rfl ?_
      refine bN i_add rfl rfl ?_
      refine mV rfl ?_
      refine rd_nil ?_
      refine pn_again ?_
      have hbd := sl_bound r0
      have hinc : wr (a0 + 1) = a0 + 1 := wr_of (by omega) (by omega)
      erw [hinc]
      exact wC (ih   (by omega) (by omega) hres) rfl

theorem f13_ok {x0 : List (List Int)} {v0 : PV} (r0 : (tSl (tSl tI)).R x0 v0) : FnR Try.prog 13 [v0] (vb (law06_large x0)) := by
  refine fnS (R := RF13) text13 (fun _ h => h) rfl fun res hres => ?_
  unfold law06_large at hres
  refine sR ?_
  refine mB rfl ?_
  refine nS ?_
  refine rc_seq ?_
  refine sR ?_
  refine mV rfl ?_
  refine rd_op (ov_bi rfl (sl_len r0 Try.underlying22 _)) ?_
  refine bN i_gtr rfl rfl ?_
  refine nS ?_
  refine rc_br hres rfl ?_ ?_ <;> clear hres <;> intro a0 hres <;> have a1 := a0 <;> try simp only [qa, qaD] at a1
  · refine sR ?_
    refine mB rfl ?_
    refine nS ?_
    exact rR hres rfl rfl rfl
  · refine rc_skip ?_
    refine pn_seq ?_
    refine rc_seq ?_
    refine sR ?_
    refine mI rfl ?_
    refine nS ?_
    refine rc_block ?_
    refine wC (law06_large_L1_ok r0 a0 ?_  rfl (by omega) hres) rfl
    · intro  hres
      refine px_blk ?_
      refine pn_seq ?_
      refine sR ?_
      refine mB rfl ?_
      refine nS ?_
      exact rR hres rfl rfl rfl

def RF33 (res : Bool) (r : PV) : Prop := r = vb res
theorem f33_ok {x0 : List (List Int)} {x1 : Int} {v0 : PV} (r0 : (tSl (tSl tI)).R x0 v0) : FnR Try.prog 33 [v0, vi x1] (vb (digraph_node x0 x1)) := by
  refine fnS (R := RF33) text33 (fun _ h => h) rfl fun res hres => ?_
  unfold digraph_node at hres
  refine sR ?_
  refine mB rfl ?_
  refine nR ?_
  refine mV rfl ?_
  refine bN i_geq rfl rfl ?_
  refine mV rfl ?_
  refine rd_cutn 5 (d := 12) (v := vb ((decide (0 ≤ x1)) && (decide (x1 < (x0.length : Int))))) ?_ ?_
  · intro S Q r
    cases a1 : (decide (0 ≤ x1))
    · exact gN 4 rfl rfl rfl rfl rfl rfl
    · intro k
      have a0 := a1
      try simp only [qa, qaD] at a0
      refine rd_yes rfl rfl (ov_move rfl) ?_
      refine rd_yes rfl rfl (ov_move rfl) ?_
      refine rd_yes rfl rfl (ov_bi rfl (sl_len r0 Try.underlying22 _)) ?_
      refine rd_yes rfl rfl (ov_bin rfl rfl i_lss) ?_
      exact gK rfl rfl rfl rfl rfl k
  refine mV rfl ?_
  refine nS ?_
  exact rR hres rfl rfl rfl

def RF44 (a0 : PV) (R_ : List Ent) (res : List Int) (r : PV) (h : Heap) : Prop := ∃ es : List PV, Mem h (⟨a0, 3, 1, es⟩ :: R_) ∧ All2 tI.R res es ∧ res.length ≤ 4611686018427387904 ∧ Wri a0 es ∧ r = .tup []
theorem f44_ok {x0 : List Int} {a0 : PV} {a1 : List PV} {R_ : List Ent} {h_ : Heap} (q : All2 tI.R x0 a1) (ne : isL a0 = true) (hl : x0.length ≤ 4611686018427387904) (wi : Wri a0 a1) (M : Mem h_ (⟨a0, 3, 1, a1⟩ :: R_)) (hb : x0.length ≤ 1000000) : ∃ r a2, FnX Try.prog 44 [a0] h_ r a2 ∧ RF44 a0 R_ (slices_Sort__int_int_ x0) r a2 := by
  obtain ⟨r, h2, X, es', M2, q2, w2, hr⟩ := sort_int_X text44.enters Go.Proofs.Try.sortI_calls Go.Proofs.Try.sortI_none q ne hb wi M
  exact ⟨r, h2, X, es', M2, q2, by rw [slices_Sort__int_int_, List.length_mergeSort]; exact hl, w2, hr⟩

theorem f45_ok {x0 : List Int} {a0 : PV} {a1 : List PV} {R_ : List Ent} {h_ : Heap} (q : All2 tI.R x0 a1) (ne : isL a0 = true) (hl : x0.length ≤ 4611686018427387904) (wi : Wri a0 a1) (M : Mem h_ (⟨a0, 3, 1, a1⟩ :: R_)) : ∃ r a2, FnX Try.prog 45 [a0] h_ r a2 ∧ RF45 R_ (slices_Compact__int_int_ x0) r a2 := f45_cpt q ne hl wi M

def RF37 (res : (List (List Int))) (r : PV) : Prop := (tSl (tSl tI)).R res r
theorem digraph_clean_L2_ok {S : List Fr} {res : (List (List Int))} {x0 : List (List Int)} {a1 : Int} {b3 : List (List Int)} {v0 e1 : PV} {a9 a8 : Nat} (r0 : (tSl (tSl tI)).R x0 v0) (hs : Sm x0) (hn : x0.length ≤ 24) (f6 : (List.replicate x0.length ([] : List Int)).length = x0.length) (f5 : (List.replicate x0.length ([] : List Int)).length ≤ 4611686018427387904) (f1 : b3.length = x0.length) (f4 : b3.length ≤ 4611686018427387904) (g0 : 0 ≤ a1) (f9 : LB b3 (40 * a1)) (e4 : (decide (a1 < (x0.length : Int))) = true) (c3 : (tSl tI).R (ix x0 a1) e1) {K2 : (List (List Int)) → (List (List Int))}
    (g1 : ∀ {a0 : List (List Int)} {a2 : List PV} {a3 : List Ent} (a4 : Ns tI 3 a0 a2 a3) (a7 : a0.length = x0.length) (a6 : a0.length ≤ 4611686018427387904) (g4 : LB a0 (40 * a1 + 40)) {h : Heap} (M0 : Mem h (⟨.os a9 a8 0 x0.length, 31, 1, a2⟩ :: (a3 ++ []))), K2 a0 = res → PX Try.prog 2 S (QR Try.prog [(2, none)] (RF37 res)) [(0, v0), (3, .os a9 a8 0 x0.length), (4, vi a1), (11, v0), (12, vi (x0.length : Int)), (13, vi a1)] h) :
    ∀ {m : Nat} {a5 : Int} {a0 : List (List Int)} {a2 : List PV} {a3 : List Ent} (a4 : Ns tI 3 a0 a2 a3) (a7 : a0.length = x0.length) (a6 : a0.length ≤ 4611686018427387904) (f8 : m = Int.toNat (((ix x0 a1).length : Int) - a5)) (d4 : 0 ≤ a5) (b1 : LB a0 (40 * a1 + a5)) (b8 : a5 ≤ ((ix x0 a1).length : Int)) {h : Heap} (M0 : Mem h (⟨.os a9 a8 0 x0.length, 31, 1, a2⟩ :: (a3 ++ []))), digraph_clean_L2 x0 a1 K2 m a5 a0 = res → RC Try.prog (.loop ac37_L2) S (QR Try.prog [(2, none)] (RF37 res)) [(20, vi a5), (19, vi ((ix x0 a1).length : Int)), (18, e1), (13, vi a1), (12, vi (x0.length : Int)), (11, v0), (4, vi a1), (3, .os a9 a8 0 x0.length), (0, v0)] h := by
  have c2 := e4
  try simp only [qa, qaD] at c2
  intro m
  induction m with
  | zero =>
    intro a5 a0 a2 a3 a4 a7 a6 f8 d4 b1 b8 h M0 hres
    rw [digraph_clean_L2] at hres
    refine rc_loop ?_
    refine sR ?_
    refine bN i_lss rfl rfl ?_
    refine nS ?_
    refine rc_seq ?_
    refine rc_cond rfl ?_ ?_ <;> intro c <;> try simp only [qa, qaD] at c
    · omega
    refine rc_exit ?_
    refine px_seq ?_
    refine px_again ?_
    exact wP (g1 a4 a7 a6 (by (have hr := hs.r a1 (by omega) (by omega); exact LB.mono (by assumption) (by omega))) (Mem.sub M0 (.cons_cons _ (List.Sublist.append_left (List.Sublist.refl _) _))) hres) rfl
  | succ m ih =>
    intro a5 a0 a2 a3 a4 a7 a6 f8 d4 b1 b8 h M0 hres
    rw [digraph_clean_L2] at hres
    refine rc_loop ?_
    refine sR ?_
    refine bN i_lss rfl rfl ?_
    refine nS ?_
    refine rc_seq ?_
    refine rc_cond rfl ?_ ?_ <;> intro c <;> try simp only [qa, qaD] at c
    rotate_left
    · omega
    refine rc_skip ?_
    refine pn_seq ?_
    refine rc_seq ?_
    refine rc_block ?_
    refine sR ?_
    refine rd_op (ov_iaddr rfl rfl (slI c3 (by omega) (by omega))) ?_
    refine lR rfl rfl rfl ?_
    refine mV rfl ?_
    refine nR ?_
    refine mV rfl ?_
    refine mV rfl ?_
    obtain ⟨g3, d3, hres⟩ := let_ex hres
    have d7 := f33_ok (x1 := (ix (ix x0 a1) a5)) r0 
    rw [d3] at d7
    refine cL d7 rfl rfl (clL_cons (TR.clo (tSl (tSl tI)) r0) (clL_cons rfl clL_nil)) ?_
    refine nS ?_
    refine rc_br hres rfl ?_ ?_ <;> clear hres <;> intro c hres <;> try simp only [qa, qaD] at c
    · refine rc_region ?_
      refine mV rfl ?_
      refine mV rfl ?_
      refine mV rfl ?_
      refine mV rfl ?_
      have b4 : 0 ≤ a1 := (by omega)
      have c7 : a1 < (a0.length : Int) := (by omega)
      refine rd_op (ov_iaddr rfl rfl (n_idx 1 b4 (by omega))) ?_
      obtain ⟨f0, b0, e8, d6, d0, d9, f7, d1⟩ := ns_at (i := a1) a4 b4 c7
      have b5 : Mem h (⟨f0, 3, 1, b0⟩ :: ⟨.os a9 a8 0 x0.length, 31, 1, a2⟩ :: ((a3.eraseIdx (a1).toNat) ++ [])) := ns_focus (C := [⟨.os a9 a8 0 x0.length, 31, 1, a2⟩]) M0 d6
      refine rd_op (ov_elem (k := 1) b5 rfl rfl e8 (mem_one (k := 0) b5 rfl d9).2) ?_
      refine mV rfl ?_
      refine rd_op (v := .fs true [vi (ix (ix x0 a1) a5)]) (ov_bslice rfl (all_cons rfl all_nil)) ?_
      have f3 : (tSl tI).R ([(ix (ix x0 a1) a5)] : List Int) (.fs true [vi (ix (ix x0 a1) a5)]) := sl_fs ⟨rfl, trivial⟩ (by simp)
      obtain ⟨b2, e6, b9⟩ := src_of (t := tI) (h := h) f3
      have d5 : fits (b0.length + b2.length) 8 = true := by rw [All2.length_eq d0, All2.length_eq b9]; (try simp only [List.length_cons, List.length_nil]); exact fits_of (by first | omega | (have hk := b1 a1 (by omega) (by omega); have hr := hs.r a1 (by omega) (by omega); first | omega | (simp only [List.length_cons, List.length_nil]; omega))) (by first | omega | (have hk := b1 a1 (by omega) (by omega); have hr := hs.r a1 (by omega) (by omega); first | omega | (simp only [List.length_cons, List.length_nil]; omega)))
      refine rd_appW (k := 0) (es := b0) (news := b2) b5 rfl rfl rfl d9 d1 e6 d5 (fun b7 g2 e0 e7 e3 => ?_)
      have d8 : All2 tI.R ((ix a0 a1) ++ ([(ix (ix x0 a1) a5)] : List Int)) (b0 ++ b2) := All2.app d0 b9
      have e5 : ((ix a0 a1) ++ ([(ix (ix x0 a1) a5)] : List Int)).length ≤ 4611686018427387904 := by rw [← All2.length_eq d8, List.length_append]; exact fits_len d5
      have c6 : 0 ≤ a1 := (by omega)
      have e9 : a1 < (a0.length : Int) := (by omega)
      refine rd_op (ov_iaddr rfl rfl (n_idx 1 c6 (by omega))) ?_
      refine rd_setO (k := 1) (v := b7) e3 rfl rfl rfl (by rw [(Ns.len a4).1]; omega) (mem_cnt1 (k := 0) e3 rfl e0) (fun d2 c5 => ?_)
      replace c5 : Mem d2 (⟨b7, 3, 1, (b0 ++ b2)⟩ :: ⟨.os a9 a8 0 x0.length, 31, 1, (a2.set (a1).toNat b7)⟩ :: ((a3.eraseIdx (a1).toNat) ++ [])) := c5
      obtain ⟨b6, c4, f2, c9⟩ : ∃ b6 c4, Ns tI 3 (a0.set (a1).toNat ((ix a0 a1) ++ ([(ix (ix x0 a1) a5)] : List Int))) b6 c4 ∧ Mem d2 (⟨.os a9 a8 0 x0.length, 31, 1, b6⟩ :: (c4 ++ [])) := ⟨_, _, ns_put a4  d8 e0 e5 e7, ns_back (C := [⟨.os a9 a8 0 x0.length, 31, 1, (a2.set (a1).toNat b7)⟩]) c5 (by rw [(Ns.len a4).2]; omega)⟩
      have e2 : (a0.set (a1).toNat ((ix a0 a1) ++ ([(ix (ix x0 a1) a5)] : List Int))).length = x0.length := by rw [List.length_set]; exact a7
      have c8 : (a0.set (a1).toNat ((ix a0 a1) ++ ([(ix (ix x0 a1) a5)] : List Int))).length ≤ 4611686018427387904 := by rw [List.length_set]; exact a6
      refine rd_nil ?_
      refine pn_blk ?_
      refine pn_seq ?_
      refine rc_region ?_
      refine bN i_add rfl rfl ?_
      refine mV rfl ?_
      refine rd_nil ?_
      refine pn_again ?_
      have hbd := sl_bound c3
      have hinc : wr (a5 + 1) = a5 + 1 := wr_of (by omega) (by omega)
      erw [hinc]
      exact wC (ih  f2 e2 c8 (by omega) (by omega) (by first | omega | exact LB.mono (by assumption) (by omega) | exact LB.mono (LB.app (by assumption) (by omega) (by omega)) (by omega)) (by first | omega | exact LB.mono (by assumption) (by omega) | exact LB.mono (LB.app (by assumption) (by omega) (by omega)) (by omega)) (Mem.sub c9 (.cons_cons _ (List.Sublist.append_left (List.Sublist.refl _) _))) hres) rfl
    · refine rc_skip ?_
      refine pn_blk ?_
      refine pn_seq ?_
      refine rc_region ?_
      refine bN i_add rfl rfl ?_
      refine mV rfl ?_
      refine rd_nil ?_
      refine pn_again ?_
      have hbd := sl_bound c3
      have hinc : wr (a5 + 1) = a5 + 1 := wr_of (by omega) (by omega)
      erw [hinc]
      exact wC (ih  a4 a7 a6 (by omega) (by omega) (by first | omega | exact LB.mono (by assumption) (by omega) | exact LB.mono (LB.app (by assumption) (by omega) (by omega)) (by omega)) (by first | omega | exact LB.mono (by assumption) (by omega) | exact LB.mono (LB.app (by assumption) (by omega) (by omega)) (by omega)) (Mem.sub M0 (.cons_cons _ (List.Sublist.append_left (List.Sublist.refl _) _))) hres) rfl

theorem digraph_clean_L1_ok {S : List Fr} {res : (List (List Int))} {x0 : List (List Int)} {v0 : PV} {a6 a5 : Nat} (r0 : (tSl (tSl tI)).R x0 v0) (hs : Sm x0) (hn : x0.length ≤ 24) (h1 : (List.replicate x0.length ([] : List Int)).length = x0.length) (g0 : (List.replicate x0.length ([] : List Int)).length ≤ 4611686018427387904) {K0 : (List (List Int)) → (List (List Int))}
    (j7 : ∀ {a2 : List (List Int)} {a4 : List PV} {b2 : List Ent} (b5 : Ns tI 3 a2 a4 b2) (a7 : a2.length = x0.length) (a8 : a2.length ≤ 4611686018427387904) {h : Heap} (M0 : Mem h (⟨.os a6 a5 0 x0.length, 31, 1, a4⟩ :: (b2 ++ []))), K0 a2 = res → PX Try.prog 0 S (QR Try.prog [(2, none)] (RF37 res)) [(3, .os a6 a5 0 x0.length)] h) :
    ∀ {m : Nat} {a1 : Int} {a2 : List (List Int)} {a4 : List PV} {b2 : List Ent} (b5 : Ns tI 3 a2 a4 b2) (a7 : a2.length = x0.length) (a8 : a2.length ≤ 4611686018427387904) (j3 : m = Int.toNat ((x0.length : Int) - a1)) (e7 : 0 ≤ a1) (c9 : LB a2 (40 * a1)) {h : Heap} (M0 : Mem h (⟨.os a6 a5 0 x0.length, 31, 1, a4⟩ :: (b2 ++ []))), digraph_clean_L1 x0 K0 m a1 a2 = res → RC Try.prog (.loop ac37_L1) S (QR Try.prog [(2, none)] (RF37 res)) [(13, vi a1), (12, vi (x0.length : Int)), (11, v0), (3, .os a6 a5 0 x0.length), (0, v0)] h := by
  intro m
  induction m with
  | zero =>
    intro a1 a2 a4 b2 b5 a7 a8 j3 e7 c9 h M0 hres
    rw [digraph_clean_L1] at hres
    refine rc_loop ?_
    refine sR ?_
    refine bN i_lss rfl rfl ?_
    refine nS ?_
    refine rc_seq ?_
    refine rc_cond rfl ?_ ?_ <;> intro c <;> try simp only [qa, qaD] at c
    · omega
    refine rc_exit ?_
    refine px_seq ?_
    refine px_again ?_
    exact wP (j7 b5 a7 a8 (Mem.sub M0 (.cons_cons _ (List.Sublist.append_left (List.Sublist.refl _) _))) hres) rfl
  | succ m ih =>
    intro a1 a2 a4 b2 b5 a7 a8 j3 e7 c9 h M0 hres
    rw [digraph_clean_L1] at hres
    refine rc_loop ?_
    refine sR ?_
    refine bN i_lss rfl rfl ?_
    refine nS ?_
    refine rc_seq ?_
    refine rc_cond rfl (fun b7 => ?_) (fun b7 => ?_)
    · have hgo := hres
      have f0 := b7
      try simp only [qa, qaD] at f0
      refine rc_skip ?_
      refine pn_seq ?_
      refine rc_seq ?_
      refine rc_block ?_
      refine sR ?_
      refine mV rfl ?_
      obtain ⟨j8, i7, f3⟩ := sl_idx (i := a1) r0 (by omega) (by omega)
      refine rd_op (ov_iaddr rfl rfl i7) ?_
      refine lD f3 rfl rfl rfl ?_
      refine mV rfl ?_
      refine mV rfl ?_
      refine nS ?_
      refine rc_seq ?_
      refine sR ?_
      refine mV rfl ?_
      refine rd_op (ov_bi rfl (sl_len f3 Try.underlying31 _)) ?_
      refine mI rfl ?_
      refine nS ?_
      refine rc_block ?_
      refine wC (digraph_clean_L2_ok r0 hs hn h1 g0 a7 a8 e7 c9 b7 f3 ?_  b5 a7 a8 rfl (by omega) (by first | omega | exact LB.mono (by assumption) (by omega)) (by first | omega | exact LB.mono (by assumption) (by omega)) (Mem.sub M0 (.cons_cons _ (List.Sublist.append_left (List.Sublist.refl _) _))) hres) rfl
      · intro a0 a3 b6 b1 c3 c2 b4 f8 j0 hres
        refine px_blk ?_
        refine pn_seq ?_
        refine rc_seq ?_
        refine rc_regionS ?_
        refine rs_step ?_
        refine mV rfl ?_
        refine rs_back ?_
        refine rs_step ?_
        refine mV rfl ?_
        refine rs_back ?_
        refine rs_step ?_
        have c4 : 0 ≤ a1 := (by omega)
        have f4 : a1 < (a0.length : Int) := (by omega)
        refine rd_op (ov_iaddr rfl rfl (n_idx 1 c4 (by omega))) ?_
        refine rs_back ?_
        refine rs_step ?_
        obtain ⟨h6, e0, e6, h5, i3, f6, h7, i0⟩ := ns_at (i := a1) b1 c4 f4
        have c6 : Mem f8 (⟨h6, 3, 1, e0⟩ :: ⟨.os a6 a5 0 x0.length, 31, 1, a3⟩ :: ((b6.eraseIdx (a1).toNat) ++ [])) := ns_focus (C := [⟨.os a6 a5 0 x0.length, 31, 1, a3⟩]) j0 h5
        refine rd_op (ov_elem (k := 1) c6 rfl rfl e6 (mem_one (k := 0) c6 rfl f6).2) ?_
        refine rs_back ?_
        have i6 : Mem f8 (⟨h6, 3, 1, e0⟩ :: ⟨.os a6 a5 0 x0.length, 31, 1, a3⟩ :: ((b6.eraseIdx (a1).toNat) ++ [])) := (Mem.front (k := 0) c6 rfl)
        obtain ⟨b3, e1, hres⟩ := let_ex hres
        obtain ⟨j5, e9, g6, e3⟩ := f44_ok (x0 := (ix a0 a1)) i3 f6 h7 i0 i6 (by (have hk := b4 a1 (by omega) (by omega); omega))
        rw [e1] at e3
        obtain ⟨g4, j1, d3, d2, c5, d0⟩ := e3
        replace d0 := d0.symm; subst d0
        refine rs_callXc rfl rfl g6 ?_
        have j2 := so_use e1
        obtain ⟨a9, b9, d5, g7⟩ : ∃ a9 b9, Ns tI 3 (a0.set (a1).toNat b3) a9 b9 ∧ Mem e9 (⟨.os a6 a5 0 x0.length, 31, 1, a9⟩ :: (b9 ++ [])) := ⟨_, _, ns_put0 b1 e6  d3 f6 d2 c5, ns_back (C := [⟨.os a6 a5 0 x0.length, 31, 1, a3⟩]) j1 (by rw [(Ns.len b1).2]; omega)⟩
        have h8 : (a0.set (a1).toNat b3).length = x0.length := by rw [List.length_set]; exact c3
        have h0 : (a0.set (a1).toNat b3).length ≤ 4611686018427387904 := by rw [List.length_set]; exact c2
        refine rs_nil ?_
        refine pn_seq ?_
        refine rc_regionS ?_
        refine rs_step ?_
        refine mV rfl ?_
        refine rs_back ?_
        refine rs_step ?_
        refine mV rfl ?_
        refine rs_back ?_
        refine rs_step ?_
        refine mV rfl ?_
        refine rs_back ?_
        refine rs_step ?_
        refine mV rfl ?_
        refine rs_back ?_
        refine rs_step ?_
        have c8 : 0 ≤ a1 := (by omega)
        have f5 : a1 < ((a0.set (a1).toNat b3).length : Int) := (by omega)
        refine rd_op (ov_iaddr rfl rfl (n_idx 1 c8 (by omega))) ?_
        refine rs_back ?_
        refine rs_step ?_
        obtain ⟨g2, e5, g9, g3, i4, i1, h2, i2⟩ := ns_at (i := a1) d5 c8 f5
        have d4 : Mem e9 (⟨g2, 3, 1, e5⟩ :: ⟨.os a6 a5 0 x0.length, 31, 1, a9⟩ :: ((b9.eraseIdx (a1).toNat) ++ [])) := ns_focus (C := [⟨.os a6 a5 0 x0.length, 31, 1, a9⟩]) g7 g3
        refine rd_op (ov_elem (k := 1) d4 rfl rfl g9 (mem_one (k := 0) d4 rfl i1).2) ?_
        refine rs_back ?_
        have i5 : Mem e9 (⟨g2, 3, 1, e5⟩ :: ⟨.os a6 a5 0 x0.length, 31, 1, a9⟩ :: ((b9.eraseIdx (a1).toNat) ++ [])) := (Mem.front (k := 0) d4 rfl)
        obtain ⟨f1, e2, hres⟩ := let_ex hres
        obtain ⟨j4, j6, h3, e4⟩ := f45_ok (x0 := (ix (a0.set (a1).toNat b3) a1)) i4 i1 h2 i2 i5 
        rw [e2] at e4
        obtain ⟨b0, d9, g5, d8, b8, d6, d7, d1⟩ := e4
        replace d1 := d1.symm; subst d1
        refine rs_callXc rfl rfl h3 ?_
        have g1 := co_use e2
        refine rs_step ?_
        have f7 : 0 ≤ a1 := (by omega)
        have i9 : a1 < ((a0.set (a1).toNat b3).length : Int) := (by omega)
        refine rd_op (ov_iaddr rfl rfl (n_idx 1 f7 (by omega))) ?_
        refine rs_back ?_
        refine rs_step ?_
        refine rd_setO (k := 1) (v := b0) g5 rfl rfl rfl (by rw [(Ns.len d5).1]; omega) (mem_cnt1 (k := 0) g5 rfl b8) (fun g8 e8 => ?_)
        replace e8 : Mem g8 (⟨b0, 3, 1, d9⟩ :: ⟨.os a6 a5 0 x0.length, 31, 1, (a9.set (a1).toNat b0)⟩ :: ((b9.eraseIdx (a1).toNat) ++ [])) := e8
        obtain ⟨c7, f2, i8, h4⟩ : ∃ c7 f2, Ns tI 3 ((a0.set (a1).toNat b3).set (a1).toNat f1) c7 f2 ∧ Mem g8 (⟨.os a6 a5 0 x0.length, 31, 1, c7⟩ :: (f2 ++ [])) := ⟨_, _, ns_put d5  d8 b8 d6 d7, ns_back (C := [⟨.os a6 a5 0 x0.length, 31, 1, (a9.set (a1).toNat b0)⟩]) e8 (by rw [(Ns.len d5).2]; omega)⟩
        have h9 : ((a0.set (a1).toNat b3).set (a1).toNat f1).length = x0.length := by rw [List.length_set]; exact h8
        have f9 : ((a0.set (a1).toNat b3).set (a1).toNat f1).length ≤ 4611686018427387904 := by rw [List.length_set]; exact h0
        refine rs_back ?_
        refine rs_nil ?_
        refine pn_blk ?_
        refine pn_seq ?_
        refine rc_region ?_
        refine bN i_add rfl rfl ?_
        refine mV rfl ?_
        refine rd_nil ?_
        refine pn_again ?_
        have hbd := sl_bound r0
        have hinc : wr (a1 + 1) = a1 + 1 := wr_of (by omega) (by omega)
        erw [hinc]
        exact wC (ih  i8 h9 f9 (by omega) (by omega) (by (have hk := b4 a1 (by omega) (by omega); exact LB.mono (LB.set (LB.set b4 (by omega) (by omega)) (by omega) (by rw [ix_set (by omega) (by omega) (by omega), if_pos rfl] at g1; omega)) (by omega))) (Mem.sub h4 (.cons_cons _ (List.Sublist.append_left (List.Sublist.refl _) _))) hres) rfl
    · exfalso
      try simp only [qa, qaD] at b7
      omega

theorem f37_ok {x0 : List (List Int)} {v0 : PV} (r0 : (tSl (tSl tI)).R x0 v0) (hs : Sm x0) : ∃ r, FnR Try.prog 37 [v0] r ∧ (tSl (tSl tI)).R (digraph_clean x0) r := by
  refine fnT (R := RF37) text37 rfl fun res hres => ?_
  unfold digraph_clean at hres
  have hn : x0.length ≤ 24 := hs.n
  refine sR ?_
  refine rd_op (v := nilS) (ov_move rfl) ?_
  refine nR ?_
  refine mV rfl ?_
  refine rd_op (ov_bi rfl (sl_len r0 Try.underlying22 _)) ?_
  have b1 : fits (x0.length) 24 = true := fits_of (by first | omega | (have hk := iv2_0 x13_ (by omega) (by omega); have hr := hs.r x13_ (by omega) (by omega); first | omega | (simp only [List.length_cons, List.length_nil]; omega))) (by first | omega | (have hk := iv2_0 x13_ (by omega) (by omega); have hr := hs.r x13_ (by omega) (by omega); first | omega | (simp only [List.length_cons, List.length_nil]; omega)))
  refine rd_makeO (sz := 1) (ty := 31) (n := x0.length) (zz := nilS) (Mem.nil ⟨0, []⟩) rfl rfl rfl rfl rfl b1 (fun a7 a6 b5 b4 => ?_)
  have c2 : All2 (tSl tI).R (List.replicate x0.length ([] : List Int)) (List.replicate x0.length nilS) := All2.rep (show (tSl tI).R ([] : List Int) nilS from sl_nil) _
  have a3 : (List.replicate x0.length ([] : List Int)).length = x0.length := List.length_replicate
  have a4 : (List.replicate x0.length ([] : List Int)).length ≤ 4611686018427387904 := by rw [a3]; exact fits_len b1
  obtain ⟨a5, b7, b2⟩ : ∃ a5, Ns tI 3 (List.replicate x0.length ([] : List Int)) (List.replicate x0.length nilS) a5 ∧ Mem b5 (⟨.os a7 a6 0 x0.length, 31, 1, (List.replicate x0.length nilS)⟩ :: (a5 ++ [])) := ⟨_, ns_rep _, ns_new (C := [⟨.os a7 a6 0 x0.length, 31, 1, (List.replicate x0.length nilS)⟩]) b4 3 1 _⟩
  refine mV rfl ?_
  refine nS ?_
  refine rc_seq ?_
  refine sR ?_
  refine mV rfl ?_
  refine rd_op (ov_bi rfl (sl_len r0 Try.underlying22 _)) ?_
  refine mI rfl ?_
  refine nS ?_
  refine rc_block ?_
  refine wC (digraph_clean_L1_ok r0 hs hn a3 a4 ?_  b7 a3 a4 rfl (by omega) (by exact lb_rep (by omega)) (Mem.sub b2 (.cons_cons _ (List.Sublist.append_left (List.Sublist.refl _) _))) hres) rfl
  · intro a9 a1 b0 a2 a8 a0 b9 b8 hres
    refine px_blk ?_
    refine pn_seq ?_
    refine sR ?_
    refine mV rfl ?_
    refine mV rfl ?_
    refine nS ?_
    obtain ⟨c3, b3, b6⟩ := ns_deep (P := Try.prog) (k := 0) (C := [⟨.os a7 a6 0 x0.length, 31, 1, a1⟩]) b8 rfl rfl a2 (Nat.le_trans a0 (by decide))
    subst hres
    exact rc_retV (.tmp rfl .nil) b3 b6

def RF29 (res : (List (List Int))) (r : PV) : Prop := (tSl (tSl tI)).R res r
theorem digraph_Reverse_L2_ok {S : List Fr} {res : (List (List Int))} {x0 : List (List Int)} {a4 : (List (List Int))} {a1 : Int} {b5 : List (List Int)} {e7 d9 : PV} {b1 b0 : Nat} (hs : Sm x0) (hn : x0.length ≤ 24) (f9 : (List.replicate x0.length ([] : List Int)).length = x0.length) (f6 : (List.replicate x0.length ([] : List Int)).length ≤ 4611686018427387904) (f7 : digraph_clean x0 = a4) (a9 : Gd x0.length a4) (f8 : a4.length = x0.length) (f2 : b5.length = x0.length) (f5 : b5.length ≤ 4611686018427387904) (g3 : 0 ≤ a1) (g2 : LB b5 (40 * a1)) (d0 : (decide (a1 < (a4.length : Int))) = true) (d6 : (tSl tI).R (ix a4 a1) d9) {K2 : (List (List Int)) → (List (List Int))}
    (g4 : ∀ {a0 : List (List Int)} {a3 : List PV} {a5 : List Ent} (a6 : Ns tI 3 a0 a3 a5) (a8 : a0.length = x0.length) (a7 : a0.length ≤ 4611686018427387904) (g6 : LB a0 (40 * a1 + 40)) {h : Heap} (M0 : Mem h (⟨.os b1 b0 0 x0.length, 31, 1, a3⟩ :: (a5 ++ []))), K2 a0 = res → PX Try.prog 2 S (QR Try.prog [(2, none)] (RF29 res)) [(3, .os b1 b0 0 x0.length), (12, e7), (13, vi (a4.length : Int)), (14, vi a1)] h) :
    ∀ {m : Nat} {a2 : Int} {a0 : List (List Int)} {a3 : List PV} {a5 : List Ent} (a6 : Ns tI 3 a0 a3 a5) (a8 : a0.length = x0.length) (a7 : a0.length ≤ 4611686018427387904) (g1 : m = Int.toNat (((ix a4 a1).length : Int) - a2)) (d5 : 0 ≤ a2) (b3 : LB a0 (40 * a1 + a2)) (c2 : a2 ≤ ((ix a4 a1).length : Int)) {h : Heap} (M0 : Mem h (⟨.os b1 b0 0 x0.length, 31, 1, a3⟩ :: (a5 ++ []))), digraph_Reverse_L2 a4 a1 K2 m a2 a0 = res → RC Try.prog (.loop ac29_L2) S (QR Try.prog [(2, none)] (RF29 res)) [(21, vi a2), (20, vi ((ix a4 a1).length : Int)), (19, d9), (14, vi a1), (13, vi (a4.length : Int)), (12, e7), (4, vi a1), (3, .os b1 b0 0 x0.length)] h := by
  have c4 := d0
  try simp only [qa, qaD] at c4
  intro m
  induction m with
  | zero =>
    intro a2 a0 a3 a5 a6 a8 a7 g1 d5 b3 c2 h M0 hres
    rw [digraph_Reverse_L2] at hres
    refine rc_loop ?_
    refine sR ?_
    refine bN i_lss rfl rfl ?_
    refine nS ?_
    refine rc_seq ?_
    refine rc_cond rfl ?_ ?_ <;> intro c <;> try simp only [qa, qaD] at c
    · omega
    refine rc_exit ?_
    refine px_seq ?_
    refine px_again ?_
    exact wP (g4 a6 a8 a7 (by (have hr := a9.r a1 (by omega) (by omega); exact LB.mono (by assumption) (by omega))) (Mem.sub M0 (.cons_cons _ (List.Sublist.append_left (List.Sublist.refl _) _))) hres) rfl
  | succ m ih =>
    intro a2 a0 a3 a5 a6 a8 a7 g1 d5 b3 c2 h M0 hres
    rw [digraph_Reverse_L2] at hres
    refine rc_loop ?_
    refine sR ?_
    refine bN i_lss rfl rfl ?_
    refine nS ?_
    refine rc_seq ?_
    refine rc_cond rfl ?_ ?_ <;> intro c <;> try simp only [qa, qaD] at c
    rotate_left
    · omega
    refine rc_skip ?_
    refine pn_seq ?_
    refine rc_seq ?_
    refine rc_block ?_
    refine sR ?_
    refine rd_op (ov_iaddr rfl rfl (slI d6 (by first | omega | (have hk := a9.at (k := a1) (i := a2) (by omega) (by omega) (by omega) (by omega); omega)) (by first | omega | (have hk := a9.at (k := a1) (i := a2) (by omega) (by omega) (by omega) (by omega); omega)))) ?_
    refine lR rfl rfl rfl ?_
    refine mV rfl ?_
    refine nS ?_
    refine rc_region ?_
    refine mV rfl ?_
    refine mV rfl ?_
    refine mV rfl ?_
    refine mV rfl ?_
    have b6 : 0 ≤ (ix (ix a4 a1) a2) := (by first | omega | (have hk := a9.at (k := a1) (i := a2) (by omega) (by omega) (by omega) (by omega); omega))
    have c8 : (ix (ix a4 a1) a2) < (a0.length : Int) := (by first | omega | (have hk := a9.at (k := a1) (i := a2) (by omega) (by omega) (by omega) (by omega); omega))
    refine rd_op (ov_iaddr rfl rfl (n_idx 1 b6 (by omega))) ?_
    obtain ⟨f1, b2, e9, d8, d2, e1, g0, d3⟩ := ns_at (i := (ix (ix a4 a1) a2)) a6 b6 c8
    have b7 : Mem h (⟨f1, 3, 1, b2⟩ :: ⟨.os b1 b0 0 x0.length, 31, 1, a3⟩ :: ((a5.eraseIdx ((ix (ix a4 a1) a2)).toNat) ++ [])) := ns_focus (C := [⟨.os b1 b0 0 x0.length, 31, 1, a3⟩]) M0 d8
    refine rd_op (ov_elem (k := 1) b7 rfl rfl e9 (mem_one (k := 0) b7 rfl e1).2) ?_
    refine mV rfl ?_
    refine rd_op (v := .fs true [vi a1]) (ov_bslice rfl (all_cons rfl all_nil)) ?_
    have f4 : (tSl tI).R ([a1] : List Int) (.fs true [vi a1]) := sl_fs ⟨rfl, trivial⟩ (by simp)
    obtain ⟨b4, e6, c3⟩ := src_of (t := tI) (h := h) f4
    have d7 : fits (b2.length + b4.length) 8 = true := by rw [All2.length_eq d2, All2.length_eq c3]; (try simp only [List.length_cons, List.length_nil]); exact fits_of (by first | omega | (have hr := a9.r a1 (by omega) (by omega); have hk := b3 (ix (ix a4 a1) a2) (by omega) (by omega); first | omega | (simp only [List.length_cons, List.length_nil]; omega))) (by first | omega | (have hr := a9.r a1 (by omega) (by omega); have hk := b3 (ix (ix a4 a1) a2) (by omega) (by omega); first | omega | (simp only [List.length_cons, List.length_nil]; omega)))
    refine rd_appW (k := 0) (es := b2) (news := b4) b7 rfl rfl rfl e1 d3 e6 d7 (fun b9 g5 e2 e8 e4 => ?_)
    have e0 : All2 tI.R ((ix a0 (ix (ix a4 a1) a2)) ++ ([a1] : List Int)) (b2 ++ b4) := All2.app d2 c3
    have e5 : ((ix a0 (ix (ix a4 a1) a2)) ++ ([a1] : List Int)).length ≤ 4611686018427387904 := by rw [← All2.length_eq e0, List.length_append]; exact fits_len d7
    have c7 : 0 ≤ (ix (ix a4 a1) a2) := (by first | omega | (have hk := a9.at (k := a1) (i := a2) (by omega) (by omega) (by omega) (by omega); omega))
    have f0 : (ix (ix a4 a1) a2) < (a0.length : Int) := (by first | omega | (have hk := a9.at (k := a1) (i := a2) (by omega) (by omega) (by omega) (by omega); omega))
    refine rd_op (ov_iaddr rfl rfl (n_idx 1 c7 (by omega))) ?_
    refine rd_setO (k := 1) (v := b9) e4 rfl rfl rfl (by rw [(Ns.len a6).1]; omega) (mem_cnt1 (k := 0) e4 rfl e2) (fun d4 c6 => ?_)
    replace c6 : Mem d4 (⟨b9, 3, 1, (b2 ++ b4)⟩ :: ⟨.os b1 b0 0 x0.length, 31, 1, (a3.set ((ix (ix a4 a1) a2)).toNat b9)⟩ :: ((a5.eraseIdx ((ix (ix a4 a1) a2)).toNat) ++ [])) := c6
    obtain ⟨b8, c5, f3, d1⟩ : ∃ b8 c5, Ns tI 3 (a0.set ((ix (ix a4 a1) a2)).toNat ((ix a0 (ix (ix a4 a1) a2)) ++ ([a1] : List Int))) b8 c5 ∧ Mem d4 (⟨.os b1 b0 0 x0.length, 31, 1, b8⟩ :: (c5 ++ [])) := ⟨_, _, ns_put a6  e0 e2 e5 e8, ns_back (C := [⟨.os b1 b0 0 x0.length, 31, 1, (a3.set ((ix (ix a4 a1) a2)).toNat b9)⟩]) c6 (by rw [(Ns.len a6).2]; omega)⟩
    have e3 : (a0.set ((ix (ix a4 a1) a2)).toNat ((ix a0 (ix (ix a4 a1) a2)) ++ ([a1] : List Int))).length = x0.length := by rw [List.length_set]; exact a8
    have c9 : (a0.set ((ix (ix a4 a1) a2)).toNat ((ix a0 (ix (ix a4 a1) a2)) ++ ([a1] : List Int))).length ≤ 4611686018427387904 := by rw [List.length_set]; exact a7
    refine rd_nil ?_
    refine pn_blk ?_
    refine pn_seq ?_
    refine rc_region ?_
    refine bN i_add rfl rfl ?_
    refine mV rfl ?_
    refine rd_nil ?_
    refine pn_again ?_
    have hbd := sl_bound d6
    have hinc : wr (a2 + 1) = a2 + 1 := wr_of (by omega) (by omega)
    erw [hinc]
    exact wC (ih  f3 e3 c9 (by omega) (by omega) (by first | omega | (have hk := a9.at (k := a1) (i := a2) (by omega) (by omega) (by omega) (by omega); exact LB.mono (LB.app (by assumption) (by omega) (by omega)) (by omega))) (by first | omega | (have hk := a9.at (k := a1) (i := a2) (by omega) (by omega) (by omega) (by omega); exact LB.mono (LB.app (by assumption) (by omega) (by omega)) (by omega))) (Mem.sub d1 (.cons_cons _ (List.Sublist.append_left (List.Sublist.refl _) _))) hres) rfl

theorem digraph_Reverse_L1_ok {S : List Fr} {res : (List (List Int))} {x0 : List (List Int)} {a7 : (List (List Int))} {c5 : PV} {b5 b4 : Nat} (hs : Sm x0) (hn : x0.length ≤ 24) (c8 : (List.replicate x0.length ([] : List Int)).length = x0.length) (c4 : (List.replicate x0.length ([] : List Int)).length ≤ 4611686018427387904) (c9 : digraph_clean x0 = a7) (c3 : (tSl (tSl tI)).R a7 c5) (b3 : Gd x0.length a7) (c7 : a7.length = x0.length) {K0 : (List (List Int)) → (List (List Int))}
    (d6 : ∀ {a0 : List (List Int)} {a1 : List PV} {a5 : List Ent} (a6 : Ns tI 3 a0 a1 a5) (a3 : a0.length = x0.length) (a2 : a0.length ≤ 4611686018427387904) {h : Heap} (M0 : Mem h (⟨.os b5 b4 0 x0.length, 31, 1, a1⟩ :: (a5 ++ []))), K0 a0 = res → PX Try.prog 0 S (QR Try.prog [(2, none)] (RF29 res)) [(3, .os b5 b4 0 x0.length)] h) :
    ∀ {m : Nat} {a4 : Int} {a0 : List (List Int)} {a1 : List PV} {a5 : List Ent} (a6 : Ns tI 3 a0 a1 a5) (a3 : a0.length = x0.length) (a2 : a0.length ≤ 4611686018427387904) (d3 : m = Int.toNat ((a7.length : Int) - a4)) (b8 : 0 ≤ a4) (b2 : LB a0 (40 * a4)) {h : Heap} (M0 : Mem h (⟨.os b5 b4 0 x0.length, 31, 1, a1⟩ :: (a5 ++ []))), digraph_Reverse_L1 a7 K0 m a4 a0 = res → RC Try.prog (.loop ac29_L1) S (QR Try.prog [(2, none)] (RF29 res)) [(14, vi a4), (13, vi (a7.length : Int)), (12, c5), (3, .os b5 b4 0 x0.length)] h := by
  intro m
  induction m with
  | zero =>
    intro a4 a0 a1 a5 a6 a3 a2 d3 b8 b2 h M0 hres
    rw [digraph_Reverse_L1] at hres
    refine rc_loop ?_
    refine sR ?_
    refine bN i_lss rfl rfl ?_
    refine nS ?_
    refine rc_seq ?_
    refine rc_cond rfl ?_ ?_ <;> intro c <;> try simp only [qa, qaD] at c
    · omega
    refine rc_exit ?_
    refine px_seq ?_
    refine px_again ?_
    exact wP (d6 a6 a3 a2 (Mem.sub M0 (.cons_cons _ (List.Sublist.append_left (List.Sublist.refl _) _))) hres) rfl
  | succ m ih =>
    intro a4 a0 a1 a5 a6 a3 a2 d3 b8 b2 h M0 hres
    rw [digraph_Reverse_L1] at hres
    refine rc_loop ?_
    refine sR ?_
    refine bN i_lss rfl rfl ?_
    refine nS ?_
    refine rc_seq ?_
    refine rc_cond rfl (fun a8 => ?_) (fun a8 => ?_)
    · have hgo := hres
      have b9 := a8
      try simp only [qa, qaD] at b9
      refine rc_skip ?_
      refine pn_seq ?_
      refine rc_seq ?_
      refine rc_block ?_
      refine sR ?_
      refine mV rfl ?_
      obtain ⟨d5, d2, b7⟩ := sl_idx (i := a4) c3 (by first | omega | (have hk := b3.at (k := a4) (i := x21_) (by omega) (by omega) (by omega) (by omega); omega)) (by first | omega | (have hk := b3.at (k := a4) (i := x21_) (by omega) (by omega) (by omega) (by omega); omega))
      refine rd_op (ov_iaddr rfl rfl d2) ?_
      refine lD b7 rfl rfl rfl ?_
      refine mV rfl ?_
      refine mV rfl ?_
      refine nR ?_
      refine mV rfl ?_
      refine rd_op (ov_bi rfl (sl_len b7 Try.underlying31 _)) ?_
      refine mI rfl ?_
      refine nS ?_
      refine rc_block ?_
      refine wC (digraph_Reverse_L2_ok hs hn c8 c4 c9 b3 c7 a3 a2 b8 b2 a8 b7 ?_  a6 a3 a2 rfl (by omega) (by first | omega | exact LB.mono (by assumption) (by omega)) (by first | omega | exact LB.mono (by assumption) (by omega)) (Mem.sub M0 (.cons_cons _ (List.Sublist.append_left (List.Sublist.refl _) _))) hres) rfl
      · intro b6 c2 c6 b1 b0 a9 d0 d4 d1 hres
        refine px_blk ?_
        refine pn_blk ?_
        refine pn_seq ?_
        refine rc_region ?_
        refine bN i_add rfl rfl ?_
        refine mV rfl ?_
        refine rd_nil ?_
        refine pn_again ?_
        have hbd := sl_bound c3
        have hinc : wr (a4 + 1) = a4 + 1 := wr_of (by omega) (by omega)
        erw [hinc]
        exact wC (ih  b1 b0 a9 (by omega) (by omega) (by exact LB.mono (by assumption) (by omega)) (Mem.sub d1 (.cons_cons _ (List.Sublist.append_left (List.Sublist.refl _) _))) hres) rfl
    · exfalso
      try simp only [qa, qaD] at a8
      omega

theorem f29_ok {x0 : List (List Int)} {v0 : PV} (r0 : (tSl (tSl tI)).R x0 v0) (hs : Sm x0) : ∃ r, FnR Try.prog 29 [v0] r ∧ (tSl (tSl tI)).R (digraph_Reverse x0) r := by
  refine fnT (R := RF29) text29 rfl fun res hres => ?_
  unfold digraph_Reverse at hres
  have hn : x0.length ≤ 24 := hs.n
  refine sR ?_
  refine rd_op (v := nilS) (ov_move rfl) ?_
  refine nR ?_
  refine mV rfl ?_
  refine rd_op (ov_bi rfl (sl_len r0 Try.underlying22 _)) ?_
  have b4 : fits (x0.length) 24 = true := fits_of (by first | omega | (have hr := a0.r x14_ (by omega) (by omega); have hk := iv2_0 (ix (ix a6 x14_) x21_) (by omega) (by omega); first | omega | (simp only [List.length_cons, List.length_nil]; omega))) (by first | omega | (have hr := a0.r x14_ (by omega) (by omega); have hk := iv2_0 (ix (ix a6 x14_) x21_) (by omega) (by omega); first | omega | (simp only [List.length_cons, List.length_nil]; omega)))
  refine rd_makeO (sz := 1) (ty := 31) (n := x0.length) (zz := nilS) (Mem.nil ⟨0, []⟩) rfl rfl rfl rfl rfl b4 (fun b1 b0 c3 b9 => ?_)
  have c7 : All2 (tSl tI).R (List.replicate x0.length ([] : List Int)) (List.replicate x0.length nilS) := All2.rep (show (tSl tI).R ([] : List Int) nilS from sl_nil) _
  have a4 : (List.replicate x0.length ([] : List Int)).length = x0.length := List.length_replicate
  have a7 : (List.replicate x0.length ([] : List Int)).length ≤ 4611686018427387904 := by rw [a4]; exact fits_len b4
  obtain ⟨a9, c6, b6⟩ : ∃ a9, Ns tI 3 (List.replicate x0.length ([] : List Int)) (List.replicate x0.length nilS) a9 ∧ Mem c3 (⟨.os b1 b0 0 x0.length, 31, 1, (List.replicate x0.length nilS)⟩ :: (a9 ++ [])) := ⟨_, ns_rep _, ns_new (C := [⟨.os b1 b0 0 x0.length, 31, 1, (List.replicate x0.length nilS)⟩]) b9 3 1 _⟩
  refine mV rfl ?_
  refine nS ?_
  refine rc_seq ?_
  refine sR ?_
  refine mV rfl ?_
  obtain ⟨a6, a5, hres⟩ := let_ex hres
  obtain ⟨c9, c2, a8⟩ := f37_ok  r0 (by first | assumption | omega)
  rw [a5] at a8
  have a0 : Gd x0.length a6 := clean_gd hs a5
  have b5 : a6.length = x0.length := a0.len
  refine cL c2 rfl rfl (clL_cons (TR.clo (tSl (tSl tI)) r0) clL_nil) ?_
  refine rd_op (ov_bi rfl (sl_len a8 Try.underlying22 _)) ?_
  refine mI rfl ?_
  refine nS ?_
  refine rc_block ?_
  refine wC (digraph_Reverse_L1_ok hs hn a4 a7 a5 a8 a0 b5 ?_  c6 a4 a7 rfl (by omega) (by exact lb_rep (by omega)) (Mem.sub b6 (.cons_cons _ (List.Sublist.append_left (List.Sublist.refl _) _))) hres) rfl
  · intro b2 a2 b7 a3 b3 a1 d0 b8 hres
    refine px_blk ?_
    refine pn_seq ?_
    refine sR ?_
    refine mV rfl ?_
    refine mV rfl ?_
    refine nS ?_
    obtain ⟨c8, c4, c5⟩ := ns_deep (P := Try.prog) (k := 0) (C := [⟨.os b1 b0 0 x0.length, 31, 1, a2⟩]) b8 rfl rfl a3 (Nat.le_trans a1 (by decide))
    subst hres
    exact rc_retV (.tmp rfl .nil) c4 c5

def RF43 (i2_ w2_ i3_ w3_ : Nat) (R_ : List Ent) (res : (List Int) × (List Int)) (r : PV) (h : Heap) : Prop := ∃ aF0_0 : PV, ∃ esF0_0 : List PV, ∃ aF1_0 : PV, ∃ esF1_0 : List PV, Mem h (⟨.op i2_ w2_ 0, 31, 1, [aF0_0]⟩ :: ⟨aF0_0, 3, 1, esF0_0⟩ :: ⟨.op i3_ w3_ 0, 31, 1, [aF1_0]⟩ :: ⟨aF1_0, 3, 1, esF1_0⟩ :: R_) ∧ (All2 tI.R res.1 esF0_0) ∧ (isL aF0_0 = true) ∧ (res.1.length ≤ 4611686018427387904) ∧ (Wri aF0_0 esF0_0) ∧ (All2 tI.R res.2 esF1_0) ∧ (isL aF1_0 = true) ∧ (res.2.length ≤ 4611686018427387904) ∧ (Wri aF1_0 esF1_0) ∧ r = .tup []
theorem f43_ok {x0 x1 : Int} {c0 c1 : List Int} {b0 : PV} {a1 : List PV} {a3 : PV} {a0 : List PV} {R_ : List Ent} {h_ : Heap} {b8 c4 c7 c2 : Nat} (a2 : All2 tI.R c0 a1) (c9 : isL b0 = true) (b3 : c0.length ≤ 4611686018427387904) (b9 : Wri b0 a1) (a9 : All2 tI.R c1 a0) (a8 : isL a3 = true) (c3 : c1.length ≤ 4611686018427387904) (b4 : Wri a3 a0) (M_ : Mem h_ (⟨.op b8 c4 0, 31, 1, [b0]⟩ :: ⟨b0, 3, 1, a1⟩ :: ⟨.op c7 c2 0, 31, 1, [a3]⟩ :: ⟨a3, 3, 1, a0⟩ :: R_)) (hw : 0 ≤ x0 ∧ x0 < (c0.length : Int)) (hq : c1.length ≤ 1000) : ∃ r e9, FnX Try.prog 43 [vi x0, vi x1, .op b8 c4 0, .op c7 c2 0] h_ r e9 ∧ RF43 b8 c4 c7 c2 R_ (digraph_distances_1 x0 x1 c0 c1) r e9 := by
  refine fnXX (R := RF43 b8 c4 c7 c2 R_) text43 rfl fun res hres => ?_
  unfold digraph_distances_1 at hres
  refine sR ?_
  refine rd_op (ov_load0 (k := 0) M_ rfl rfl (mem_one (k := 1) M_ rfl c9).2) ?_
  refine mV rfl ?_
  obtain ⟨a6, a7, a4, e0⟩ := wri_os (i := x0) b9 a2 (by omega) (by omega)
  subst e0
  have d1 : c0.length = a4 := by rw [mem_osn M_ (k := 1) rfl, All2.length_eq a2]
  have b2 : 0 ≤ x0 := (by omega)
  have c8 : x0 < (c0.length : Int) := (by omega)
  refine rd_op (ov_iaddr rfl rfl (n_idx 1 b2 (by omega))) ?_
  obtain ⟨e4, e7, b6⟩ := elem_at (i := x0) a2 b2 c8
  have b6 : e4 = vi (ix c0 x0) := b6; subst b6
  refine rd_op (ov_elem (k := 1) M_ rfl rfl e7 rfl) ?_
  refine bN i_lss rfl rfl ?_
  refine nS ?_
  refine rc_br hres rfl ?_ ?_ <;> clear hres <;> intro c hres <;> try simp only [qa, qaD] at c
  · refine sR ?_
    refine rd_op (ov_load0 (k := 0) M_ rfl rfl (mem_one (k := 1) M_ rfl rfl).2) ?_
    refine mV rfl ?_
    refine mV rfl ?_
    have b7 : 0 ≤ x0 := (by omega)
    have e6 : x0 < (c0.length : Int) := (by omega)
    refine rd_op (ov_iaddr rfl rfl (n_idx 1 b7 (by omega))) ?_
    refine rd_setO (k := 1) (v := vi x1) M_ rfl rfl rfl (by rw [All2.length_eq a2]; omega) rfl (fun e3 c5 => ?_)
    have e8 := All2.set (i := (x0).toNat) a2 (show tI.R x1 (vi x1) from rfl)
    have e2 : (c0.set (x0).toNat x1).length ≤ 4611686018427387904 := by simp only [List.length_set]; exact b3
    have f0 : (c0.set (x0).toNat x1).length = a4 := by simp only [List.length_set]; exact d1
    refine nS ?_
    refine rc_region ?_
    refine rd_op (ov_load0 (k := 2) c5 rfl rfl (mem_one (k := 3) c5 rfl a8).2) ?_
    refine mV rfl ?_
    refine rd_op (v := .fs true [vi x0]) (ov_bslice rfl (all_cons rfl all_nil)) ?_
    have e5 : (tSl tI).R ([x0] : List Int) (.fs true [vi x0]) := sl_fs ⟨rfl, trivial⟩ (by simp)
    obtain ⟨a5, d0, b5⟩ := src_of (t := tI) (h := e3) e5
    have d8 : fits (a0.length + a5.length) 8 = true := by rw [All2.length_eq a9, All2.length_eq b5]; (try simp only [List.length_cons, List.length_nil]); exact fits_of (by first | omega | (simp only [List.length_append, List.length_cons, List.length_nil] at *; omega)) (by first | omega | (simp only [List.length_append, List.length_cons, List.length_nil] at *; omega))
    refine rd_appW (k := 3) (es := a0) (news := a5) c5 rfl rfl rfl a8 b4 d0 d8 (fun b1 f1 d5 d3 d7 => ?_)
    have d4 : All2 tI.R (c1 ++ ([x0] : List Int)) (a0 ++ a5) := All2.app a9 b5
    have d9 : (c1 ++ ([x0] : List Int)).length ≤ 4611686018427387904 := by rw [← All2.length_eq d4, List.length_append]; exact fits_len d8
    refine rd_storeO (k := 2) (v := b1) d7 rfl rfl rfl (mem_cnt1 (k := 3) d7 rfl d5) (fun d2 c6 => ?_)
    replace c6 : Mem d2 (⟨.op b8 c4 0, 31, 1, [(.os a6 a7 0 a4)]⟩ :: ⟨.os a6 a7 0 a4, 3, 1, (a1.set (x0).toNat (vi x1))⟩ :: ⟨.op c7 c2 0, 31, 1, [b1]⟩ :: ⟨b1, 3, 1, (a0 ++ a5)⟩ :: R_) := c6
    refine rd_nil ?_
    have e1 : Mem d2 (⟨.op b8 c4 0, 31, 1, [(.os a6 a7 0 a4)]⟩ :: ⟨.os a6 a7 0 a4, 3, 1, (a1.set (x0).toNat (vi x1))⟩ :: ⟨.op c7 c2 0, 31, 1, [b1]⟩ :: ⟨b1, 3, 1, (a0 ++ a5)⟩ :: R_) := (Mem.front (k := 3) (Mem.front (k := 3) (Mem.front (k := 3) (Mem.front (k := 3) c6 rfl) rfl) rfl) rfl)
    subst hres
    exact pn_endX .nil ⟨(.os a6 a7 0 a4), (a1.set (x0).toNat (vi x1)), b1, (a0 ++ a5), Mem.sub e1 (.cons_cons _ (.cons_cons _ (.cons_cons _ (.cons_cons _ (List.Sublist.refl R_))))), e8, rfl, e2, (.inr ⟨_, _, _, rfl⟩), d4, d5, d9, d3, rfl⟩
  · refine rc_skip ?_
    have d6 : Mem h_ (⟨.op b8 c4 0, 31, 1, [(.os a6 a7 0 a4)]⟩ :: ⟨.os a6 a7 0 a4, 3, 1, a1⟩ :: ⟨.op c7 c2 0, 31, 1, [a3]⟩ :: ⟨a3, 3, 1, a0⟩ :: R_) := (Mem.front (k := 3) (Mem.front (k := 3) (Mem.front (k := 3) (Mem.front (k := 3) M_ rfl) rfl) rfl) rfl)
    subst hres
    exact pn_endX .nil ⟨(.os a6 a7 0 a4), a1, a3, a0, Mem.sub d6 (.cons_cons _ (.cons_cons _ (.cons_cons _ (.cons_cons _ (List.Sublist.refl R_))))), a2, rfl, b3, (.inr ⟨_, _, _, rfl⟩), a9, a8, c3, b4, rfl⟩

def RF34 (res : (List Int)) (r : PV) : Prop := (tSl tI).R res r
theorem digraph_distances_L1_ok {S : List Fr} {res : (List Int)} {x0 : List (List Int)} {x1 : Int} {v0 : PV} {a9 a7 a6 a8 : Nat} (hn : x0.length ≤ 1000) (c3 : (List.replicate x0.length (0 : Int)).length = x0.length) (b9 : (List.replicate x0.length (0 : Int)).length ≤ 4611686018427387904) {K0 : (List Int) → (List Int)}
    (c4 : ∀ {a0 : List Int} {a1 : List PV} (a5 : All2 tI.R a0 a1) (a4 : a0.length = x0.length) (a3 : a0.length ≤ 4611686018427387904) (c6 : NB a0 (x0.length : Int)) {h : Heap} (M0 : Mem h [⟨.op a6 a8 0, 31, 1, [.os a9 a7 0 x0.length]⟩, ⟨.os a9 a7 0 x0.length, 3, 1, a1⟩]), K0 a0 = res → PX Try.prog 0 S (QR Try.prog [(4, none)] (RF34 res)) [(0, v0), (1, vi x1), (5, .op a6 a8 0)] h) :
    ∀ {m : Nat} {a2 : Int} {a0 : List Int} {a1 : List PV} (a5 : All2 tI.R a0 a1) (a4 : a0.length = x0.length) (a3 : a0.length ≤ 4611686018427387904) (c2 : m = Int.toNat (((List.replicate x0.length (0 : Int)).length : Int) - a2)) (b5 : 0 ≤ a2) (b0 : NB a0 a2) (b1 : a2 ≤ (x0.length : Int)) {h : Heap} (M0 : Mem h [⟨.op a6 a8 0, 31, 1, [.os a9 a7 0 x0.length]⟩, ⟨.os a9 a7 0 x0.length, 3, 1, a1⟩]), digraph_distances_L1 K0 m a2 a0 = res → RC Try.prog (.loop ac34_L1) S (QR Try.prog [(4, none)] (RF34 res)) [(18, vi a2), (17, vi ((List.replicate x0.length (0 : Int)).length : Int)), (5, .op a6 a8 0), (1, vi x1), (0, v0)] h := by
  intro m
  induction m with
  | zero =>
    intro a2 a0 a1 a5 a4 a3 c2 b5 b0 b1 h M0 hres
    rw [digraph_distances_L1] at hres
    refine rc_loop ?_
    refine sR ?_
    refine bN i_lss rfl rfl ?_
    refine nS ?_
    refine rc_seq ?_
    refine rc_cond rfl ?_ ?_ <;> intro c <;> try simp only [qa, qaD] at c
    · omega
    refine rc_exit ?_
    refine px_seq ?_
    refine px_again ?_
    exact wP (c4 a5 a4 a3 (by exact NB.mono (by assumption) (by omega)) (Mem.sub M0 (.cons_cons _ (.cons_cons _ .slnil))) hres) rfl
  | succ m ih =>
    intro a2 a0 a1 a5 a4 a3 c2 b5 b0 b1 h M0 hres
    rw [digraph_distances_L1] at hres
    refine rc_loop ?_
    refine sR ?_
    refine bN i_lss rfl rfl ?_
    refine nS ?_
    refine rc_seq ?_
    refine rc_cond rfl ?_ ?_ <;> intro c <;> try simp only [qa, qaD] at c
    rotate_left
    · omega
    refine rc_skip ?_
    refine pn_seq ?_
    refine rc_seq ?_
    refine rc_block ?_
    refine sR ?_
    refine mV rfl ?_
    refine mV rfl ?_
    refine nS ?_
    refine rc_region ?_
    refine rd_op (ov_load0 (k := 0) M0 rfl rfl (mem_one (k := 1) M0 rfl rfl).2) ?_
    refine mV rfl ?_
    have b2 : 0 ≤ a2 := (by first | omega | first | (have hk := QI.at iv2_0 (i := x9_) (by omega) (by omega); omega) | (have hk := en111 (by assumption); omega) | (have hk := qi_pre iv3_0 iv3_1 (i := x9_) (by omega) (by omega); omega))
    have b7 : a2 < (a0.length : Int) := (by first | omega | first | (have hk := QI.at iv2_0 (i := x9_) (by omega) (by omega); omega) | (have hk := en111 (by assumption); omega) | (have hk := qi_pre iv3_0 iv3_1 (i := x9_) (by omega) (by omega); omega))
    refine rd_op (ov_iaddr rfl rfl (n_idx 1 b2 (by omega))) ?_
    refine rd_setO (k := 1) (v := vi (-1)) M0 rfl rfl rfl (by rw [All2.length_eq a5]; omega) rfl (fun c5 b6 => ?_)
    have b8 := All2.set (i := (a2).toNat) a5 (show tI.R (-1) (vi (-1)) from rfl)
    have b4 : (a0.set (a2).toNat (-1)).length ≤ 4611686018427387904 := by simp only [List.length_set]; exact a3
    have b3 : (a0.set (a2).toNat (-1)).length = x0.length := by simp only [List.length_set]; exact a4
    refine rd_nil ?_
    refine pn_blk ?_
    refine pn_seq ?_
    refine rc_region ?_
    refine bN i_add rfl rfl ?_
    refine mV rfl ?_
    refine rd_nil ?_
    refine pn_again ?_
    have hinc : wr (a2 + 1) = a2 + 1 := wr_of (by omega) (by omega)
    erw [hinc]
    exact wC (ih  b8 b3 b4 (by omega) (by omega) (by first | omega | exact NB.next (by assumption) (by omega) (by omega)) (by first | omega | exact NB.next (by assumption) (by omega) (by omega)) (Mem.sub b6 (.cons_cons _ (.cons_cons _ .slnil))) hres) rfl

theorem digraph_distances_L3_ok {S : List Fr} {res : (List Int)} {x0 : List (List Int)} {x1 : Int} {b0 : List Int} {f7 : Bool} {b1 : Int} {a1 e2 : List Int} {v0 : PV} {e8 : List PV} {e4 : PV} {e9 : List PV} {e5 f8 : PV} {c5 c7 c6 c8 h9 : Nat} (r0 : (tSl (tSl tI)).R x0 v0) (hn : x0.length ≤ 1000) (i9 : (List.replicate x0.length (0 : Int)).length = x0.length) (i5 : (List.replicate x0.length (0 : Int)).length ≤ 4611686018427387904) (f6 : b0.length = x0.length) (f5 : b0.length ≤ 4611686018427387904) (g9 : NB b0 (x0.length : Int)) (j1 : digraph_node x0 x1 = f7) (g8 : (!f7) = false) (i8 : ([x1] : List Int).length = 1) (j5 : ([x1] : List Int).length ≤ 4611686018427387904) (i3 : 0 ≤ x1) (h5 : x1 < (b0.length : Int)) (j0 : (b0.set (x1).toNat 0).length ≤ 4611686018427387904) (i7 : (b0.set (x1).toNat 0).length = x0.length) (j7 : isL e4 = true) (i1 : Wri e4 e8) (i2 : a1.length ≤ 4611686018427387904) (i4 : isL e5 = true) (h8 : Wri e5 e9) (i0 : e2.length ≤ 4611686018427387904) (c2 : QI x0.length e2 a1) (i6 : 0 ≤ b1) (g2 : (decide (b1 < (a1.length : Int))) = true) (j2 : a1.length = h9) (h7 : 0 ≤ b1) (h3 : b1 < (a1.length : Int)) (f4 : (tSl tI).R (ix x0 (ix a1 b1)) f8) {K4 : (List Int) → (List Int) → (List Int)}
    (k0 : ∀ {a2 a0 : List Int} {a5 : List PV} {a3 : PV} {a4 : List PV} {a7 : PV} (b7 : All2 tI.R a2 a5) (b6 : isL a3 = true) (b3 : Wri a3 a5) (b4 : a2.length ≤ 4611686018427387904) (a9 : All2 tI.R a0 a4) (b8 : isL a7 = true) (b5 : Wri a7 a4) (b2 : a0.length ≤ 4611686018427387904) (k3 : QI x0.length a0 a2) {h : Heap} (M0 : Mem h [⟨.op c6 c8 0, 31, 1, [a3]⟩, ⟨a3, 3, 1, a5⟩, ⟨.op c5 c7 0, 31, 1, [a7]⟩, ⟨a7, 3, 1, a4⟩]), K4 a2 a0 = res → PX Try.prog 4 S (QR Try.prog [(4, none)] (RF34 res)) [(0, v0), (5, .op c5 c7 0), (7, .op c6 c8 0), (8, .fn (.func 43) [] [.op c5 c7 0, .op c6 c8 0]), (9, vi b1)] h) :
    ∀ {m : Nat} {b9 : Int} {a2 a0 : List Int} {a5 : List PV} {a3 : PV} {a4 : List PV} {a7 : PV} (b7 : All2 tI.R a2 a5) (b6 : isL a3 = true) (b3 : Wri a3 a5) (b4 : a2.length ≤ 4611686018427387904) (a9 : All2 tI.R a0 a4) (b8 : isL a7 = true) (b5 : Wri a7 a4) (b2 : a0.length ≤ 4611686018427387904) (j4 : m = Int.toNat (((ix x0 (ix a1 b1)).length : Int) - b9)) (g4 : 0 ≤ b9) (a6 : QI x0.length a0 a2) (a8 : a1 <+: a2) {h : Heap} (M0 : Mem h [⟨.op c6 c8 0, 31, 1, [a3]⟩, ⟨a3, 3, 1, a5⟩, ⟨.op c5 c7 0, 31, 1, [a7]⟩, ⟨a7, 3, 1, a4⟩]), digraph_distances_L3 x0 b1 a1 K4 m b9 a2 a0 = res → RC Try.prog (.loop ac34_L3) S (QR Try.prog [(4, none)] (RF34 res)) [(51, vi b9), (50, vi ((ix x0 (ix a1 b1)).length : Int)), (49, f8), (10, vi (ix a1 b1)), (9, vi b1), (8, .fn (.func 43) [] [.op c5 c7 0, .op c6 c8 0]), (7, .op c6 c8 0), (5, .op c5 c7 0), (0, v0)] h := by
  have f1 := g8
  try simp only [qa, qaD] at f1
  have f0 := g2
  try simp only [qa, qaD] at f0
  intro m
  induction m with
  | zero =>
    intro b9 a2 a0 a5 a3 a4 a7 b7 b6 b3 b4 a9 b8 b5 b2 j4 g4 a6 a8 h M0 hres
    rw [digraph_distances_L3] at hres
    refine rc_loop ?_
    refine sR ?_
    refine bN i_lss rfl rfl ?_
    refine nS ?_
    refine rc_seq ?_
    refine rc_cond rfl ?_ ?_ <;> intro c <;> try simp only [qa, qaD] at c
    · omega
    refine rc_exit ?_
    refine px_seq ?_
    refine px_again ?_
    exact wP (k0 b7 b6 b3 b4 a9 b8 b5 b2 (by assumption) (Mem.sub M0 (.cons_cons _ (.cons_cons _ (.cons_cons _ (.cons_cons _ .slnil))))) hres) rfl
  | succ m ih =>
    intro b9 a2 a0 a5 a3 a4 a7 b7 b6 b3 b4 a9 b8 b5 b2 j4 g4 a6 a8 h M0 hres
    rw [digraph_distances_L3] at hres
    refine rc_loop ?_
    refine sR ?_
    refine bN i_lss rfl rfl ?_
    refine nS ?_
    refine rc_seq ?_
    refine rc_cond rfl ?_ ?_ <;> intro c <;> try simp only [qa, qaD] at c
    rotate_left
    · omega
    refine rc_skip ?_
    refine pn_seq ?_
    refine rc_seq ?_
    refine rc_block ?_
    refine sR ?_
    refine rd_op (ov_iaddr rfl rfl (slI f4 (by first | omega | first | (have hk := QI.at c2 (i := b1) (by omega) (by omega); omega) | (have hk := en111 (by assumption); omega) | (have hk := qi_pre a6 a8 (i := b1) (by omega) (by omega); omega)) (by first | omega | first | (have hk := QI.at c2 (i := b1) (by omega) (by omega); omega) | (have hk := en111 (by assumption); omega) | (have hk := qi_pre a6 a8 (i := b1) (by omega) (by omega); omega)))) ?_
    refine lR rfl rfl rfl ?_
    refine mV rfl ?_
    refine nR ?_
    refine mV rfl ?_
    refine mV rfl ?_
    obtain ⟨j8, e3, hres⟩ := let_ex hres
    have g0 := f33_ok (x1 := (ix (ix x0 (ix a1 b1)) b9)) r0 
    rw [e3] at g0
    have c3 := node_use e3
    refine cL g0 rfl rfl (clL_cons (TR.clo (tSl (tSl tI)) r0) (clL_cons rfl clL_nil)) ?_
    refine nS ?_
    refine rc_br hres rfl ?_ ?_ <;> clear hres <;> intro c hres <;> try simp only [qa, qaD] at c
    · refine rc_regionS ?_
      refine rs_step ?_
      refine mV rfl ?_
      refine rs_back ?_
      refine rs_step ?_
      refine mV rfl ?_
      refine rs_back ?_
      refine rs_step ?_
      refine rd_op (ov_load0 (k := 2) M0 rfl rfl (mem_one (k := 3) M0 rfl b8).2) ?_
      refine rs_back ?_
      refine rs_step ?_
      refine mV rfl ?_
      refine rs_back ?_
      refine rs_step ?_
      obtain ⟨g6, f9, e7, g1⟩ := wri_os (i := (ix a1 b1)) b5 a9 (by first | omega | first | (have hk := QI.at c2 (i := b1) (by omega) (by omega); omega) | (have hk := en111 (by assumption); omega) | (have hk := qi_pre a6 a8 (i := b1) (by omega) (by omega); omega)) (by first | omega | first | (have hk := QI.at c2 (i := b1) (by omega) (by omega); omega) | (have hk := en111 (by assumption); omega) | (have hk := qi_pre a6 a8 (i := b1) (by omega) (by omega); omega))
      subst g1
      have j3 : a0.length = e7 := by rw [mem_osn M0 (k := 3) rfl, All2.length_eq a9]
      have e0 : 0 ≤ (ix a1 b1) := (by first | omega | first | (have hk := QI.at c2 (i := b1) (by omega) (by omega); omega) | (have hk := en111 (by assumption); omega) | (have hk := qi_pre a6 a8 (i := b1) (by omega) (by omega); omega))
      have f2 : (ix a1 b1) < (a0.length : Int) := (by first | omega | first | (have hk := QI.at c2 (i := b1) (by omega) (by omega); omega) | (have hk := en111 (by assumption); omega) | (have hk := qi_pre a6 a8 (i := b1) (by omega) (by omega); omega))
      refine rd_op (ov_iaddr rfl rfl (n_idx 1 e0 (by omega))) ?_
      refine rs_back ?_
      refine rs_step ?_
      obtain ⟨h1, h2, f3⟩ := elem_at (i := (ix a1 b1)) a9 e0 f2
      have f3 : h1 = vi (ix a0 (ix a1 b1)) := f3; subst f3
      refine rd_op (ov_elem (k := 3) M0 rfl rfl h2 rfl) ?_
      refine rs_back ?_
      refine rs_step ?_
      refine bN i_add rfl rfl ?_
      refine rs_back ?_
      have h0 : Mem h [⟨.op c5 c7 0, 31, 1, [(.os g6 f9 0 e7)]⟩, ⟨.os g6 f9 0 e7, 3, 1, a4⟩, ⟨.op c6 c8 0, 31, 1, [a3]⟩, ⟨a3, 3, 1, a5⟩] := (Mem.front (k := 3) (Mem.front (k := 3) (Mem.front (k := 1) (Mem.front (k := 1) M0 rfl) rfl) rfl) rfl)
      obtain ⟨j9, g7, hres⟩ := let_ex hres
      obtain ⟨j6, h6, g3, e6⟩ := f43_ok (x0 := (ix (ix x0 (ix a1 b1)) b9)) (x1 := (wr ((ix a0 (ix a1 b1)) + 1))) (c0 := a0) (c1 := a2) a9 rfl b2 (.inr ⟨_, _, _, rfl⟩) b7 b6 b4 b3 h0 (by first | (have hk := c3 (by assumption); have hl := QI.len a6; omega) | (have hk := QI.qlen a6; omega)) (by first | (have hk := c3 (by assumption); have hl := QI.len a6; omega) | (have hk := QI.qlen a6; omega))
      rw [g7] at e6
      obtain ⟨c4, d5, c9, d3, h4, d1, d6, d2, d0, d8, d4, d7, d9, e1⟩ := e6
      replace e1 := e1.symm; subst e1
      refine rs_callXc rfl rfl g3 ?_
      refine rs_nil ?_
      refine pn_blk ?_
      refine pn_seq ?_
      refine rc_region ?_
      refine bN i_add rfl rfl ?_
      refine mV rfl ?_
      refine rd_nil ?_
      have g5 : Mem h6 [⟨.op c6 c8 0, 31, 1, [c9]⟩, ⟨c9, 3, 1, d3⟩, ⟨.op c5 c7 0, 31, 1, [c4]⟩, ⟨c4, 3, 1, d5⟩] := (Mem.front (k := 3) (Mem.front (k := 3) (Mem.front (k := 1) (Mem.front (k := 1) h4 rfl) rfl) rfl) rfl)
      refine pn_again ?_
      have hbd := sl_bound f4
      have hinc : wr (b9 + 1) = b9 + 1 := wr_of (by omega) (by omega)
      erw [hinc]
      exact wC (ih  d8 d4 d9 d7 d1 d6 d0 d2 (by omega) (by omega) (by first | assumption | (have hk := c3 (by assumption); have hp := qi_pre a6 a8 (i := b1) (by omega) (by omega); have hw := wr_of (n := ix a0 (ix a1 b1) + 1) (by omega) (by omega); have hv := QI.visit (d := wr (ix a0 (ix a1 b1) + 1)) a6 hk.1 hk.2 (by omega) (by omega) _ (by assumption); first | exact hv.1 | exact a8.trans hv.2.1)) (by first | assumption | (have hk := c3 (by assumption); have hp := qi_pre a6 a8 (i := b1) (by omega) (by omega); have hw := wr_of (n := ix a0 (ix a1 b1) + 1) (by omega) (by omega); have hv := QI.visit (d := wr (ix a0 (ix a1 b1) + 1)) a6 hk.1 hk.2 (by omega) (by omega) _ (by assumption); first | exact hv.1 | exact a8.trans hv.2.1)) (Mem.sub g5 (.cons_cons _ (.cons_cons _ (.cons_cons _ (.cons_cons _ .slnil))))) hres) rfl
    · refine rc_skip ?_
      refine pn_blk ?_
      refine pn_seq ?_
      refine rc_region ?_
      refine bN i_add rfl rfl ?_
      refine mV rfl ?_
      refine rd_nil ?_
      refine pn_again ?_
      have hbd := sl_bound f4
      have hinc : wr (b9 + 1) = b9 + 1 := wr_of (by omega) (by omega)
      erw [hinc]
      exact wC (ih  b7 b6 b3 b4 a9 b8 b5 b2 (by omega) (by omega) (by first | assumption | (have hk := c3 (by assumption); have hp := qi_pre a6 a8 (i := b1) (by omega) (by omega); have hw := wr_of (n := ix a0 (ix a1 b1) + 1) (by omega) (by omega); have hv := QI.visit (d := wr (ix a0 (ix a1 b1) + 1)) a6 hk.1 hk.2 (by omega) (by omega) _ (by assumption); first | exact hv.1 | exact a8.trans hv.2.1)) (by first | assumption | (have hk := c3 (by assumption); have hp := qi_pre a6 a8 (i := b1) (by omega) (by omega); have hw := wr_of (n := ix a0 (ix a1 b1) + 1) (by omega) (by omega); have hv := QI.visit (d := wr (ix a0 (ix a1 b1) + 1)) a6 hk.1 hk.2 (by omega) (by omega) _ (by assumption); first | exact hv.1 | exact a8.trans hv.2.1)) (Mem.sub M0 (.cons_cons _ (.cons_cons _ (.cons_cons _ (.cons_cons _ .slnil))))) hres) rfl

theorem digraph_distances_L2_ok {S : List Fr} {res : (List Int)} {x0 : List (List Int)} {x1 : Int} {a0 : List Int} {f2 : Bool} {v0 : PV} {d1 d2 d5 d6 : Nat} (r0 : (tSl (tSl tI)).R x0 v0) (hn : x0.length ≤ 1000) (f7 : (List.replicate x0.length (0 : Int)).length = x0.length) (f1 : (List.replicate x0.length (0 : Int)).length ≤ 4611686018427387904) (c3 : a0.length = x0.length) (c2 : a0.length ≤ 4611686018427387904) (d7 : NB a0 (x0.length : Int)) (g0 : digraph_node x0 x1 = f2) (e1 : (!f2) = false) (f6 : ([x1] : List Int).length = 1) (g2 : ([x1] : List Int).length ≤ 4611686018427387904) (e8 : 0 ≤ x1) (e3 : x1 < (a0.length : Int)) (f8 : (a0.set (x1).toNat 0).length ≤ 4611686018427387904) (f5 : (a0.set (x1).toNat 0).length = x0.length) {K2 : (List Int) → (List Int) → (List Int)}
    (g9 : ∀ {a1 a8 : List Int} {a2 : List PV} {a4 : PV} {a3 : List PV} {a6 : PV} (a5 : All2 tI.R a1 a2) (a7 : isL a4 = true) (b2 : Wri a4 a2) (b3 : a1.length ≤ 4611686018427387904) (b6 : All2 tI.R a8 a3) (b5 : isL a6 = true) (b0 : Wri a6 a3) (b1 : a8.length ≤ 4611686018427387904) {h : Heap} (M0 : Mem h [⟨.op d5 d6 0, 31, 1, [a4]⟩, ⟨a4, 3, 1, a2⟩, ⟨.op d1 d2 0, 31, 1, [a6]⟩, ⟨a6, 3, 1, a3⟩]), K2 a1 a8 = res → PX Try.prog 2 S (QR Try.prog [(4, none)] (RF34 res)) [(5, .op d1 d2 0)] h) :
    ∀ {m : Nat} {b4 : Int} {a1 a8 : List Int} {a2 : List PV} {a4 : PV} {a3 : List PV} {a6 : PV} (a5 : All2 tI.R a1 a2) (a7 : isL a4 = true) (b2 : Wri a4 a2) (b3 : a1.length ≤ 4611686018427387904) (b6 : All2 tI.R a8 a3) (b5 : isL a6 = true) (b0 : Wri a6 a3) (b1 : a8.length ≤ 4611686018427387904) (h0 : (x0.length : Int) - b4 ≤ (m : Int)) (a9 : QI x0.length a8 a1) (c8 : 0 ≤ b4) {h : Heap} (M0 : Mem h [⟨.op d5 d6 0, 31, 1, [a4]⟩, ⟨a4, 3, 1, a2⟩, ⟨.op d1 d2 0, 31, 1, [a6]⟩, ⟨a6, 3, 1, a3⟩]), digraph_distances_L2 x0 K2 m b4 a1 a8 = res → RC Try.prog (.loop ac34_L2) S (QR Try.prog [(4, none)] (RF34 res)) [(9, vi b4), (8, .fn (.func 43) [] [.op d1 d2 0, .op d5 d6 0]), (7, .op d5 d6 0), (5, .op d1 d2 0), (0, v0)] h := by
  have e4 := e1
  try simp only [qa, qaD] at e4
  intro m
  induction m with
  | zero =>
    intro b4 a1 a8 a2 a4 a3 a6 a5 a7 b2 b3 b6 b5 b0 b1 h0 a9 c8 h M0 hres
    rw [digraph_distances_L2] at hres
    refine rc_loop ?_
    refine rc_seq ?_
    refine sR ?_
    refine mV rfl ?_
    refine rd_op (ov_load0 (k := 0) M0 rfl rfl (mem_one (k := 1) M0 rfl a7).2) ?_
    refine rd_op (ov_bi rfl (own_len (k := 1) M0 rfl Try.underlying31 a7 a5 _)) ?_
    refine bN i_lss rfl rfl ?_
    refine nS ?_
    refine rc_cond rfl (fun c6 => ?_) (fun c6 => ?_)
    · exfalso
      try simp only [qa, qaD] at c6
      (have hk := QI.qlen a9; omega)
    · have hend := hres
      have e6 := c6
      try simp only [qa, qaD] at e6
      refine rc_exit ?_
      refine px_seq ?_
      refine px_again ?_
      exact wP (g9 a5 a7 b2 b3 b6 b5 b0 b1 (Mem.sub M0 (.cons_cons _ (.cons_cons _ (.cons_cons _ (.cons_cons _ .slnil))))) hres) rfl
  | succ m ih =>
    intro b4 a1 a8 a2 a4 a3 a6 a5 a7 b2 b3 b6 b5 b0 b1 h0 a9 c8 h M0 hres
    rw [digraph_distances_L2] at hres
    refine rc_loop ?_
    refine rc_seq ?_
    refine sR ?_
    refine mV rfl ?_
    refine rd_op (ov_load0 (k := 0) M0 rfl rfl (mem_one (k := 1) M0 rfl a7).2) ?_
    refine rd_op (ov_bi rfl (own_len (k := 1) M0 rfl Try.underlying31 a7 a5 _)) ?_
    refine bN i_lss rfl rfl ?_
    refine nS ?_
    refine rc_br hres rfl ?_ ?_ <;> clear hres <;> intro d8 hres <;> have e2 := d8 <;> try simp only [qa, qaD] at e2
    · refine rc_skip ?_
      refine pn_seq ?_
      refine rc_seq ?_
      refine rc_block ?_
      refine sR ?_
      refine rd_op (ov_load0 (k := 0) M0 rfl rfl (mem_one (k := 1) M0 rfl a7).2) ?_
      refine mV rfl ?_
      obtain ⟨h3, h1, g7, f9⟩ := wri_os (i := b4) b2 a5 (by first | omega | first | (have hk := QI.at a9 (i := b4) (by omega) (by omega); omega) | (have hk := en111 (by assumption); omega) | (have hk := qi_pre iv3_0 iv3_1 (i := b4) (by omega) (by omega); omega)) (by first | omega | first | (have hk := QI.at a9 (i := b4) (by omega) (by omega); omega) | (have hk := en111 (by assumption); omega) | (have hk := qi_pre iv3_0 iv3_1 (i := b4) (by omega) (by omega); omega))
      subst f9
      have g1 : a1.length = g7 := by rw [mem_osn M0 (k := 1) rfl, All2.length_eq a5]
      have b7 : 0 ≤ b4 := (by first | omega | first | (have hk := QI.at a9 (i := b4) (by omega) (by omega); omega) | (have hk := en111 (by assumption); omega) | (have hk := qi_pre iv3_0 iv3_1 (i := b4) (by omega) (by omega); omega))
      have c9 : b4 < (a1.length : Int) := (by first | omega | first | (have hk := QI.at a9 (i := b4) (by omega) (by omega); omega) | (have hk := en111 (by assumption); omega) | (have hk := qi_pre iv3_0 iv3_1 (i := b4) (by omega) (by omega); omega))
      refine rd_op (ov_iaddr rfl rfl (n_idx 1 b7 (by omega))) ?_
      obtain ⟨g6, g8, e5⟩ := elem_at (i := b4) a5 b7 c9
      have e5 : g6 = vi (ix a1 b4) := e5; subst e5
      refine rd_op (ov_elem (k := 1) M0 rfl rfl g8 rfl) ?_
      refine mV rfl ?_
      refine nR ?_
      refine mV rfl ?_
      refine mV rfl ?_
      obtain ⟨h2, g4, e7⟩ := sl_idx (i := (ix a1 b4)) r0 (by first | omega | first | (have hk := QI.at a9 (i := b4) (by omega) (by omega); omega) | (have hk := en111 (by assumption); omega) | (have hk := qi_pre iv3_0 iv3_1 (i := b4) (by omega) (by omega); omega)) (by first | omega | first | (have hk := QI.at a9 (i := b4) (by omega) (by omega); omega) | (have hk := en111 (by assumption); omega) | (have hk := qi_pre iv3_0 iv3_1 (i := b4) (by omega) (by omega); omega))
      refine rd_op (ov_iaddr rfl rfl g4) ?_
      refine lD e7 rfl rfl rfl ?_
      refine rd_op (ov_bi rfl (sl_len e7 Try.underlying31 _)) ?_
      refine mI rfl ?_
      refine nS ?_
      refine rc_block ?_
      refine wC (digraph_distances_L3_ok r0 hn f7 f1 c3 c2 d7 g0 e1 f6 g2 e8 e3 f8 f5 a7 b2 b3 b5 b0 b1 a9 c8 d8 g1 b7 c9 e7 ?_  a5 rfl (.inr ⟨_, _, _, rfl⟩) b3 b6 b5 b0 b1 rfl (by omega) (by first | assumption | exact List.prefix_refl _) (by first | assumption | exact List.prefix_refl _) (Mem.sub M0 (.cons_cons _ (.cons_cons _ (.cons_cons _ (.cons_cons _ .slnil))))) hres) rfl
      · intro e0 d9 e9 f4 f0 f3 d0 d3 b9 c4 c7 d4 c5 b8 g3 h4 g5 hres
        refine px_blk ?_
        refine pn_blk ?_
        refine pn_seq ?_
        refine rc_region ?_
        refine mV rfl ?_
        refine bN i_add rfl rfl ?_
        refine mV rfl ?_
        refine rd_nil ?_
        refine pn_again ?_
        exact wC (ih  d0 d3 b9 c4 c7 d4 c5 b8 (by (rw [wr_of (by omega) (by omega)]; omega)) (by first | assumption | (rw [wr_of (by omega) (by omega)]; omega)) (by first | assumption | (rw [wr_of (by omega) (by omega)]; omega)) (Mem.sub g5 (.cons_cons _ (.cons_cons _ (.cons_cons _ (.cons_cons _ .slnil))))) hres) rfl
    · refine rc_exit ?_
      refine px_seq ?_
      refine px_again ?_
      exact wP (g9 a5 a7 b2 b3 b6 b5 b0 b1 (Mem.sub M0 (.cons_cons _ (.cons_cons _ (.cons_cons _ (.cons_cons _ .slnil))))) hres) rfl

theorem f34_ok {x0 : List (List Int)} {x1 : Int} {v0 : PV} (r0 : (tSl (tSl tI)).R x0 v0) (hn : x0.length ≤ 1000) : ∃ r, FnR Try.prog 34 [v0, vi x1] r ∧ (tSl tI).R (digraph_distances x0 x1) r := by
  refine fnT (R := RF34) text34 rfl fun res hres => ?_
  unfold digraph_distances at hres
  refine sR ?_
  refine rd_op (v := nilS) (ov_move rfl) ?_
  refine nR ?_
  refine mV rfl ?_
  refine rd_op (ov_bi rfl (sl_len r0 Try.underlying22 _)) ?_
  have e6 : fits (x0.length) 8 = true := fits_of (by first | omega | (simp only [List.length_append, List.length_cons, List.length_nil] at *; omega)) (by first | omega | (simp only [List.length_append, List.length_cons, List.length_nil] at *; omega))
  refine rd_makeO (sz := 1) (ty := 3) (n := x0.length) (zz := vi 0) (Mem.nil ⟨0, []⟩) rfl rfl rfl rfl rfl e6 (fun a7 a6 h1 f8 => ?_)
  have e4 : All2 tI.R (List.replicate x0.length (0 : Int)) (List.replicate x0.length (vi 0)) := All2.rep (show tI.R (0 : Int) (vi 0) from rfl) _
  have a8 : (List.replicate x0.length (0 : Int)).length = x0.length := List.length_replicate
  have b2 : (List.replicate x0.length (0 : Int)).length ≤ 4611686018427387904 := by rw [a8]; exact fits_len e6
  refine rd_allocO (x := nilS) f8 rfl rfl (fun b8 b9 g3 e2 => ?_)
  refine rd_storeO (k := 0) (v := .os a7 a6 0 x0.length) e2 rfl rfl rfl (mem_cnt1 (k := 1) e2 rfl rfl) (fun f9 a9 => ?_)
  replace a9 : Mem f9 [⟨.op b8 b9 0, 31, 1, [.os a7 a6 0 x0.length]⟩, ⟨.os a7 a6 0 x0.length, 3, 1, (List.replicate x0.length (vi 0))⟩] := a9
  refine nS ?_
  refine rc_seq ?_
  refine sR ?_
  refine rd_op (ov_load0 (k := 0) a9 rfl rfl (mem_one (k := 1) a9 rfl rfl).2) ?_
  refine rd_op (ov_bi rfl (own_len (k := 1) a9 rfl Try.underlying31 rfl e4 _)) ?_
  refine mI rfl ?_
  refine nS ?_
  refine rc_block ?_
  refine wC (digraph_distances_L1_ok hn a8 b2 ?_  e4 a8 b2 rfl (by omega) (by first | omega | exact NB.nil) (by first | omega | exact NB.nil) (Mem.sub a9 (.cons_cons _ (.cons_cons _ .slnil))) hres) rfl
  · intro a1 a3 a2 a4 a0 c2 g9 b7 hres
    refine px_blk ?_
    refine pn_seq ?_
    refine rc_seq ?_
    refine sR ?_
    refine mV rfl ?_
    refine mV rfl ?_
    obtain ⟨g4, b3, hres⟩ := let_ex hres
    have e9 := f33_ok (x1 := x1) r0 
    rw [b3] at e9
    have c4 := node_use b3
    refine cL e9 rfl rfl (clL_cons (TR.clo (tSl (tSl tI)) r0) (clL_cons rfl clL_nil)) ?_
    refine rd_op (ov_not rfl) ?_
    refine nS ?_
    refine rc_br hres rfl ?_ ?_ <;> clear hres <;> intro c8 hres <;> have d1 := c8 <;> try simp only [qa, qaD] at d1
    · refine sR ?_
      refine rd_op (ov_load0 (k := 0) b7 rfl rfl (mem_one (k := 1) b7 rfl rfl).2) ?_
      refine mV rfl ?_
      refine nS ?_
      obtain ⟨g8, f5, f7⟩ := own_sl (P := Try.prog) (k := 1) (t := tI) b7 rfl rfl a2 (Nat.le_trans a0 (by decide))
      subst hres
      exact rc_retV (.tmp rfl .nil) f5 f7
    · refine rc_skip ?_
      refine pn_seq ?_
      refine sR ?_
      refine mV rfl ?_
      refine rd_bslO (vs := [vi x1]) b7 rfl (all_cons rfl all_nil) (fun c3 b6 g0 d2 => ?_)
      have f6 : All2 tI.R ([x1] : List Int) [vi x1] := ⟨rfl, trivial⟩
      have c5 : ([x1] : List Int).length = 1 := rfl
      have c7 : ([x1] : List Int).length ≤ 4611686018427387904 := by rw [c5]; decide
      replace d2 : Mem g0 [⟨.os c3 b6 0 1, 3, 1, [vi x1]⟩, ⟨.op b8 b9 0, 31, 1, [.os a7 a6 0 x0.length]⟩, ⟨.os a7 a6 0 x0.length, 3, 1, a3⟩] := d2
      refine rd_allocO (x := nilS) d2 rfl rfl (fun e7 f0 g5 e8 => ?_)
      refine rd_storeO (k := 0) (v := .os c3 b6 0 1) e8 rfl rfl rfl (mem_cnt1 (k := 1) e8 rfl rfl) (fun f3 b4 => ?_)
      replace b4 : Mem f3 [⟨.op e7 f0 0, 31, 1, [.os c3 b6 0 1]⟩, ⟨.os c3 b6 0 1, 3, 1, [vi x1]⟩, ⟨.op b8 b9 0, 31, 1, [.os a7 a6 0 x0.length]⟩, ⟨.os a7 a6 0 x0.length, 3, 1, a3⟩] := b4
      refine nR ?_
      refine rd_op (v := .fn (.func 43) [] [.op b8 b9 0, .op e7 f0 0]) (ov_mkFunc rfl rfl) ?_
      refine mV rfl ?_
      refine nR ?_
      refine rd_op (ov_load0 (k := 2) b4 rfl rfl (mem_one (k := 3) b4 rfl rfl).2) ?_
      refine mV rfl ?_
      have b5 : 0 ≤ x1 := (by first | omega | first | (have hk := QI.at iv2_0 (i := x9_) (by omega) (by omega); omega) | (have hk := c4 (by assumption); omega) | (have hk := qi_pre iv3_0 iv3_1 (i := x9_) (by omega) (by omega); omega))
      have d0 : x1 < (a1.length : Int) := (by first | omega | first | (have hk := QI.at iv2_0 (i := x9_) (by omega) (by omega); omega) | (have hk := c4 (by assumption); omega) | (have hk := qi_pre iv3_0 iv3_1 (i := x9_) (by omega) (by omega); omega))
      refine rd_op (ov_iaddr rfl rfl (n_idx 1 b5 (by omega))) ?_
      refine rd_setO (k := 3) (v := vi 0) b4 rfl rfl rfl (by rw [All2.length_eq a2]; omega) rfl (fun g6 g1 => ?_)
      have g2 := All2.set (i := (x1).toNat) a2 (show tI.R 0 (vi 0) from rfl)
      have c6 : (a1.set (x1).toNat 0).length ≤ 4611686018427387904 := by simp only [List.length_set]; exact a0
      have e5 : (a1.set (x1).toNat 0).length = x0.length := by simp only [List.length_set]; exact a4
      refine nS ?_
      refine rc_seq ?_
      refine sR ?_
      refine mI rfl ?_
      refine nS ?_
      refine rc_block ?_
      refine wC (digraph_distances_L2_ok r0 hn a8 b2 a4 a0 c2 b3 c8 c5 c7 b5 d0 c6 e5 ?_  f6 rfl (.inr ⟨_, _, _, rfl⟩) c7 g2 rfl (.inr ⟨_, _, _, rfl⟩) c6 (by omega) (by first | omega | exact qi_new (by omega) (by assumption) (by omega) (by omega)) (by first | omega | exact qi_new (by omega) (by assumption) (by omega) (by omega)) (Mem.sub g1 (.cons_cons _ (.cons_cons _ (.cons_cons _ (.cons_cons _ .slnil))))) hres) rfl
      · intro d5 d4 d7 e0 d8 f1 e1 e3 d3 d9 b1 a5 d6 b0 g7 c9 hres
        refine px_blk ?_
        refine pn_seq ?_
        refine sR ?_
        refine rd_op (ov_load0 (k := 2) c9 rfl rfl (mem_one (k := 3) c9 rfl a5).2) ?_
        refine mV rfl ?_
        refine nS ?_
        obtain ⟨h0, f4, f2⟩ := own_sl (P := Try.prog) (k := 3) (t := tI) c9 rfl a5 b1 (Nat.le_trans b0 (by decide))
        subst hres
        exact rc_retV (.tmp rfl .nil) f4 f2

end Go.Proofs.Ytpdimhpjehfjeaa
