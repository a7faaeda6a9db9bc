/-
  The code of each function does what its plain program says.
-/
import Derived.Test.YtkgnjpoafilicaaL9W2
set_option linter.unusedVariables false
set_option linter.unusedSimpArgs false
set_option maxRecDepth 100000
namespace Go.Proofs.Ytkgnjpoafilicaa
open Go Go.Pb Go.RowKit
def RF21 (res : Int) (r : PV) : Prop := r = vi res
theorem ref20_Count_L1_ok {S : List Fr} {res : Int} {x0 : List api_ControlNode} {rec_ : (List api_ControlNode) → Int} {mu_ : Nat} {v0 : PV} (r0 : (tSl api_ControlNode.t).R x0 v0) (ihR : ∀ {z0 : List api_ControlNode} {b6 : PV} (c8 : (tSl api_ControlNode.t).R z0 b6), csl z0 < mu_ → FnR Try.prog 21 [b6] (vi (rec_ z0))) (hmu : mu_ = csl x0) {K0 : Int → Int}
    (c7 : ∀ {a3 : Int}, K0 a3 = res → PX Try.prog 0 S (QR Try.prog [(2, none)] (RF21 res)) [(3, vi a3)] ⟨0, []⟩) :
    ∀ {m : Nat} {a3 a0 : Int} (b5 : m = Int.toNat ((x0.length : Int) - a0)) (a5 : 0 ≤ a0), ref20_Count_L1 x0 rec_ K0 m a3 a0 = res → RC Try.prog (.loop ac21_L1) S (QR Try.prog [(2, none)] (RF21 res)) [(4, vi a0), (3, vi a3), (0, v0)] ⟨0, []⟩ := by
  intro m
  induction m with
  | zero =>
    intro a3 a0 b5 a5 hres
    rw [ref20_Count_L1] at hres
    refine rc_loop ?_
    refine rc_seq ?_
    refine sR ?_
    refine mV rfl ?_
    refine mV rfl ?_
    refine rd_op (ov_bi rfl (sl_len r0 Try.underlying28 _)) ?_
    refine bN i_lss rfl rfl ?_
    refine nS ?_
    refine rc_cond rfl ?_ ?_ <;> intro c <;> try simp only [qa, qaD] at c
    · omega
    refine rc_exit ?_
    refine px_seq ?_
    refine px_again ?_
    exact wP (c7  hres) rfl
  | succ m ih =>
    intro a3 a0 b5 a5 hres
    rw [ref20_Count_L1] at hres
    refine rc_loop ?_
    refine rc_seq ?_
    refine sR ?_
    refine mV rfl ?_
    refine mV rfl ?_
    refine rd_op (ov_bi rfl (sl_len r0 Try.underlying28 _)) ?_
    refine bN i_lss rfl rfl ?_
    refine nS ?_
    refine rc_cond rfl ?_ ?_ <;> intro c <;> try simp only [qa, qaD] at c
    rotate_left
    · omega
    refine rc_skip ?_
    refine pn_seq ?_
    refine rc_seq ?_
    refine rc_block ?_
    refine rc_region ?_
    refine mV rfl ?_
    refine mV rfl ?_
    refine mV rfl ?_
    obtain ⟨c6, b4, a9⟩ := sl_idx (i := a0) r0 (by omega) (by omega)
    refine rd_op (ov_iaddr rfl rfl b4) ?_
    obtain ⟨b9, b1, a1⟩ := api_ControlNode.g_Then a9
    refine fA rfl b1 ?_
    refine lD a1 rfl rfl rfl ?_
    obtain ⟨c5, a4, hres⟩ := let_ex hres
    have a8 := ihR (z0 := (ix x0 a0).Then) a1  (by (have hk := csl_ix (l := x0) (by omega) (by omega); omega))
    rw [a4] at a8
    refine cL a8 rfl rfl (clL_cons (TR.clo (tSl api_ControlNode.t) a1) clL_nil) ?_
    refine bN i_add rfl rfl ?_
    refine mV rfl ?_
    refine mV rfl ?_
    obtain ⟨b7, b0, b3⟩ := sl_idx (i := a0) r0 (by omega) (by omega)
    refine rd_op (ov_iaddr rfl rfl b0) ?_
    obtain ⟨b8, b2, a2⟩ := api_ControlNode.g_Else b3
    refine fA rfl b2 ?_
    refine lD a2 rfl rfl rfl ?_
    obtain ⟨c4, a6, hres⟩ := let_ex hres
    have a7 := ihR (z0 := (ix x0 a0).Else) a2  (by (have hk := csl_ix (l := x0) (by omega) (by omega); omega))
    rw [a6] at a7
    refine cL a7 rfl rfl (clL_cons (TR.clo (tSl api_ControlNode.t) a2) clL_nil) ?_
    refine bN i_add rfl rfl ?_
    refine bN i_add rfl rfl ?_
    refine mV rfl ?_
    refine rd_nil ?_
    refine pn_blk ?_
    refine pn_seq ?_
    refine rc_region ?_
    refine mV rfl ?_
    refine bN i_add rfl rfl ?_
    refine mV rfl ?_
    refine rd_nil ?_
    refine pn_again ?_
    have hbd := sl_bound r0
    have hinc : wr (a0 + 1) = a0 + 1 := wr_of (by omega) (by omega)
    erw [hinc]
    exact wC (ih   (by omega) (by omega) hres) rfl

theorem f21_okB {rec_ : (List api_ControlNode) → Int} {mu_ : Nat} {x0 : List api_ControlNode} {v0 : PV} (r0 : (tSl api_ControlNode.t).R x0 v0) (hmu : mu_ = csl x0) (ihR : ∀ {z0 : List api_ControlNode} {a1 : PV} (a2 : (tSl api_ControlNode.t).R z0 a1), csl z0 < mu_ → FnR Try.prog 21 [a1] (vi (rec_ z0))) : FnR Try.prog 21 [v0] (vi (ref20_Count_B rec_ x0)) := by
  refine fnS (R := RF21) text21 (fun _ h => h) rfl fun res hres => ?_
  unfold ref20_Count_B at hres
  refine sR ?_
  refine mI rfl ?_
  refine nR ?_
  refine mI rfl ?_
  refine nS ?_
  refine rc_seq ?_
  refine sR ?_
  refine mI rfl ?_
  refine nS ?_
  refine rc_block ?_
  refine wC (ref20_Count_L1_ok r0 ihR hmu ?_  rfl (by omega) hres) rfl
  · intro a0 hres
    refine px_blk ?_
    refine pn_seq ?_
    refine sR ?_
    refine mV rfl ?_
    refine mV rfl ?_
    refine nS ?_
    exact rR hres rfl rfl rfl
theorem f21_okR : ∀ (n_ : Nat) {x0 : List api_ControlNode} {v0 : PV} (r0 : (tSl api_ControlNode.t).R x0 v0), csl x0 < n_ → FnR Try.prog 21 [v0] (vi (ref20_Count_R n_ x0)) := by
  intro n_
  induction n_ with
  | zero => intros; rename_i hlt; exact absurd hlt (Nat.not_lt_zero _)
  | succ n_ ihn =>
    intro x0 v0 r0 hlt
    have e_ : ref20_Count_R (n_ + 1) x0 = ref20_Count_B (ref20_Count_R n_) x0 := by rw [ref20_Count_R]
    rw [e_]
    exact f21_okB r0 rfl (fun {z0} {zv0} zr0 hz => ihn zr0 (by omega))
theorem f21_ok {x0 : List api_ControlNode} {v0 : PV} (r0 : (tSl api_ControlNode.t).R x0 v0) : FnR Try.prog 21 [v0] (vi (ref20_Count x0)) := f21_okR _ r0 (Nat.lt_succ_self _)

def RF23 (res : Int) (r : PV) : Prop := r = vi res
theorem ref20_Nesting_L1_ok {S : List Fr} {res : Int} {x0 : List api_ControlNode} {rec_ : (List api_ControlNode) → Int} {mu_ : Nat} {v0 : PV} (r0 : (tSl api_ControlNode.t).R x0 v0) (ihR : ∀ {z0 : List api_ControlNode} {b4 : PV} (c6 : (tSl api_ControlNode.t).R z0 b4), csl z0 < mu_ → FnR Try.prog 23 [b4] (vi (rec_ z0))) (hmu : mu_ = csl x0) {K0 : Int → Int}
    (c5 : ∀ {a1 : Int}, K0 a1 = res → PX Try.prog 0 S (QR Try.prog [(2, none)] (RF23 res)) [(3, vi a1)] ⟨0, []⟩) :
    ∀ {m : Nat} {a1 a0 : Int} (b3 : m = Int.toNat ((x0.length : Int) - a0)) (a5 : 0 ≤ a0), ref20_Nesting_L1 x0 rec_ K0 m a1 a0 = res → RC Try.prog (.loop ac23_L1) S (QR Try.prog [(2, none)] (RF23 res)) [(4, vi a0), (3, vi a1), (0, v0)] ⟨0, []⟩ := by
  intro m
  induction m with
  | zero =>
    intro a1 a0 b3 a5 hres
    rw [ref20_Nesting_L1] at hres
    refine rc_loop ?_
    refine rc_seq ?_
    refine sR ?_
    refine mV rfl ?_
    refine mV rfl ?_
    refine rd_op (ov_bi rfl (sl_len r0 Try.underlying28 _)) ?_
    refine bN i_lss rfl rfl ?_
    refine nS ?_
    refine rc_cond rfl ?_ ?_ <;> intro c <;> try simp only [qa, qaD] at c
    · omega
    refine rc_exit ?_
    refine px_seq ?_
    refine px_again ?_
    exact wP (c5  hres) rfl
  | succ m ih =>
    intro a1 a0 b3 a5 hres
    rw [ref20_Nesting_L1] at hres
    refine rc_loop ?_
    refine rc_seq ?_
    refine sR ?_
    refine mV rfl ?_
    refine mV rfl ?_
    refine rd_op (ov_bi rfl (sl_len r0 Try.underlying28 _)) ?_
    refine bN i_lss rfl rfl ?_
    refine nS ?_
    refine rc_cond rfl ?_ ?_ <;> intro c <;> try simp only [qa, qaD] at c
    rotate_left
    · omega
    refine rc_skip ?_
    refine pn_seq ?_
    refine rc_seq ?_
    refine rc_block ?_
    refine rc_region ?_
    refine mV rfl ?_
    refine mV rfl ?_
    refine mV rfl ?_
    obtain ⟨c4, b2, a9⟩ := sl_idx (i := a0) r0 (by omega) (by omega)
    refine rd_op (ov_iaddr rfl rfl b2) ?_
    refine gL (api_ControlNode.g_Then a9) rfl rfl rfl fun b7 a2 => ?_
    obtain ⟨b9, a4, hres⟩ := let_ex hres
    have a8 := ihR (z0 := (ix x0 a0).Then) a2  (by (have hk := csl_ix (l := x0) (by omega) (by omega); omega))
    rw [a4] at a8
    refine cL a8 rfl rfl (clL_cons (TR.clo (tSl api_ControlNode.t) a2) clL_nil) ?_
    refine bN i_add rfl rfl ?_
    refine mV rfl ?_
    refine mV rfl ?_
    obtain ⟨b5, b0, b1⟩ := sl_idx (i := a0) r0 (by omega) (by omega)
    refine rd_op (ov_iaddr rfl rfl b0) ?_
    refine gL (api_ControlNode.g_Else b1) rfl rfl rfl fun b6 a3 => ?_
    obtain ⟨b8, a6, hres⟩ := let_ex hres
    have a7 := ihR (z0 := (ix x0 a0).Else) a3  (by (have hk := csl_ix (l := x0) (by omega) (by omega); omega))
    rw [a6] at a7
    refine cL a7 rfl rfl (clL_cons (TR.clo (tSl api_ControlNode.t) a3) clL_nil) ?_
    refine bN i_add rfl rfl ?_
    refine rd_op (ov_bi rfl (max_int3 _ _)) ?_
    refine mV rfl ?_
    refine rd_nil ?_
    refine pn_blk ?_
    refine pn_seq ?_
    refine rc_region ?_
    refine mV rfl ?_
    refine bN i_add rfl rfl ?_
    refine mV rfl ?_
    refine rd_nil ?_
    refine pn_again ?_
    have hbd := sl_bound r0
    have hinc : wr (a0 + 1) = a0 + 1 := wr_of (by omega) (by omega)
    erw [hinc]
    exact wC (ih   (by omega) (by omega) hres) rfl

theorem f23_okB {rec_ : (List api_ControlNode) → Int} {mu_ : Nat} {x0 : List api_ControlNode} {v0 : PV} (r0 : (tSl api_ControlNode.t).R x0 v0) (hmu : mu_ = csl x0) (ihR : ∀ {z0 : List api_ControlNode} {a1 : PV} (a2 : (tSl api_ControlNode.t).R z0 a1), csl z0 < mu_ → FnR Try.prog 23 [a1] (vi (rec_ z0))) : FnR Try.prog 23 [v0] (vi (ref20_Nesting_B rec_ x0)) := by
  refine fnS (R := RF23) text23 (fun _ h => h) rfl fun res hres => ?_
  unfold ref20_Nesting_B at hres
  refine sR ?_
  refine mI rfl ?_
  refine nR ?_
  refine mI rfl ?_
  refine nS ?_
  refine rc_seq ?_
  refine sR ?_
  refine mI rfl ?_
  refine nS ?_
  refine rc_block ?_
  refine wC (ref20_Nesting_L1_ok r0 ihR hmu ?_  rfl (by omega) hres) rfl
  · intro a0 hres
    refine px_blk ?_
    refine pn_seq ?_
    refine sR ?_
    refine mV rfl ?_
    refine mV rfl ?_
    refine nS ?_
    exact rR hres rfl rfl rfl
theorem f23_okR : ∀ (n_ : Nat) {x0 : List api_ControlNode} {v0 : PV} (r0 : (tSl api_ControlNode.t).R x0 v0), csl x0 < n_ → FnR Try.prog 23 [v0] (vi (ref20_Nesting_R n_ x0)) := by
  intro n_
  induction n_ with
  | zero => intros; rename_i hlt; exact absurd hlt (Nat.not_lt_zero _)
  | succ n_ ihn =>
    intro x0 v0 r0 hlt
    have e_ : ref20_Nesting_R (n_ + 1) x0 = ref20_Nesting_B (ref20_Nesting_R n_) x0 := by rw [ref20_Nesting_R]
    rw [e_]
    exact f23_okB r0 rfl (fun {z0} {zv0} zr0 hz => ihn zr0 (by omega))
theorem f23_ok {x0 : List api_ControlNode} {v0 : PV} (r0 : (tSl api_ControlNode.t).R x0 v0) : FnR Try.prog 23 [v0] (vi (ref20_Nesting x0)) := f23_okR _ r0 (Nat.lt_succ_self _)

def RF52 (res : (List api_ControlNode)) (r : PV) : Prop := (tSl api_ControlNode.t).R res r
theorem ref20_Preorder_L1_ok {S : List Fr} {res : (List api_ControlNode)} {x0 : List api_ControlNode} {rec_ : (List api_ControlNode) → (List api_ControlNode)} {mu_ : Nat} {v0 : PV} (r0 : (tSl api_ControlNode.t).R x0 v0) (hs : csl x0 ≤ 1000) (ihR : ∀ {z0 : List api_ControlNode} {g4 : PV} (h6 : (tSl api_ControlNode.t).R z0 g4) (hs : csl z0 ≤ 1000), csl z0 < mu_ → ∃ r, FnR Try.prog 52 [g4] r ∧ (tSl api_ControlNode.t).R (rec_ z0) r) (hmu : mu_ = csl x0) (hrec : ∀ z, (rec_ z).length ≤ csl z) {K0 : (List api_ControlNode) → (List api_ControlNode)}
    (h5 : ∀ {a1 : List api_ControlNode} {a0 : List PV} {a2 : PV} (a6 : All2 api_ControlNode.t.R a1 a0) (a9 : isL a2 = true) (a5 : Wri a2 a0) (a8 : a1.length ≤ 4611686018427387904) {h : Heap} (M0 : Mem h [⟨a2, 40, 5, a0⟩]), K0 a1 = res → PX Try.prog 0 S (QR Try.prog [(2, none)] (RF52 res)) [(3, a2)] h) :
    ∀ {m : Nat} {a4 : Int} {a1 : List api_ControlNode} {a0 : List PV} {a2 : PV} (a6 : All2 api_ControlNode.t.R a1 a0) (a9 : isL a2 = true) (a5 : Wri a2 a0) (a8 : a1.length ≤ 4611686018427387904) (g2 : m = Int.toNat ((x0.length : Int) - a4)) (d5 : 0 ≤ a4) (b6 : a1.length + csl (x0.drop a4.toNat) ≤ csl x0) {h : Heap} (M0 : Mem h [⟨a2, 40, 5, a0⟩]), ref20_Preorder_L1 x0 rec_ K0 m a4 a1 = res → RC Try.prog (.loop ac52_L1) S (QR Try.prog [(2, none)] (RF52 res)) [(4, vi a4), (3, a2), (0, v0)] h := by
  intro m
  induction m with
  | zero =>
    intro a4 a1 a0 a2 a6 a9 a5 a8 g2 d5 b6 h M0 hres
    rw [ref20_Preorder_L1] at hres
    refine rc_loop ?_
    refine rc_seq ?_
    refine sR ?_
    refine mV rfl ?_
    refine mV rfl ?_
    refine rd_op (ov_bi rfl (sl_len r0 Try.underlying28 _)) ?_
    refine bN i_lss rfl rfl ?_
    refine nS ?_
    refine rc_cond rfl ?_ ?_ <;> intro c <;> try simp only [qa, qaD] at c
    · omega
    refine rc_exit ?_
    refine px_seq ?_
    refine px_again ?_
    exact wP (h5 a6 a9 a5 a8 (Mem.sub M0 (.cons_cons _ .slnil)) hres) rfl
  | succ m ih =>
    intro a4 a1 a0 a2 a6 a9 a5 a8 g2 d5 b6 h M0 hres
    rw [ref20_Preorder_L1] at hres
    refine rc_loop ?_
    refine rc_seq ?_
    refine sR ?_
    refine mV rfl ?_
    refine mV rfl ?_
    refine rd_op (ov_bi rfl (sl_len r0 Try.underlying28 _)) ?_
    refine bN i_lss rfl rfl ?_
    refine nS ?_
    refine rc_cond rfl ?_ ?_ <;> intro c <;> try simp only [qa, qaD] at c
    rotate_left
    · omega
    refine rc_skip ?_
    refine pn_seq ?_
    refine rc_seq ?_
    refine rc_block ?_
    refine sR ?_
    refine mV rfl ?_
    refine mV rfl ?_
    refine mV rfl ?_
    obtain ⟨e2, f8, b8⟩ := sl_idx (i := a4) r0 (by omega) (by omega)
    refine rd_op (ov_iaddr rfl rfl f8) ?_
    refine lD b8 rfl rfl rfl ?_
    refine rd_op (v := .fs true [e2]) (ov_bslice rfl (all_cons (TR.cnt api_ControlNode.t b8) all_nil)) ?_
    have e5 : (tSl api_ControlNode.t).R ([(ix x0 a4)] : List api_ControlNode) (.fs true [e2]) := sl_fs ⟨b8, trivial⟩ (by simp)
    obtain ⟨a3, c9, b4⟩ := src_of (t := api_ControlNode.t) (h := h) e5
    have d7 : fits (a0.length + a3.length) 88 = true := by rw [All2.length_eq a6, All2.length_eq b4]; (try simp only [List.length_cons, List.length_nil]); exact fits_of (by first | omega | (have hk := csl_drop (l := x0) (i := a4) (by omega) (by omega); simp only [List.length_append, List.length_cons, List.length_nil]; omega)) (by first | omega | (have hk := csl_drop (l := x0) (i := a4) (by omega) (by omega); simp only [List.length_append, List.length_cons, List.length_nil]; omega))
    refine rd_appW (k := 0) (es := a0) (news := a3) M0 rfl rfl rfl a9 a5 c9 d7 (fun g6 f6 f0 e1 f3 => ?_)
    have c4 : All2 api_ControlNode.t.R (a1 ++ ([(ix x0 a4)] : List api_ControlNode)) (a0 ++ a3) := All2.app a6 b4
    have g1 : (a1 ++ ([(ix x0 a4)] : List api_ControlNode)).length ≤ 4611686018427387904 := by rw [← All2.length_eq c4, List.length_append]; exact fits_len d7
    refine mV rfl ?_
    refine nR ?_
    refine mV rfl ?_
    refine mV rfl ?_
    refine mV rfl ?_
    obtain ⟨h1, e6, e3⟩ := sl_idx (i := a4) r0 (by omega) (by omega)
    refine rd_op (ov_iaddr rfl rfl e6) ?_
    refine gL (api_ControlNode.g_Then e3) rfl rfl rfl fun g5 d4 => ?_
    obtain ⟨b1, b5, hres⟩ := let_ex hres
    obtain ⟨g9, e7, c8⟩ := ihR (z0 := (ix x0 a4).Then) d4 (by (have hk := csl_ix (l := x0) (by omega) (by omega); omega)) (by (have hk := csl_ix (l := x0) (by omega) (by omega); omega))
    rw [b5] at c8
    have g3 := lenle hrec b5
    refine cL e7 rfl rfl (clL_cons (TR.clo (tSl api_ControlNode.t) d4) clL_nil) ?_
    obtain ⟨a7, e0, b2⟩ := src_of (t := api_ControlNode.t) (h := f6) c8
    have d0 : fits ((a0 ++ a3).length + a7.length) 88 = true := by rw [All2.length_eq c4, All2.length_eq b2]; (try simp only [List.length_cons, List.length_nil]); exact fits_of (by first | omega | (have hk := csl_drop (l := x0) (i := a4) (by omega) (by omega); simp only [List.length_append, List.length_cons, List.length_nil]; omega)) (by first | omega | (have hk := csl_drop (l := x0) (i := a4) (by omega) (by omega); simp only [List.length_append, List.length_cons, List.length_nil]; omega))
    refine rd_appW (k := 0) (es := (a0 ++ a3)) (news := a7) f3 rfl rfl rfl f0 e1 e0 d0 (fun g7 e8 e4 d2 f7 => ?_)
    have b9 : All2 api_ControlNode.t.R ((a1 ++ ([(ix x0 a4)] : List api_ControlNode)) ++ b1) ((a0 ++ a3) ++ a7) := All2.app c4 b2
    have g0 : ((a1 ++ ([(ix x0 a4)] : List api_ControlNode)) ++ b1).length ≤ 4611686018427387904 := by rw [← All2.length_eq b9, List.length_append]; exact fits_len d0
    refine mV rfl ?_
    refine nS ?_
    refine rc_region ?_
    refine mV rfl ?_
    refine mV rfl ?_
    refine mV rfl ?_
    obtain ⟨h4, e9, f2⟩ := sl_idx (i := a4) r0 (by omega) (by omega)
    refine rd_op (ov_iaddr rfl rfl e9) ?_
    refine gL (api_ControlNode.g_Else f2) rfl rfl rfl fun h0 d1 => ?_
    obtain ⟨d6, b3, hres⟩ := let_ex hres
    obtain ⟨g8, f4, c6⟩ := ihR (z0 := (ix x0 a4).Else) d1 (by (have hk := csl_ix (l := x0) (by omega) (by omega); omega)) (by (have hk := csl_ix (l := x0) (by omega) (by omega); omega))
    rw [b3] at c6
    have f9 := lenle hrec b3
    refine cL f4 rfl rfl (clL_cons (TR.clo (tSl api_ControlNode.t) d1) clL_nil) ?_
    obtain ⟨b0, d8, b7⟩ := src_of (t := api_ControlNode.t) (h := e8) c6
    have d9 : fits (((a0 ++ a3) ++ a7).length + b0.length) 88 = true := by rw [All2.length_eq b9, All2.length_eq b7]; (try simp only [List.length_cons, List.length_nil]); exact fits_of (by first | omega | (have hk := csl_drop (l := x0) (i := a4) (by omega) (by omega); simp only [List.length_append, List.length_cons, List.length_nil]; omega)) (by first | omega | (have hk := csl_drop (l := x0) (i := a4) (by omega) (by omega); simp only [List.length_append, List.length_cons, List.length_nil]; omega))
    refine rd_appW (k := 0) (es := ((a0 ++ a3) ++ a7)) (news := b0) f7 rfl rfl rfl e4 d2 d8 d9 (fun h3 h2 f5 d3 f1 => ?_)
    have c5 : All2 api_ControlNode.t.R (((a1 ++ ([(ix x0 a4)] : List api_ControlNode)) ++ b1) ++ d6) (((a0 ++ a3) ++ a7) ++ b0) := All2.app b9 b7
    have c7 : (((a1 ++ ([(ix x0 a4)] : List api_ControlNode)) ++ b1) ++ d6).length ≤ 4611686018427387904 := by rw [← All2.length_eq c5, List.length_append]; exact fits_len d9
    refine mV rfl ?_
    refine rd_nil ?_
    refine pn_blk ?_
    refine pn_seq ?_
    refine rc_region ?_
    refine mV rfl ?_
    refine bN i_add rfl rfl ?_
    refine mV rfl ?_
    refine rd_nil ?_
    refine pn_again ?_
    have hbd := sl_bound r0
    have hinc : wr (a4 + 1) = a4 + 1 := wr_of (by omega) (by omega)
    erw [hinc]
    exact wC (ih  c5 f5 d3 c7 (by omega) (by omega) (by (have hk := csl_drop (l := x0) (i := a4) (by omega) (by omega); simp only [List.length_append, List.length_cons, List.length_nil]; omega)) (Mem.sub f1 (.cons_cons _ .slnil)) hres) rfl

theorem f52_okB {rec_ : (List api_ControlNode) → (List api_ControlNode)} {mu_ : Nat} {x0 : List api_ControlNode} {v0 : PV} (r0 : (tSl api_ControlNode.t).R x0 v0) (hs : csl x0 ≤ 1000) (hmu : mu_ = csl x0) (hrec : ∀ z, (rec_ z).length ≤ csl z) (ihR : ∀ {z0 : List api_ControlNode} {b1 : PV} (b4 : (tSl api_ControlNode.t).R z0 b1) (hs : csl z0 ≤ 1000), csl z0 < mu_ → ∃ r, FnR Try.prog 52 [b1] r ∧ (tSl api_ControlNode.t).R (rec_ z0) r) : ∃ r, FnR Try.prog 52 [v0] r ∧ (tSl api_ControlNode.t).R (ref20_Preorder_B rec_ x0) r := by
  refine fnT (R := RF52) text52 rfl fun res hres => ?_
  unfold ref20_Preorder_B at hres
  refine sR ?_
  refine rd_op (v := nilS) (ov_move rfl) ?_
  refine nR ?_
  refine rd_op (v := nilS) (ov_move rfl) ?_
  refine nS ?_
  refine rc_seq ?_
  refine sR ?_
  refine mI rfl ?_
  refine nS ?_
  refine rc_block ?_
  have a7 := mem_acc (sz := 5) (es := []) (Mem.nil ⟨0, []⟩) 40 (.inl ⟨none, rfl, rfl⟩) (by simp)
  refine wC (ref20_Preorder_L1_ok r0 hs ihR hmu hrec ?_  aL rfl (.inl rfl) (by first | decide | simp) rfl (by omega) (by simp) (Mem.sub a7 (.cons_cons _ .slnil)) hres) rfl
  · intro a5 a3 a6 a1 a2 a4 a0 b3 b0 hres
    refine px_blk ?_
    refine pn_seq ?_
    refine sR ?_
    refine mV rfl ?_
    refine mV rfl ?_
    refine nS ?_
    obtain ⟨b2, a9, a8⟩ := own_sl (P := Try.prog) (k := 0) (t := api_ControlNode.t) b0 rfl a2 a1 (Nat.le_trans a0 (by decide))
    subst hres
    exact rc_retV (.tmp rfl .nil) a9 a8
theorem f52_okR : ∀ (n_ : Nat) {x0 : List api_ControlNode} {v0 : PV} (r0 : (tSl api_ControlNode.t).R x0 v0) (hs : csl x0 ≤ 1000), csl x0 < n_ → ∃ r, FnR Try.prog 52 [v0] r ∧ (tSl api_ControlNode.t).R (ref20_Preorder_R n_ x0) r := by
  intro n_
  induction n_ with
  | zero => intros; rename_i hlt; exact absurd hlt (Nat.not_lt_zero _)
  | succ n_ ihn =>
    intro x0 v0 r0 hs hlt
    have e_ : ref20_Preorder_R (n_ + 1) x0 = ref20_Preorder_B (ref20_Preorder_R n_) x0 := by rw [ref20_Preorder_R]
    rw [e_]
    exact f52_okB r0 hs rfl (preorder_len n_) (fun {z0} {zv0} zr0 hs hz => ihn zr0 hs (by omega))
theorem f52_ok {x0 : List api_ControlNode} {v0 : PV} (r0 : (tSl api_ControlNode.t).R x0 v0) (hs : csl x0 ≤ 1000) : ∃ r, FnR Try.prog 52 [v0] r ∧ (tSl api_ControlNode.t).R (ref20_Preorder x0) r := f52_okR _ r0 hs (Nat.lt_succ_self _)

def RF89 (res : Int) (r : PV) : Prop := r = vi res
theorem f89_ok {x0 : Int} : FnR Try.prog 89 [vi x0] (vi (ref13_Arity x0)) := by
  refine fnS (R := RF89) text89 (fun _ h => h) rfl fun res hres => ?_
  unfold ref13_Arity at hres
  refine sR ?_
  refine mI rfl ?_
  refine nS ?_
  refine rc_seq ?_
  refine rc_block ?_
  refine sR ?_
  refine mV rfl ?_
  refine bN i_geq rfl rfl ?_
  refine mV rfl ?_
  refine rd_cutn 3 (d := 9) (v := vb ((decide (1 ≤ x0)) && (decide (x0 ≤ 4)))) ?_ ?_
  · intro S Q r
    cases a4 : (decide (1 ≤ x0))
    · exact gN 2 rfl rfl rfl rfl rfl rfl
    · intro k
      have a0 := a4
      try simp only [qa, qaD] at a0
      refine rd_yes rfl rfl (ov_move rfl) ?_
      refine rd_yes rfl rfl (ov_bin rfl rfl i_leq) ?_
      exact gK rfl rfl rfl rfl rfl k
  refine mV rfl ?_
  refine nS ?_
  refine rc_br hres rfl ?_ ?_ <;> clear hres <;> intro c hres <;> try simp only [qa, qaD] at c
  · refine sR ?_
    refine mI rfl ?_
    refine nS ?_
    exact rR hres rfl rfl rfl
  · refine sR ?_
    refine mV rfl ?_
    refine bN i_geq rfl rfl ?_
    refine mV rfl ?_
    refine rd_cutn 3 (d := 16) (v := vb ((decide (5 ≤ x0)) && (decide (x0 ≤ 8)))) ?_ ?_
    · intro S Q r
      cases a3 : (decide (5 ≤ x0))
      · exact gN 2 rfl rfl rfl rfl rfl rfl
      · intro k
        have a1 := a3
        try simp only [qa, qaD] at a1
        refine rd_yes rfl rfl (ov_move rfl) ?_
        refine rd_yes rfl rfl (ov_bin rfl rfl i_leq) ?_
        exact gK rfl rfl rfl rfl rfl k
    refine mV rfl ?_
    refine nS ?_
    refine rc_br hres rfl ?_ ?_ <;> clear hres <;> intro c hres <;> try simp only [qa, qaD] at c
    · refine sR ?_
      refine mI rfl ?_
      refine nS ?_
      exact rR hres rfl rfl rfl
    · refine sR ?_
      refine mV rfl ?_
      refine bN i_geq rfl rfl ?_
      refine mV rfl ?_
      refine rd_cutn 3 (d := 23) (v := vb ((decide (9 ≤ x0)) && (decide (x0 ≤ 16)))) ?_ ?_
      · intro S Q r
        cases a5 : (decide (9 ≤ x0))
        · exact gN 2 rfl rfl rfl rfl rfl rfl
        · intro k
          have a2 := a5
          try simp only [qa, qaD] at a2
          refine rd_yes rfl rfl (ov_move rfl) ?_
          refine rd_yes rfl rfl (ov_bin rfl rfl i_leq) ?_
          exact gK rfl rfl rfl rfl rfl k
      refine mV rfl ?_
      refine nS ?_
      refine rc_br hres rfl ?_ ?_ <;> clear hres <;> intro c hres <;> try simp only [qa, qaD] at c
      · refine sR ?_
        refine mI rfl ?_
        refine nS ?_
        exact rR hres rfl rfl rfl
      · refine sR ?_
        refine mV rfl ?_
        refine bN i_eql rfl rfl ?_
        refine mV rfl ?_
        refine nS ?_
        refine rc_br hres rfl ?_ ?_ <;> clear hres <;> intro c hres <;> try simp only [qa, qaD] at c
        · refine sR ?_
          refine mI rfl ?_
          refine nS ?_
          exact rR hres rfl rfl rfl
        · refine rc_skip ?_
          refine pn_blk ?_
          refine pn_seq ?_
          refine sR ?_
          refine mI rfl ?_
          refine nS ?_
          exact rR hres rfl rfl rfl

def RF95 (res : Int × Int) (r : PV) : Prop := r = .tup [vi res.1, vi res.2]
theorem f95_ok {x0 : Int} : FnR Try.prog 95 [vi x0] (.tup [vi ((ref13_wide x0).1), vi ((ref13_wide x0).2)]) := by
  refine fnS (R := RF95) text95 (fun _ h => h) rfl fun res hres => ?_
  unfold ref13_wide at hres
  refine sR ?_
  refine mI rfl ?_
  refine mI rfl ?_
  refine nS ?_
  refine rc_seq ?_
  refine sR ?_
  refine mV rfl ?_
  refine bN i_lss rfl rfl ?_
  refine mV rfl ?_
  refine rd_cutn 3 (d := 9) (v := vb ((decide (x0 < 1)) || (decide (32 < x0)))) ?_ ?_
  · intro S Q r
    cases a1 : (decide (x0 < 1))
    · intro k
      have a0 := a1
      try simp only [qa, qaD] at a0
      refine rd_yes rfl rfl (ov_move rfl) ?_
      refine rd_yes rfl rfl (ov_bin rfl rfl i_gtr) ?_
      exact gK rfl rfl rfl rfl rfl k
    · exact gN 2 rfl rfl rfl rfl rfl rfl
  refine nS ?_
  refine rc_br hres rfl ?_ ?_ <;> clear hres <;> intro c hres <;> try simp only [qa, qaD] at c
  · refine sR ?_
    refine mI rfl ?_
    refine mI rfl ?_
    refine nS ?_
    exact rT hres rfl rfl rfl rfl rfl
  · refine rc_skip ?_
    refine pn_seq ?_
    refine sR ?_
    refine mV rfl ?_
    refine mV rfl ?_
    refine mI rfl ?_
    refine nS ?_
    exact rT hres rfl rfl rfl rfl rfl

def RF99 (res : Bool) (r : PV) : Prop := r = vb res
theorem f99_ok {x0 : Int} : FnR Try.prog 99 [vi x0] (vb (ref01_valid x0)) := by
  refine fnS (R := RF99) text99 (fun _ h => h) rfl fun res hres => ?_
  unfold ref01_valid at hres
  refine sR ?_
  refine mB rfl ?_
  refine nR ?_
  refine mV rfl ?_
  refine bN i_geq rfl rfl ?_
  refine mV rfl ?_
  refine rd_cutn 3 (d := 8) (v := vb ((decide (1 ≤ x0)) && (decide (x0 ≤ 32)))) ?_ ?_
  · intro S Q r
    cases a1 : (decide (1 ≤ x0))
    · exact gN 2 rfl rfl rfl rfl rfl rfl
    · intro k
      have a0 := a1
      try simp only [qa, qaD] at a0
      refine rd_yes rfl rfl (ov_move rfl) ?_
      refine rd_yes rfl rfl (ov_bin rfl rfl i_leq) ?_
      exact gK rfl rfl rfl rfl rfl k
  refine mV rfl ?_
  refine nS ?_
  exact rR hres rfl rfl rfl

def RF100 (res : (BitVec 64)) (r : PV) : Prop := r = vu64 res
theorem ref01_power_L1_ok {S : List Fr} {res : (BitVec 64)} {x0 : Int} (hp : x0 ≤ 64) {K0 : (BitVec 64) → (BitVec 64)}
    (a4 : ∀ {a1 : BitVec 64}, K0 a1 = res → PX Try.prog 0 S (QR Try.prog [(2, none)] (RF100 res)) [(3, vu64 a1)] ⟨0, []⟩) :
    ∀ {m : Nat} {a1 : BitVec 64} {a0 : Int} (a3 : m = Int.toNat (x0 - a0)) (a2 : 0 ≤ a0), ref01_power_L1 K0 m a1 a0 = res → RC Try.prog (.loop ac100_L1) S (QR Try.prog [(2, none)] (RF100 res)) [(4, vi a0), (3, vu64 a1), (0, vi x0)] ⟨0, []⟩ := by
  intro m
  induction m with
  | zero =>
    intro a1 a0 a3 a2 hres
    rw [ref01_power_L1] at hres
    refine rc_loop ?_
    refine rc_seq ?_
    refine sR ?_
    refine mV rfl ?_
    refine mV rfl ?_
    refine bN i_lss rfl rfl ?_
    refine nS ?_
    refine rc_cond rfl ?_ ?_ <;> intro c <;> try simp only [qa, qaD] at c
    · omega
    refine rc_exit ?_
    refine px_seq ?_
    refine px_again ?_
    exact wP (a4  hres) rfl
  | succ m ih =>
    intro a1 a0 a3 a2 hres
    rw [ref01_power_L1] at hres
    refine rc_loop ?_
    refine rc_seq ?_
    refine sR ?_
    refine mV rfl ?_
    refine mV rfl ?_
    refine bN i_lss rfl rfl ?_
    refine nS ?_
    refine rc_cond rfl ?_ ?_ <;> intro c <;> try simp only [qa, qaD] at c
    rotate_left
    · omega
    refine rc_skip ?_
    refine pn_seq ?_
    refine rc_seq ?_
    refine rc_block ?_
    refine rc_region ?_
    refine mV rfl ?_
    refine rd_op (ov_bin (a := vu64 2#64) (b := vu64 a1) rfl rfl d_mul) ?_
    refine mV rfl ?_
    refine rd_nil ?_
    refine pn_blk ?_
    refine pn_seq ?_
    refine rc_region ?_
    refine mV rfl ?_
    refine bN i_add rfl rfl ?_
    refine mV rfl ?_
    refine rd_nil ?_
    refine pn_again ?_
    have hinc : wr (a0 + 1) = a0 + 1 := wr_of (by omega) (by omega)
    erw [hinc]
    exact wC (ih   (by omega) (by omega) hres) rfl

theorem f100_ok {x0 : Int} (hp : x0 ≤ 64) : FnR Try.prog 100 [vi x0] (vu64 (ref01_power x0)) := by
  refine fnS (R := RF100) text100 (fun _ h => h) rfl fun res hres => ?_
  unfold ref01_power at hres
  refine sR ?_
  refine rd_op (v := vu64 0#64) (ov_move rfl) ?_
  refine nR ?_
  refine rd_op (v := vu64 1#64) (ov_move rfl) ?_
  refine nS ?_
  refine rc_seq ?_
  refine sR ?_
  refine mI rfl ?_
  refine nS ?_
  refine rc_block ?_
  refine wC (ref01_power_L1_ok hp ?_  rfl (by omega) hres) rfl
  · intro a0 hres
    refine px_blk ?_
    refine pn_seq ?_
    refine sR ?_
    refine mV rfl ?_
    refine mV rfl ?_
    refine nS ?_
    exact rR hres rfl rfl rfl

def RF96 (res : (BitVec 32)) (r : PV) : Prop := r = vu32 res
theorem f96_ok {x0 : Int} : FnR Try.prog 96 [vi x0] (vu32 (ref01_Mask x0)) := by
  refine fnS (R := RF96) text96 (fun _ h => h) rfl fun res hres => ?_
  unfold ref01_Mask at hres
  refine sR ?_
  refine rd_op (v := vu32 0#32) (ov_move rfl) ?_
  refine nS ?_
  refine rc_seq ?_
  refine sR ?_
  refine mV rfl ?_
  obtain ⟨a5, a2, hres⟩ := let_ex hres
  have a4 := f99_ok (x0 := x0)  
  rw [a2] at a4
  refine cL a4 rfl rfl (clL_cons rfl clL_nil) ?_
  refine rd_op (ov_not rfl) ?_
  refine nS ?_
  refine rc_br hres rfl ?_ ?_ <;> clear hres <;> intro c hres <;> try simp only [qa, qaD] at c
  · refine sR ?_
    refine rd_op (v := vu32 0#32) (ov_move rfl) ?_
    refine nS ?_
    exact rR hres rfl rfl rfl
  · refine rc_skip ?_
    refine pn_seq ?_
    refine sR ?_
    refine mV rfl ?_
    obtain ⟨a1, a3, hres⟩ := let_ex hres
    have a0 := f100_ok (x0 := x0)  (by (have hk := rval (by assumption) (by assumption); omega))
    rw [a3] at a0
    refine cL a0 rfl rfl (clL_cons rfl clL_nil) ?_
    refine rd_op (ov_bin (a := vu64 a1) (b := vu64 1#64) rfl rfl d_sub) ?_
    refine rd_op (ov_conv (a := vu64 (a1 - 1#64)) rfl (c_dw Try.underlying154 Try.underlying147)) ?_
    refine mV rfl ?_
    refine nS ?_
    exact rR hres rfl rfl rfl

def RF97 (res : Int × Bool) (r : PV) : Prop := r = .tup [vi res.1, vb res.2]
theorem f97_ok {x0 : api_Program} {x1 : api_FieldRef} {v0 v1 : PV} (r0 : api_Program.t.R x0 v0) (r1 : api_FieldRef.t.R x1 v1) : FnR Try.prog 97 [v0, v1] (.tup [vi ((ref13_Declared x0 x1).1), vb ((ref13_Declared x0 x1).2)]) := by
  refine fnS (R := RF97) text97 (fun _ h => h) rfl fun res hres => ?_
  unfold ref13_Declared at hres
  refine sR ?_
  refine rd_op (ov_box rfl (TR.cnt api_Program.t r0)) ?_
  refine rd_op (ov_box rfl (TR.cnt api_FieldRef.t r1)) ?_
  refine mI rfl ?_
  refine mB rfl ?_
  refine nR ?_
  refine gL (api_Program.g_Metadata r0) rfl rfl rfl fun c6 b4 => ?_
  refine mV rfl ?_
  refine nS ?_
  refine rc_seq ?_
  refine sR ?_
  refine fL rfl (api_FieldRef.g_Header r1) rfl rfl ?_
  refine bN (i_neq (b := -1)) rfl rfl ?_
  refine nS ?_
  obtain ⟨b7, a8, hres⟩ := let_ex hres
  refine rc_join (F := fun b S Q => ∀ (a0 : List api_Field) (a1 : PV) (a2 : (tSl api_Field.t).R a0 a1), b7 a0 = res → RC Try.prog b S Q [(6, a1), (3, .fp v1)] ⟨0, []⟩) ?_ ?_
  · intro a0 a1 a2  hres
    rw [← a8] at hres
    refine rc_seq ?_
    refine sR ?_
    refine fL rfl (api_FieldRef.g_Field r1) rfl rfl ?_
    refine bN i_lss rfl rfl ?_
    refine mV rfl ?_
    refine rd_cutn 6 (d := 39) (v := vb ((decide (x1.Field < 0)) || (decide ((a0.length : Int) ≤ x1.Field)))) ?_ ?_
    · intro S Q r
      cases a9 : (decide (x1.Field < 0))
      · intro k
        have a5 := a9
        try simp only [qa, qaD] at a5
        refine rd_yes rfl rfl (ov_faddr rfl (api_FieldRef.g_Field r1)) ?_
        refine rd_yes rfl rfl (ov_load rfl rfl rfl) ?_
        refine rd_yes rfl rfl (ov_move rfl) ?_
        refine rd_yes rfl rfl (ov_bi rfl (sl_len a2 Try.underlying23 _)) ?_
        refine rd_yes rfl rfl (ov_bin rfl rfl i_geq) ?_
        exact gK rfl rfl rfl rfl rfl k
      · exact gN 5 rfl rfl rfl rfl rfl rfl
    refine nS ?_
    refine rc_br hres rfl ?_ ?_ <;> clear hres <;> intro c hres <;> try simp only [qa, qaD] at c
    · refine sR ?_
      refine mI rfl ?_
      refine mB rfl ?_
      refine nS ?_
      exact rT hres rfl rfl rfl rfl rfl
    · refine rc_skip ?_
      refine pn_seq ?_
      refine sR ?_
      refine mV rfl ?_
      refine fL rfl (api_FieldRef.g_Field r1) rfl rfl ?_
      obtain ⟨c8, b3, b0⟩ := sl_idx (i := x1.Field) a2 (by omega) (by omega)
      refine rd_op (ov_iaddr rfl rfl b3) ?_
      refine fL rfl (api_Field.g_Width b0) rfl rfl ?_
      refine mV rfl ?_
      refine mB rfl ?_
      refine nS ?_
      exact rT hres rfl rfl rfl rfl rfl
  · intro J
    refine rc_br hres rfl ?_ ?_ <;> clear hres <;> intro c hres <;> try simp only [qa, qaD] at c
    · refine rc_seq ?_
      refine sR ?_
      refine fL rfl (api_FieldRef.g_Header r1) rfl rfl ?_
      refine bN i_lss rfl rfl ?_
      refine mV rfl ?_
      refine rd_cutn 7 (d := 22) (v := vb ((decide (x1.Header < 0)) || (decide ((x0.Headers.length : Int) ≤ x1.Header)))) ?_ ?_
      · intro S Q r
        cases a7 : (decide (x1.Header < 0))
        · intro k
          have a4 := a7
          try simp only [qa, qaD] at a4
          refine rd_yes rfl rfl (ov_faddr rfl (api_FieldRef.g_Header r1)) ?_
          refine rd_yes rfl rfl (ov_load rfl rfl rfl) ?_
          obtain ⟨c4, b6, a3⟩ := api_Program.g_Headers r0
          refine rd_yes rfl rfl (ov_faddr rfl b6) ?_
          refine rd_yes rfl rfl (ov_load rfl (TR.cnt (tSl api_Header.t) a3) (TR.agg (tSl api_Header.t) a3)) ?_
          refine rd_yes rfl rfl (ov_bi rfl (sl_len a3 Try.underlying22 _)) ?_
          refine rd_yes rfl rfl (ov_bin rfl rfl i_geq) ?_
          exact gK rfl rfl rfl rfl rfl k
        · exact gN 6 rfl rfl rfl rfl rfl rfl
      refine nS ?_
      refine rc_br hres rfl ?_ ?_ <;> clear hres <;> intro c hres <;> try simp only [qa, qaD] at c
      · refine sR ?_
        refine mI rfl ?_
        refine mB rfl ?_
        refine nS ?_
        exact rT hres rfl rfl rfl rfl rfl
      · refine rc_skip ?_
        refine pn_seq ?_
        refine rc_region ?_
        obtain ⟨b9, b1, a6⟩ := api_Program.g_Headers r0
        refine fA rfl b1 ?_
        refine lD a6 rfl rfl rfl ?_
        refine fL rfl (api_FieldRef.g_Header r1) rfl rfl ?_
        obtain ⟨c7, b5, b8⟩ := sl_idx (i := x1.Header) a6 (by omega) (by omega)
        refine rd_op (ov_iaddr rfl rfl b5) ?_
        refine gL (api_Header.g_Fields b8) rfl rfl rfl fun c5 b2 => ?_
        refine mV rfl ?_
        refine rd_nil ?_
        refine pn_seq (wC (J _ _ b2  hres) rfl)
    · refine rc_skip ?_
      refine pn_seq (wC (J _ _ b4  hres) rfl)

def RF90 (res : Int × Int) (r : PV) : Prop := r = .tup [vi res.1, vi res.2]
theorem f90_ok {x0 : api_ExprNode} {x1 : expr_Scope} {v0 v1 : PV} (r0 : api_ExprNode.t.R x0 v0) (r1 : expr_Scope.t.R x1 v1) : FnR Try.prog 90 [v0, v1] (.tup [vi ((ref13_leaf x0 x1).1), vi ((ref13_leaf x0 x1).2)]) := by
  refine fnS (R := RF90) text90 (fun _ h => h) rfl fun res hres => ?_
  unfold ref13_leaf at hres
  refine sR ?_
  refine rd_op (ov_box rfl (TR.cnt api_ExprNode.t r0)) ?_
  refine rd_op (ov_box rfl (TR.cnt expr_Scope.t r1)) ?_
  refine mI rfl ?_
  refine mI rfl ?_
  refine nS ?_
  refine rc_seq ?_
  refine sR ?_
  refine fL rfl (api_ExprNode.g_Op r0) rfl rfl ?_
  refine nS ?_
  refine rc_block ?_
  refine sR ?_
  refine bN i_eql rfl rfl ?_
  refine mV rfl ?_
  refine nS ?_
  refine rc_br hres rfl ?_ ?_ <;> clear hres <;> intro c hres <;> try simp only [qa, qaD] at c
  · refine sR ?_
    refine fL rfl (api_ExprNode.g_W r0) rfl rfl ?_
    obtain ⟨a0, b7, hres⟩ := let_ex hres
    have b3 := f95_ok (x0 := x0.W)  
    rw [b7] at b3
    refine cL b3 rfl rfl (clL_cons rfl clL_nil) ?_
    refine mV rfl ?_
    refine xT rfl rfl ?_
    refine xT rfl rfl ?_
    refine mV rfl ?_
    refine mV rfl ?_
    refine nS ?_
    refine rc_seq ?_
    refine sR ?_
    refine mV rfl ?_
    refine bN i_eql rfl rfl ?_
    refine mV rfl ?_
    refine rd_cutn 12 (d := 34) (v := vb ((decide (a0.2 = 0)) && ((decide (x0.N < 0)) || (decide (((ref01_Mask a0.1).toNat : Int) < x0.N))))) ?_ ?_
    · intro S Q r
      cases b2 : (decide (a0.2 = 0))
      · exact gN 11 rfl rfl rfl rfl rfl rfl
      · intro k
        have a1 := b2
        try simp only [qa, qaD] at a1
        refine rd_yes rfl rfl (ov_faddr rfl (api_ExprNode.g_N r0)) ?_
        refine rd_yes rfl rfl (ov_load rfl rfl rfl) ?_
        refine rd_yes rfl rfl (ov_bin rfl rfl i_lss) ?_
        refine rd_yes rfl rfl (ov_move rfl) ?_
        refine rd_cutn 7 (d := 33) (v := vb ((decide (x0.N < 0)) || (decide (((ref01_Mask a0.1).toNat : Int) < x0.N)))) ?_ ?_
        · intro S Q r
          cases b1 : (decide (x0.N < 0))
          · intro k
            have a6 := b1
            try simp only [qa, qaD] at a6
            refine rd_yes rfl rfl (ov_faddr rfl (api_ExprNode.g_N r0)) ?_
            refine rd_yes rfl rfl (ov_load rfl rfl rfl) ?_
            refine rd_yes rfl rfl (ov_move rfl) ?_
            have c9 := f96_ok (x0 := a0.1)  
            refine rd_ycall rfl rfl (cv_fn rfl rfl (clL_cons rfl clL_nil) c9) ?_
            refine rd_yes rfl rfl (ov_conv (a := vu32 (ref01_Mask a0.1)) rfl (c_wi Try.underlying147 Try.underlying3)) ?_
            refine rd_yes rfl rfl (ov_bin rfl rfl i_gtr) ?_
            refine rd_yes (v := vb (decide (((ref01_Mask a0.1).toNat : Int) < x0.N))) rfl rfl (ov_pick rfl rfl rfl rfl) ?_
            exact wD k rfl
          · intro k
            refine rd_skip rfl rfl ?_
            refine rd_skip rfl rfl ?_
            refine rd_skip rfl rfl ?_
            refine rd_skip rfl rfl ?_
            refine rd_skip rfl rfl ?_
            refine rd_skip rfl rfl ?_
            refine rd_yes (v := vb true) rfl rfl (ov_pick rfl rfl rfl rfl) ?_
            exact wD k rfl
        exact gK rfl rfl rfl rfl rfl k
    refine nS ?_
    refine rc_br hres rfl ?_ ?_ <;> clear hres <;> intro c hres <;> try simp only [qa, qaD] at c
    · refine sR ?_
      refine mI rfl ?_
      refine mI rfl ?_
      refine nS ?_
      exact rT hres rfl rfl rfl rfl rfl
    · refine rc_skip ?_
      refine pn_seq ?_
      refine sR ?_
      refine mV rfl ?_
      refine mV rfl ?_
      refine mV rfl ?_
      refine mV rfl ?_
      refine nS ?_
      exact rT hres rfl rfl rfl rfl rfl
  · refine sR ?_
    refine bN i_eql rfl rfl ?_
    refine mV rfl ?_
    refine nS ?_
    refine rc_br hres rfl ?_ ?_ <;> clear hres <;> intro c hres <;> try simp only [qa, qaD] at c
    · refine sR ?_
      refine gL (expr_Scope.g_Program r1) rfl rfl rfl fun d7 a7 => ?_
      refine fL rfl (api_ExprNode.g_N r0) rfl rfl ?_
      refine fL rfl (api_ExprNode.g_W r0) rfl rfl ?_
      refine rd_op (v := .agg [vi x0.N, vi x0.W]) (ov_build (cs := [vi x0.N, vi x0.W]) rfl rfl) ?_
      obtain ⟨d0, b8, hres⟩ := let_ex hres
      have b4 := f97_ok  a7 (show api_FieldRef.t.R ({ Header := x0.N, Field := x0.W } : api_FieldRef) (.agg [vi x0.N, vi x0.W]) from rfl) 
      rw [b8] at b4
      refine cL b4 rfl rfl (clL_cons (TR.clo api_Program.t a7) (clL_cons (TR.clo api_FieldRef.t (show api_FieldRef.t.R ({ Header := x0.N, Field := x0.W } : api_FieldRef) (.agg [vi x0.N, vi x0.W]) from rfl)) clL_nil)) ?_
      refine mV rfl ?_
      refine xT rfl rfl ?_
      refine xT rfl rfl ?_
      refine mV rfl ?_
      refine mV rfl ?_
      refine nS ?_
      refine rc_seq ?_
      refine sR ?_
      refine mV rfl ?_
      refine rd_op (ov_not rfl) ?_
      refine nS ?_
      refine rc_br hres rfl ?_ ?_ <;> clear hres <;> intro c hres <;> try simp only [qa, qaD] at c
      · refine sR ?_
        refine mI rfl ?_
        refine mI rfl ?_
        refine nS ?_
        exact rT hres rfl rfl rfl rfl rfl
      · refine rc_skip ?_
        refine pn_seq ?_
        refine sR ?_
        refine mV rfl ?_
        obtain ⟨d9, b9, hres⟩ := let_ex hres
        have a8 := f95_ok (x0 := d0.1)  
        rw [b9] at a8
        refine cL a8 rfl rfl (clL_cons rfl clL_nil) ?_
        refine xT rfl rfl ?_
        refine xT rfl rfl ?_
        refine mV rfl ?_
        refine mV rfl ?_
        refine nS ?_
        exact rT hres rfl rfl rfl rfl rfl
    · refine sR ?_
      refine bN i_eql rfl rfl ?_
      refine mV rfl ?_
      refine nS ?_
      refine rc_br hres rfl ?_ ?_ <;> clear hres <;> intro c hres <;> try simp only [qa, qaD] at c
      · refine rc_seq ?_
        refine sR ?_
        refine fL rfl (api_ExprNode.g_N r0) rfl rfl ?_
        refine bN i_lss rfl rfl ?_
        refine mV rfl ?_
        refine rd_cutn 7 (d := 68) (v := vb ((decide (x0.N < 0)) || (decide ((x1.Params.length : Int) ≤ x0.N)))) ?_ ?_
        · intro S Q r
          cases b5 : (decide (x0.N < 0))
          · intro k
            have a2 := b5
            try simp only [qa, qaD] at a2
            refine rd_yes rfl rfl (ov_faddr rfl (api_ExprNode.g_N r0)) ?_
            refine rd_yes rfl rfl (ov_load rfl rfl rfl) ?_
            obtain ⟨d8, c6, a3⟩ := expr_Scope.g_Params r1
            refine rd_yes rfl rfl (ov_faddr rfl c6) ?_
            refine rd_yes rfl rfl (ov_load rfl (TR.cnt (tSl api_Field.t) a3) (TR.agg (tSl api_Field.t) a3)) ?_
            refine rd_yes rfl rfl (ov_bi rfl (sl_len a3 Try.underlying23 _)) ?_
            refine rd_yes rfl rfl (ov_bin rfl rfl i_geq) ?_
            exact gK rfl rfl rfl rfl rfl k
          · exact gN 6 rfl rfl rfl rfl rfl rfl
        refine nS ?_
        refine rc_br hres rfl ?_ ?_ <;> clear hres <;> intro c hres <;> try simp only [qa, qaD] at c
        · refine sR ?_
          refine mI rfl ?_
          refine mI rfl ?_
          refine nS ?_
          exact rT hres rfl rfl rfl rfl rfl
        · refine rc_skip ?_
          refine pn_seq ?_
          refine sR ?_
          refine gL (expr_Scope.g_Params r1) rfl rfl rfl fun e0 c5 => ?_
          refine fL rfl (api_ExprNode.g_N r0) rfl rfl ?_
          obtain ⟨d4, c7, c4⟩ := sl_idx (i := x0.N) c5 (by omega) (by omega)
          refine rd_op (ov_iaddr rfl rfl c7) ?_
          refine fL rfl (api_Field.g_Width c4) rfl rfl ?_
          obtain ⟨d3, b6, hres⟩ := let_ex hres
          have a9 := f95_ok (x0 := (ix x1.Params x0.N).Width)  
          rw [b6] at a9
          refine cL a9 rfl rfl (clL_cons rfl clL_nil) ?_
          refine xT rfl rfl ?_
          refine xT rfl rfl ?_
          refine mV rfl ?_
          refine mV rfl ?_
          refine nS ?_
          exact rT hres rfl rfl rfl rfl rfl
      · refine rc_skip ?_
        refine pn_blk ?_
        refine pn_seq ?_
        refine rc_seq ?_
        refine sR ?_
        refine fL rfl (api_ExprNode.g_N r0) rfl rfl ?_
        refine bN i_lss rfl rfl ?_
        refine mV rfl ?_
        refine rd_cutn 8 (d := 90) (v := vb ((decide (x0.N < 0)) || (decide ((x1.Program.Headers.length : Int) ≤ x0.N)))) ?_ ?_
        · intro S Q r
          cases b0 : (decide (x0.N < 0))
          · intro k
            have a5 := b0
            try simp only [qa, qaD] at a5
            refine rd_yes rfl rfl (ov_faddr rfl (api_ExprNode.g_N r0)) ?_
            refine rd_yes rfl rfl (ov_load rfl rfl rfl) ?_
            obtain ⟨d5, d1, d2⟩ := expr_Scope.g_Program r1
            refine rd_yes rfl rfl (ov_faddr rfl d1) ?_
            obtain ⟨d6, c8, a4⟩ := api_Program.g_Headers d2
            refine rd_yes rfl rfl (ov_faddr rfl c8) ?_
            refine rd_yes rfl rfl (ov_load rfl (TR.cnt (tSl api_Header.t) a4) (TR.agg (tSl api_Header.t) a4)) ?_
            refine rd_yes rfl rfl (ov_bi rfl (sl_len a4 Try.underlying22 _)) ?_
            refine rd_yes rfl rfl (ov_bin rfl rfl i_geq) ?_
            exact gK rfl rfl rfl rfl rfl k
          · exact gN 7 rfl rfl rfl rfl rfl rfl
        refine nS ?_
        refine rc_br hres rfl ?_ ?_ <;> clear hres <;> intro c hres <;> try simp only [qa, qaD] at c
        · refine sR ?_
          refine mI rfl ?_
          refine mI rfl ?_
          refine nS ?_
          exact rT hres rfl rfl rfl rfl rfl
        · refine rc_skip ?_
          refine pn_seq ?_
          refine sR ?_
          refine mI rfl ?_
          refine mI rfl ?_
          refine nS ?_
          exact rT hres rfl rfl rfl rfl rfl

def RF91 (res : Int × Int) (r : PV) : Prop := r = .tup [vi res.1, vi res.2]
theorem f91_ok {x0 : api_ExprNode} {x1 : List Int} {v0 v1 : PV} (r0 : api_ExprNode.t.R x0 v0) (r1 : (tSl tI).R x1 v1) (hl : (x1.length : Int) = ref13_Arity x0.Op) (h1 : 1 ≤ x1.length) : FnR Try.prog 91 [v0, v1] (.tup [vi ((ref13_operator x0 x1).1), vi ((ref13_operator x0 x1).2)]) := by
  refine fnS (R := RF91) text91 (fun _ h => h) rfl fun res hres => ?_
  unfold ref13_operator at hres
  refine sR ?_
  refine rd_op (ov_box rfl (TR.cnt api_ExprNode.t r0)) ?_
  refine mI rfl ?_
  refine mI rfl ?_
  refine nS ?_
  refine rc_seq ?_
  refine sR ?_
  refine fL rfl (api_ExprNode.g_Op r0) rfl rfl ?_
  refine nS ?_
  refine rc_block ?_
  refine sR ?_
  refine bN i_eql rfl rfl ?_
  refine mV rfl ?_
  refine nS ?_
  refine rc_br hres rfl ?_ ?_ <;> clear hres <;> intro c hres <;> try simp only [qa, qaD] at c
  · refine sR ?_
    refine mV rfl ?_
    refine rd_op (ov_iaddr rfl rfl (slI (i := 0) r1 (by first | omega | (have hk := opl hl; omega) | (have hk := opl hl; have hj := jor (by assumption) (by assumption); omega)) (by first | omega | (have hk := opl hl; omega) | (have hk := opl hl; have hj := jor (by assumption) (by assumption); omega)))) ?_
    refine lR rfl rfl rfl ?_
    refine mV rfl ?_
    refine mI rfl ?_
    refine nS ?_
    exact rT hres rfl rfl rfl rfl rfl
  · refine rc_seq ?_
    refine sR ?_
    refine bN i_eql rfl rfl ?_
    refine mV rfl ?_
    refine nS ?_
    obtain ⟨b7, a9, hres⟩ := let_ex hres
    refine rc_join (F := fun b S Q => ∀ (a0 : Bool) (a8 : a0 = (if (decide (x0.Op = 6)) = true then (decide (x0.Op = 6)) else (decide (x0.Op = 7)))), b7 a0 = res → RC Try.prog b S Q [(13, vb a0), (7, vi x0.Op), (2, .fp v0), (1, v1)] ⟨0, []⟩) ?_ ?_
    · intro a0 a8  hres
      rw [← a9] at hres
      refine rc_br hres rfl ?_ ?_ <;> clear hres <;> intro c hres <;> try simp only [qa, qaD] at c
      · refine rc_seq ?_
        refine sR ?_
        refine fL rfl (api_ExprNode.g_N r0) rfl rfl ?_
        refine bN i_lss rfl rfl ?_
        refine mV rfl ?_
        refine rd_cutn 4 (d := 23) (v := vb ((decide (x0.N < 0)) || (decide (31 < x0.N)))) ?_ ?_
        · intro S Q r
          cases b1 : (decide (x0.N < 0))
          · intro k
            have a4 := b1
            try simp only [qa, qaD] at a4
            refine rd_yes rfl rfl (ov_faddr rfl (api_ExprNode.g_N r0)) ?_
            refine rd_yes rfl rfl (ov_load rfl rfl rfl) ?_
            refine rd_yes rfl rfl (ov_bin rfl rfl i_gtr) ?_
            exact gK rfl rfl rfl rfl rfl k
          · exact gN 3 rfl rfl rfl rfl rfl rfl
        refine nS ?_
        refine rc_br hres rfl ?_ ?_ <;> clear hres <;> intro c hres <;> try simp only [qa, qaD] at c
        · refine sR ?_
          refine mI rfl ?_
          refine mI rfl ?_
          refine nS ?_
          exact rT hres rfl rfl rfl rfl rfl
        · refine rc_skip ?_
          refine pn_seq ?_
          refine sR ?_
          refine mV rfl ?_
          refine rd_op (ov_iaddr rfl rfl (slI (i := 0) r1 (by first | omega | (have hk := opl hl; omega) | (have hk := opl hl; have hj := jor (by assumption) (by assumption); omega)) (by first | omega | (have hk := opl hl; omega) | (have hk := opl hl; have hj := jor (by assumption) (by assumption); omega)))) ?_
          refine lR rfl rfl rfl ?_
          refine mV rfl ?_
          refine mI rfl ?_
          refine nS ?_
          exact rT hres rfl rfl rfl rfl rfl
      · refine sR ?_
        refine bN i_eql rfl rfl ?_
        refine mV rfl ?_
        refine nS ?_
        refine rc_br hres rfl ?_ ?_ <;> clear hres <;> intro c hres <;> try simp only [qa, qaD] at c
        · refine rc_seq ?_
          refine rc_block ?_
          refine sR ?_
          refine fL rfl (api_ExprNode.g_N r0) rfl rfl ?_
          refine bN i_lss rfl rfl ?_
          refine mV rfl ?_
          refine nS ?_
          refine rc_br hres rfl ?_ ?_ <;> clear hres <;> intro c hres <;> try simp only [qa, qaD] at c
          · refine sR ?_
            refine mI rfl ?_
            refine mI rfl ?_
            refine nS ?_
            exact rT hres rfl rfl rfl rfl rfl
          · refine sR ?_
            refine fL rfl (api_ExprNode.g_W r0) rfl rfl ?_
            refine bN i_lss rfl rfl ?_
            refine mV rfl ?_
            refine rd_cutn 4 (d := 41) (v := vb ((decide (x0.W < 1)) || (decide (32 < x0.W)))) ?_ ?_
            · intro S Q r
              cases b5 : (decide (x0.W < 1))
              · intro k
                have a2 := b5
                try simp only [qa, qaD] at a2
                refine rd_yes rfl rfl (ov_faddr rfl (api_ExprNode.g_W r0)) ?_
                refine rd_yes rfl rfl (ov_load rfl rfl rfl) ?_
                refine rd_yes rfl rfl (ov_bin rfl rfl i_gtr) ?_
                exact gK rfl rfl rfl rfl rfl k
              · exact gN 3 rfl rfl rfl rfl rfl rfl
            refine mV rfl ?_
            refine rd_cutn 10 (d := 52) (v := vb (((decide (x0.W < 1)) || (decide (32 < x0.W))) || (decide ((wr ((ix x1 0) - x0.W)) < x0.N)))) ?_ ?_
            · intro S Q r
              cases b6 : ((decide (x0.W < 1)) || (decide (32 < x0.W)))
              · intro k
                have a7 := b6
                try simp only [qa, qaD] at a7
                refine rd_yes rfl rfl (ov_faddr rfl (api_ExprNode.g_N r0)) ?_
                refine rd_yes rfl rfl (ov_load rfl rfl rfl) ?_
                refine rd_yes rfl rfl (ov_move rfl) ?_
                refine rd_yes rfl rfl (ov_iaddr rfl rfl (slI (i := 0) r1 (by first | omega | (have hk := opl hl; omega) | (have hk := opl hl; have hj := jor (by assumption) (by assumption); omega)) (by first | omega | (have hk := opl hl; omega) | (have hk := opl hl; have hj := jor (by assumption) (by assumption); omega)))) ?_
                refine rd_yes rfl rfl (ov_load rfl rfl rfl) ?_
                refine rd_yes rfl rfl (ov_faddr rfl (api_ExprNode.g_W r0)) ?_
                refine rd_yes rfl rfl (ov_load rfl rfl rfl) ?_
                refine rd_yes rfl rfl (ov_bin rfl rfl i_sub) ?_
                refine rd_yes rfl rfl (ov_bin rfl rfl i_gtr) ?_
                exact gK rfl rfl rfl rfl rfl k
              · exact gN 9 rfl rfl rfl rfl rfl rfl
            refine mV rfl ?_
            refine nS ?_
            refine rc_br hres rfl ?_ ?_ <;> clear hres <;> intro c hres <;> try simp only [qa, qaD] at c
            · refine sR ?_
              refine mI rfl ?_
              refine mI rfl ?_
              refine nS ?_
              exact rT hres rfl rfl rfl rfl rfl
            · refine rc_skip ?_
              refine pn_blk ?_
              refine pn_seq ?_
              refine sR ?_
              refine fL rfl (api_ExprNode.g_W r0) rfl rfl ?_
              refine mV rfl ?_
              refine mI rfl ?_
              refine nS ?_
              exact rT hres rfl rfl rfl rfl rfl
        · refine sR ?_
          refine bN i_eql rfl rfl ?_
          refine mV rfl ?_
          refine nS ?_
          refine rc_br hres rfl ?_ ?_ <;> clear hres <;> intro c hres <;> try simp only [qa, qaD] at c
          · refine sR ?_
            refine mV rfl ?_
            refine rd_op (ov_iaddr rfl rfl (slI (i := 0) r1 (by first | omega | (have hk := opl hl; omega) | (have hk := opl hl; have hj := jor (by assumption) (by assumption); omega)) (by first | omega | (have hk := opl hl; omega) | (have hk := opl hl; have hj := jor (by assumption) (by assumption); omega)))) ?_
            refine lR rfl rfl rfl ?_
            refine mV rfl ?_
            refine rd_op (ov_iaddr rfl rfl (slI (i := 1) r1 (by first | omega | (have hk := opl hl; omega) | (have hk := opl hl; have hj := jor (by assumption) (by assumption); omega)) (by first | omega | (have hk := opl hl; omega) | (have hk := opl hl; have hj := jor (by assumption) (by assumption); omega)))) ?_
            refine lR rfl rfl rfl ?_
            refine bN i_add rfl rfl ?_
            obtain ⟨b8, b4, hres⟩ := let_ex hres
            have b0 := f95_ok (x0 := (wr ((ix x1 0) + (ix x1 1))))  
            rw [b4] at b0
            refine cL b0 rfl rfl (clL_cons rfl clL_nil) ?_
            refine xT rfl rfl ?_
            refine xT rfl rfl ?_
            refine mV rfl ?_
            refine mV rfl ?_
            refine nS ?_
            exact rT hres rfl rfl rfl rfl rfl
          · refine sR ?_
            refine bN i_eql rfl rfl ?_
            refine mV rfl ?_
            refine nS ?_
            refine rc_br hres rfl ?_ ?_ <;> clear hres <;> intro c hres <;> try simp only [qa, qaD] at c
            · refine rc_seq ?_
              refine sR ?_
              refine mV rfl ?_
              refine rd_op (ov_iaddr rfl rfl (slI (i := 0) r1 (by first | omega | (have hk := opl hl; omega) | (have hk := opl hl; have hj := jor (by assumption) (by assumption); omega)) (by first | omega | (have hk := opl hl; omega) | (have hk := opl hl; have hj := jor (by assumption) (by assumption); omega)))) ?_
              refine lR rfl rfl rfl ?_
              refine bN i_neq rfl rfl ?_
              refine mV rfl ?_
              refine rd_cutn 8 (d := 81) (v := vb ((!decide ((ix x1 0) = 1)) || (!decide ((ix x1 1) = (ix x1 2))))) ?_ ?_
              · intro S Q r
                cases b2 : (!decide ((ix x1 0) = 1))
                · intro k
                  have a5 := b2
                  try simp only [qa, qaD] at a5
                  refine rd_yes rfl rfl (ov_move rfl) ?_
                  refine rd_yes rfl rfl (ov_iaddr rfl rfl (slI (i := 1) r1 (by first | omega | (have hk := opl hl; omega) | (have hk := opl hl; have hj := jor (by assumption) (by assumption); omega)) (by first | omega | (have hk := opl hl; omega) | (have hk := opl hl; have hj := jor (by assumption) (by assumption); omega)))) ?_
                  refine rd_yes rfl rfl (ov_load rfl rfl rfl) ?_
                  refine rd_yes rfl rfl (ov_move rfl) ?_
                  refine rd_yes rfl rfl (ov_iaddr rfl rfl (slI (i := 2) r1 (by first | omega | (have hk := opl hl; omega) | (have hk := opl hl; have hj := jor (by assumption) (by assumption); omega)) (by first | omega | (have hk := opl hl; omega) | (have hk := opl hl; have hj := jor (by assumption) (by assumption); omega)))) ?_
                  refine rd_yes rfl rfl (ov_load rfl rfl rfl) ?_
                  refine rd_yes rfl rfl (ov_bin rfl rfl i_neq) ?_
                  exact gK rfl rfl rfl rfl rfl k
                · exact gN 7 rfl rfl rfl rfl rfl rfl
              refine nS ?_
              refine rc_br hres rfl ?_ ?_ <;> clear hres <;> intro c hres <;> try simp only [qa, qaD] at c
              · refine sR ?_
                refine mI rfl ?_
                refine mI rfl ?_
                refine nS ?_
                exact rT hres rfl rfl rfl rfl rfl
              · refine rc_skip ?_
                refine pn_seq ?_
                refine sR ?_
                refine mV rfl ?_
                refine rd_op (ov_iaddr rfl rfl (slI (i := 1) r1 (by first | omega | (have hk := opl hl; omega) | (have hk := opl hl; have hj := jor (by assumption) (by assumption); omega)) (by first | omega | (have hk := opl hl; omega) | (have hk := opl hl; have hj := jor (by assumption) (by assumption); omega)))) ?_
                refine lR rfl rfl rfl ?_
                refine mV rfl ?_
                refine mI rfl ?_
                refine nS ?_
                exact rT hres rfl rfl rfl rfl rfl
            · refine rc_skip ?_
              refine pn_blk ?_
              refine pn_seq ?_
              refine rc_seq ?_
              refine rc_block ?_
              refine sR ?_
              refine mV rfl ?_
              refine rd_op (ov_iaddr rfl rfl (slI (i := 0) r1 (by first | omega | (have hk := opl hl; omega) | (have hk := opl hl; have hj := jor (by assumption) (by assumption); omega)) (by first | omega | (have hk := opl hl; omega) | (have hk := opl hl; have hj := jor (by assumption) (by assumption); omega)))) ?_
              refine lR rfl rfl rfl ?_
              refine mV rfl ?_
              refine rd_op (ov_iaddr rfl rfl (slI (i := 1) r1 (by first | omega | (have hk := opl hl; omega) | (have hk := opl hl; have hj := jor (by assumption) (by assumption); omega)) (by first | omega | (have hk := opl hl; omega) | (have hk := opl hl; have hj := jor (by assumption) (by assumption); omega)))) ?_
              refine lR rfl rfl rfl ?_
              refine bN i_neq rfl rfl ?_
              refine mV rfl ?_
              refine nS ?_
              refine rc_br hres rfl ?_ ?_ <;> clear hres <;> intro c hres <;> try simp only [qa, qaD] at c
              · refine sR ?_
                refine mI rfl ?_
                refine mI rfl ?_
                refine nS ?_
                exact rT hres rfl rfl rfl rfl rfl
              · refine sR ?_
                refine fL rfl (api_ExprNode.g_Op r0) rfl rfl ?_
                refine bN i_eql rfl rfl ?_
                refine mV rfl ?_
                refine rd_cutn 4 (d := 101) (v := vb ((decide (x0.Op = 15)) || (decide (x0.Op = 16)))) ?_ ?_
                · intro S Q r
                  cases b3 : (decide (x0.Op = 15))
                  · intro k
                    have a3 := b3
                    try simp only [qa, qaD] at a3
                    refine rd_yes rfl rfl (ov_faddr rfl (api_ExprNode.g_Op r0)) ?_
                    refine rd_yes rfl rfl (ov_load rfl rfl rfl) ?_
                    refine rd_yes rfl rfl (ov_bin rfl rfl i_eql) ?_
                    exact gK rfl rfl rfl rfl rfl k
                  · exact gN 3 rfl rfl rfl rfl rfl rfl
                refine mV rfl ?_
                refine nS ?_
                refine rc_br hres rfl ?_ ?_ <;> clear hres <;> intro c hres <;> try simp only [qa, qaD] at c
                · refine sR ?_
                  refine mI rfl ?_
                  refine mI rfl ?_
                  refine nS ?_
                  exact rT hres rfl rfl rfl rfl rfl
                · refine rc_skip ?_
                  refine pn_blk ?_
                  refine pn_seq ?_
                  refine sR ?_
                  refine mV rfl ?_
                  refine rd_op (ov_iaddr rfl rfl (slI (i := 0) r1 (by first | omega | (have hk := opl hl; omega) | (have hk := opl hl; have hj := jor (by assumption) (by assumption); omega)) (by first | omega | (have hk := opl hl; omega) | (have hk := opl hl; have hj := jor (by assumption) (by assumption); omega)))) ?_
                  refine lR rfl rfl rfl ?_
                  refine mV rfl ?_
                  refine mI rfl ?_
                  refine nS ?_
                  exact rT hres rfl rfl rfl rfl rfl
    · intro J
      refine rc_br hres rfl ?_ ?_ <;> clear hres <;> intro a1 hres <;> have a6 := a1 <;> try simp only [qa, qaD] at a6
      · refine rc_skip ?_
        refine pn_seq (wC (J _ (ite_t a1).symm  hres) rfl)
      · refine rc_region ?_
        refine bN i_eql rfl rfl ?_
        refine mV rfl ?_
        refine rd_nil ?_
        refine pn_seq (wC (J _ (ite_f a1).symm  hres) rfl)

end Go.Proofs.Ytkgnjpoafilicaa
