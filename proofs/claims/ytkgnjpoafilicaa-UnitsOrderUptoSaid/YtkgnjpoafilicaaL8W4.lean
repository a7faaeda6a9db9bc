/-
  The code of each function does what its plain program says.
-/
import Derived.Test.YtkgnjpoafilicaaL8W3
set_option linter.unusedVariables false
set_option linter.unusedSimpArgs false
set_option maxRecDepth 100000
namespace Go.Proofs.Ytkgnjpoafilicaa
open Go Go.Pb Go.RowKit
def RF85 (res : Int × Int × Int) (r : PV) : Prop := r = .tup [vi res.1, vi res.2.1, vi res.2.2]
theorem ref13_check_L1_ok {S : List Fr} {res : Int × Int × Int} {x0 : List api_ExprNode} {x1 : Int} {x2 : expr_Scope} {rec_ : (List api_ExprNode) → Int → expr_Scope → (Int × Int × Int)} {mu_ : Nat} {b0 : Int} {v0 v2 : PV} (r0 : (tSl api_ExprNode.t).R x0 v0) (r2 : expr_Scope.t.R x2 v2) (h0 : 0 ≤ x1) (hb : x0.length ≤ 1000000) (ihR : ∀ {z0 : List api_ExprNode} {z1 : Int} {z2 : expr_Scope} {d9 d7 : PV} (e7 : (tSl api_ExprNode.t).R z0 d9) (e5 : expr_Scope.t.R z2 d7) (h0 : 0 ≤ z1) (hb : z0.length ≤ 1000000), (z0.length - z1.toNat) < mu_ → FnR Try.prog 85 [d9, vi z1, d7] (.tup [vi ((rec_ z0 z1 z2).1), vi ((rec_ z0 z1 z2).2.1), vi ((rec_ z0 z1 z2).2.2)])) (hmu : mu_ = (x0.length - x1.toNat)) (hrec : ∀ (z0 : List api_ExprNode) (z1 : Int) (z2 : expr_Scope), 0 ≤ z1 → z0.length ≤ 1000000 → (rec_ z0 z1 z2).2.2 = 0 → z1 < (rec_ z0 z1 z2).2.1) (c6 : (decide ((x0.length : Int) ≤ x1)) = false) (d8 : ref13_Arity ((ix x0 x1).Op) = b0) (d0 : (decide (b0 < 0)) = false) (c4 : (decide (b0 = 0)) = false) {K0 : Int → (List Int) → (Int × Int × Int)}
    (e4 : ∀ {a4 : Int} {a1 : List Int} {a0 : List PV} {a2 : PV} (a6 : All2 tI.R a1 a0) (a8 : isL a2 = true) (a3 : Wri a2 a0) (a7 : a1.length ≤ 4611686018427387904) (e6 : (a1.length : Int) = b0) {h : Heap} (M0 : Mem h [⟨a2, 3, 1, a0⟩]), K0 a4 a1 = res → PX Try.prog 0 S (QR Try.prog [(6, none), (7, none), (8, none)] (RF85 res)) [(0, v0), (1, vi x1), (12, a2), (13, vi a4)] h) :
    ∀ {m : Nat} {a4 a5 : Int} {a1 : List Int} {a0 : List PV} {a2 : PV} (a6 : All2 tI.R a1 a0) (a8 : isL a2 = true) (a3 : Wri a2 a0) (a7 : a1.length ≤ 4611686018427387904) (e1 : m = Int.toNat (b0 - a5)) (c8 : 0 ≤ a5) (b2 : x1 < a4) (b5 : (a1.length : Int) = a5) (b4 : a5 ≤ b0) {h : Heap} (M0 : Mem h [⟨a2, 3, 1, a0⟩]), ref13_check_L1 x0 x2 rec_ K0 m a4 a5 a1 = res → RC Try.prog (.loop ac85_L1) S (QR Try.prog [(6, none), (7, none), (8, none)] (RF85 res)) [(14, vi a5), (13, vi a4), (12, a2), (9, vi b0), (5, .fp v2), (1, vi x1), (0, v0)] h := by
  have hb' := hb
  try simp only [qa, qaD] at hb'
  have b8 := c6
  try simp only [qa, qaD] at b8
  have b9 := d0
  try simp only [qa, qaD] at b9
  have b7 := c4
  try simp only [qa, qaD] at b7
  intro m
  induction m with
  | zero =>
    intro a4 a5 a1 a0 a2 a6 a8 a3 a7 e1 c8 b2 b5 b4 h M0 hres
    rw [ref13_check_L1] at hres
    refine rc_loop ?_
    refine rc_seq ?_
    refine sR ?_
    refine mV rfl ?_
    refine mV rfl ?_
    refine bN i_lss rfl rfl ?_
    refine nS ?_
    refine rc_cond rfl ?_ ?_ <;> intro c <;> try simp only [qa, qaD] at c
    · omega
    refine rc_exit ?_
    refine px_seq ?_
    refine px_again ?_
    exact wP (e4 a6 a8 a3 a7 (by omega) (Mem.sub M0 (.cons_cons _ .slnil)) hres) rfl
  | succ m ih =>
    intro a4 a5 a1 a0 a2 a6 a8 a3 a7 e1 c8 b2 b5 b4 h M0 hres
    rw [ref13_check_L1] at hres
    refine rc_loop ?_
    refine rc_seq ?_
    refine sR ?_
    refine mV rfl ?_
    refine mV rfl ?_
    refine bN i_lss rfl rfl ?_
    refine nS ?_
    refine rc_cond rfl ?_ ?_ <;> intro c <;> try simp only [qa, qaD] at c
    rotate_left
    · omega
    refine rc_skip ?_
    refine pn_seq ?_
    refine rc_seq ?_
    refine rc_block ?_
    refine sR ?_
    refine mV rfl ?_
    refine mV rfl ?_
    refine lD r2 rfl rfl rfl ?_
    obtain ⟨a9, b6, hres⟩ := let_ex hres
    have c9 := ihR (z0 := x0) (z1 := a4) (z2 := x2) r0 r2 (by first | assumption | omega) (by first | assumption | omega) (by first | omega | (rw [wr_of (by omega) (by omega)]; omega))
    rw [b6] at c9
    have e0 : a9.2.2 = 0 → a4 < a9.2.1 := by rw [← b6]; exact hrec _ _ _ (by omega) (by omega)
    refine cL c9 rfl rfl (clL_cons (TR.clo (tSl api_ExprNode.t) r0) (clL_cons rfl (clL_cons (TR.clo expr_Scope.t r2) clL_nil))) ?_
    refine mV rfl ?_
    refine xT rfl rfl ?_
    refine xT rfl rfl ?_
    refine xT rfl rfl ?_
    refine mV rfl ?_
    refine mV rfl ?_
    refine mV rfl ?_
    refine nS ?_
    refine rc_seq ?_
    refine sR ?_
    refine mV rfl ?_
    refine bN i_neq rfl rfl ?_
    refine nS ?_
    refine rc_br hres rfl ?_ ?_ <;> clear hres <;> intro c hres <;> try simp only [qa, qaD] at c
    · refine sR ?_
      refine mV rfl ?_
      refine mV rfl ?_
      refine mI rfl ?_
      refine mV rfl ?_
      refine mV rfl ?_
      refine nS ?_
      subst hres
      exact rc_retV (.tmp rfl (.tmp rfl (.tmp rfl .nil))) (deep_closed (show closed (.tup _) = true from (clL_cons rfl (clL_cons rfl (clL_cons rfl clL_nil))))) rfl
    · refine rc_skip ?_
      refine pn_seq ?_
      refine sR ?_
      refine mV rfl ?_
      refine mV rfl ?_
      refine rd_op (v := .fs true [vi a9.1]) (ov_bslice rfl (all_cons rfl all_nil)) ?_
      have d4 : (tSl tI).R ([a9.1] : List Int) (.fs true [vi a9.1]) := sl_fs ⟨rfl, trivial⟩ (by simp)
      obtain ⟨b1, d1, b3⟩ := src_of (t := tI) (h := h) d4
      have c7 : fits (a0.length + b1.length) 8 = true := by rw [All2.length_eq a6, All2.length_eq b3]; (try simp only [List.length_cons, List.length_nil]); exact fits_of (by first | omega | (have hk := rar (by assumption); omega) | (simp only [List.length_append, List.length_cons, List.length_nil]; have hk := rar (by assumption); omega)) (by first | omega | (have hk := rar (by assumption); omega) | (simp only [List.length_append, List.length_cons, List.length_nil]; have hk := rar (by assumption); omega))
      refine rd_appW (k := 0) (es := a0) (news := b1) M0 rfl rfl rfl a8 a3 d1 c7 (fun e3 e2 d6 d2 d5 => ?_)
      have c5 : All2 tI.R (a1 ++ ([a9.1] : List Int)) (a0 ++ b1) := All2.app a6 b3
      have d3 : (a1 ++ ([a9.1] : List Int)).length ≤ 4611686018427387904 := by rw [← All2.length_eq c5, List.length_append]; exact fits_len c7
      refine mV rfl ?_
      refine nS ?_
      refine rc_region ?_
      refine mV rfl ?_
      refine mV rfl ?_
      refine rd_nil ?_
      refine pn_blk ?_
      refine pn_seq ?_
      refine rc_region ?_
      refine mV rfl ?_
      refine bN i_add rfl rfl ?_
      refine mV rfl ?_
      refine rd_nil ?_
      refine pn_again ?_
      have hinc : wr (a5 + 1) = a5 + 1 := wr_of (by omega) (by (have hk := rar (by assumption); omega))
      erw [hinc]
      exact wC (ih  c5 d6 d2 d3 (by omega) (by omega) (by first | (simp only [List.length_append, List.length_cons, List.length_nil]; omega) | omega) (by first | (simp only [List.length_append, List.length_cons, List.length_nil]; omega) | omega) (by first | (simp only [List.length_append, List.length_cons, List.length_nil]; omega) | omega) (Mem.sub d5 (.cons_cons _ .slnil)) hres) rfl

theorem f85_okB {rec_ : (List api_ExprNode) → Int → expr_Scope → (Int × Int × Int)} {mu_ : Nat} {x0 : List api_ExprNode} {x1 : Int} {x2 : expr_Scope} {v0 v2 : PV} (r0 : (tSl api_ExprNode.t).R x0 v0) (r2 : expr_Scope.t.R x2 v2) (h0 : 0 ≤ x1) (hb : x0.length ≤ 1000000) (hmu : mu_ = (x0.length - x1.toNat)) (hrec : ∀ (z0 : List api_ExprNode) (z1 : Int) (z2 : expr_Scope), 0 ≤ z1 → z0.length ≤ 1000000 → (rec_ z0 z1 z2).2.2 = 0 → z1 < (rec_ z0 z1 z2).2.1) (ihR : ∀ {z0 : List api_ExprNode} {z1 : Int} {z2 : expr_Scope} {d6 d5 : PV} (e6 : (tSl api_ExprNode.t).R z0 d6) (e5 : expr_Scope.t.R z2 d5) (h0 : 0 ≤ z1) (hb : z0.length ≤ 1000000), (z0.length - z1.toNat) < mu_ → FnR Try.prog 85 [d6, vi z1, d5] (.tup [vi ((rec_ z0 z1 z2).1), vi ((rec_ z0 z1 z2).2.1), vi ((rec_ z0 z1 z2).2.2)])) : FnR Try.prog 85 [v0, vi x1, v2] (.tup [vi ((ref13_check_B rec_ x0 x1 x2).1), vi ((ref13_check_B rec_ x0 x1 x2).2.1), vi ((ref13_check_B rec_ x0 x1 x2).2.2)]) := by
  refine fnS (R := RF85) text85 (fun _ h => h) rfl fun res hres => ?_
  unfold ref13_check_B at hres
  refine sR ?_
  refine rd_op (ov_box rfl (TR.cnt expr_Scope.t r2)) ?_
  refine mI rfl ?_
  refine mI rfl ?_
  refine mI rfl ?_
  refine nS ?_
  refine rc_seq ?_
  refine sR ?_
  refine mV rfl ?_
  refine mV rfl ?_
  refine rd_op (ov_bi rfl (sl_len r0 Try.underlying38 _)) ?_
  refine bN i_geq rfl rfl ?_
  refine nS ?_
  refine rc_br hres rfl ?_ ?_ <;> clear hres <;> intro a4 hres <;> have a9 := a4 <;> try simp only [qa, qaD] at a9
  · refine sR ?_
    refine mV rfl ?_
    refine mI rfl ?_
    refine mV rfl ?_
    refine mI rfl ?_
    refine nS ?_
    subst hres
    exact rc_retV (.tmp rfl (.tmp rfl (.tmp rfl .nil))) (deep_closed (show closed (.tup _) = true from (clL_cons rfl (clL_cons rfl (clL_cons rfl clL_nil))))) rfl
  · refine rc_skip ?_
    refine pn_seq ?_
    refine sR ?_
    refine mV rfl ?_
    refine mV rfl ?_
    obtain ⟨d9, c9, d1⟩ := sl_idx (i := x1) r0 (by omega) (by omega)
    refine rd_op (ov_iaddr rfl rfl c9) ?_
    refine fL rfl (api_ExprNode.g_Op d1) rfl rfl ?_
    obtain ⟨d8, a6, hres⟩ := let_ex hres
    have b6 := f89_ok (x0 := (ix x0 x1).Op)  
    rw [a6] at b6
    refine cL b6 rfl rfl (clL_cons rfl clL_nil) ?_
    refine mV rfl ?_
    refine nS ?_
    refine rc_seq ?_
    refine sR ?_
    refine mV rfl ?_
    refine bN i_lss rfl rfl ?_
    refine nS ?_
    refine rc_br hres rfl ?_ ?_ <;> clear hres <;> intro a5 hres <;> have b0 := a5 <;> try simp only [qa, qaD] at b0
    · refine sR ?_
      refine mV rfl ?_
      refine mI rfl ?_
      refine mV rfl ?_
      refine mI rfl ?_
      refine nS ?_
      subst hres
      exact rc_retV (.tmp rfl (.tmp rfl (.tmp rfl .nil))) (deep_closed (show closed (.tup _) = true from (clL_cons rfl (clL_cons rfl (clL_cons rfl clL_nil))))) rfl
    · refine rc_skip ?_
      refine pn_seq ?_
      refine rc_seq ?_
      refine sR ?_
      refine mV rfl ?_
      refine bN i_eql rfl rfl ?_
      refine nS ?_
      refine rc_br hres rfl ?_ ?_ <;> clear hres <;> intro a3 hres <;> have a7 := a3 <;> try simp only [qa, qaD] at a7
      · refine sR ?_
        refine mV rfl ?_
        refine mV rfl ?_
        obtain ⟨e3, d2, b1⟩ := sl_idx (i := x1) r0 (by omega) (by omega)
        refine rd_op (ov_iaddr rfl rfl d2) ?_
        refine lD b1 rfl rfl rfl ?_
        refine lD r2 rfl rfl rfl ?_
        obtain ⟨e4, b8, hres⟩ := let_ex hres
        have b5 := f90_ok  b1 r2 
        rw [b8] at b5
        refine cL b5 rfl rfl (clL_cons (TR.clo api_ExprNode.t b1) (clL_cons (TR.clo expr_Scope.t r2) clL_nil)) ?_
        refine mV rfl ?_
        refine xT rfl rfl ?_
        refine xT rfl rfl ?_
        refine mV rfl ?_
        refine mV rfl ?_
        refine nR ?_
        refine mV rfl ?_
        refine mV rfl ?_
        refine bN i_add rfl rfl ?_
        refine mV rfl ?_
        refine mV rfl ?_
        refine mV rfl ?_
        refine mV rfl ?_
        refine nS ?_
        subst hres
        exact rc_retV (.tmp rfl (.tmp rfl (.tmp rfl .nil))) (deep_closed (show closed (.tup _) = true from (clL_cons rfl (clL_cons rfl (clL_cons rfl clL_nil))))) rfl
      · refine rc_skip ?_
        refine pn_seq ?_
        refine sR ?_
        refine rd_op (v := nilS) (ov_move rfl) ?_
        refine nR ?_
        refine mV rfl ?_
        refine bN i_add rfl rfl ?_
        refine mV rfl ?_
        refine nS ?_
        refine rc_seq ?_
        refine sR ?_
        refine mI rfl ?_
        refine nS ?_
        refine rc_block ?_
        have c8 := mem_acc (sz := 1) (es := []) (Mem.nil ⟨0, []⟩) 3 (.inl ⟨none, rfl, rfl⟩) (by simp)
        refine wC (ref13_check_L1_ok r0 r2 h0 hb ihR hmu hrec a4 a6 a5 a3 ?_  aL rfl (.inl rfl) (by first | decide | simp) rfl (by omega) (by first | omega | simp | (rw [wr_of (by omega) (by omega)]; omega)) (by first | omega | simp | (rw [wr_of (by omega) (by omega)]; omega)) (by first | omega | simp | (rw [wr_of (by omega) (by omega)]; omega)) (Mem.sub c8 (.cons_cons _ .slnil)) hres) rfl
        · intro c6 b3 b2 b7 a1 a2 b4 a0 c5 d7 d3 hres
          refine px_blk ?_
          refine pn_seq ?_
          refine sR ?_
          refine mV rfl ?_
          refine mV rfl ?_
          obtain ⟨e0, c7, a8⟩ := sl_idx (i := x1) r0 (by omega) (by omega)
          refine rd_op (ov_iaddr rfl rfl c7) ?_
          refine lD a8 rfl rfl rfl ?_
          refine mV rfl ?_
          obtain ⟨e2, d4, d0⟩ := own_sl (P := Try.prog) (k := 0) (t := tI) d3 rfl a2 a1 (Nat.le_trans a0 (by decide))
          obtain ⟨e1, c4, hres⟩ := let_ex hres
          have b9 := f91_ok  a8 d0 (by first | omega | (have hk := rar (by assumption); omega)) (by first | omega | (have hk := rar (by assumption); omega))
          rw [c4] at b9
          refine rd_call (cv_lend rfl rfl (dl_cons (deep_closed (TR.clo api_ExprNode.t a8)) (dl_cons d4 dl_nil)) b9 rfl) ?_
          refine mV rfl ?_
          refine xT rfl rfl ?_
          refine xT rfl rfl ?_
          refine mV rfl ?_
          refine mV rfl ?_
          refine nR ?_
          refine mV rfl ?_
          refine mV rfl ?_
          refine mV rfl ?_
          refine mV rfl ?_
          refine mV rfl ?_
          refine mV rfl ?_
          refine nS ?_
          subst hres
          exact rc_retV (.tmp rfl (.tmp rfl (.tmp rfl .nil))) (deep_closed (show closed (.tup _) = true from (clL_cons rfl (clL_cons rfl (clL_cons rfl clL_nil))))) rfl
theorem f85_okR : ∀ (n_ : Nat) {x0 : List api_ExprNode} {x1 : Int} {x2 : expr_Scope} {v0 v2 : PV} (r0 : (tSl api_ExprNode.t).R x0 v0) (r2 : expr_Scope.t.R x2 v2) (h0 : 0 ≤ x1) (hb : x0.length ≤ 1000000), (x0.length - x1.toNat) < n_ → FnR Try.prog 85 [v0, vi x1, v2] (.tup [vi ((ref13_check_R n_ x0 x1 x2).1), vi ((ref13_check_R n_ x0 x1 x2).2.1), vi ((ref13_check_R n_ x0 x1 x2).2.2)]) := by
  intro n_
  induction n_ with
  | zero => intros; rename_i hlt; exact absurd hlt (Nat.not_lt_zero _)
  | succ n_ ihn =>
    intro x0 x1 x2 v0 v2 r0 r2 h0 hb hlt
    have e_ : ref13_check_R (n_ + 1) x0 x1 x2 = ref13_check_B (ref13_check_R n_) x0 x1 x2 := by rw [ref13_check_R]
    rw [e_]
    exact f85_okB r0 r2 h0 hb rfl (rcheck_next n_) (fun {z0} {z1} {z2} {zv0} {zv2} zr0 zr2 h0 hb hz => ihn zr0 zr2 h0 hb (by omega))
theorem f85_ok {x0 : List api_ExprNode} {x1 : Int} {x2 : expr_Scope} {v0 v2 : PV} (r0 : (tSl api_ExprNode.t).R x0 v0) (r2 : expr_Scope.t.R x2 v2) (h0 : 0 ≤ x1) (hb : x0.length ≤ 1000000) : FnR Try.prog 85 [v0, vi x1, v2] (.tup [vi ((ref13_check x0 x1 x2).1), vi ((ref13_check x0 x1 x2).2.1), vi ((ref13_check x0 x1 x2).2.2)]) := f85_okR _ r0 r2 h0 hb (Nat.lt_succ_self _)

def RF76 (res : Int × Int) (r : PV) : Prop := r = .tup [vi res.1, vi res.2]
theorem f76_ok {x0 : List api_ExprNode} {x1 : expr_Scope} {v0 v1 : PV} (r0 : (tSl api_ExprNode.t).R x0 v0) (r1 : expr_Scope.t.R x1 v1) : FnR Try.prog 76 [v0, v1] (.tup [vi ((ref13_Check x0 x1).1), vi ((ref13_Check x0 x1).2)]) := by
  refine fnS (R := RF76) text76 (fun _ h => h) rfl fun res hres => ?_
  unfold ref13_Check at hres
  refine sR ?_
  refine rd_op (ov_box rfl (TR.cnt expr_Scope.t r1)) ?_
  refine mI rfl ?_
  refine mI rfl ?_
  refine nS ?_
  refine rc_seq ?_
  refine sR ?_
  refine mV rfl ?_
  refine rd_op (ov_bi rfl (sl_len r0 Try.underlying38 _)) ?_
  refine bN i_gtr rfl rfl ?_
  refine nS ?_
  refine rc_br hres rfl ?_ ?_ <;> clear hres <;> intro c hres <;> try simp only [qa, qaD] at c
  · refine sR ?_
    refine mI rfl ?_
    refine mI rfl ?_
    refine nS ?_
    exact rT hres rfl rfl rfl rfl rfl
  · refine rc_skip ?_
    refine pn_seq ?_
    refine sR ?_
    refine mV rfl ?_
    refine lD r1 rfl rfl rfl ?_
    obtain ⟨a2, a0, hres⟩ := let_ex hres
    have a1 := f85_ok (x1 := 0) r0 r1 (by first | assumption | omega) (by first | assumption | omega)
    rw [a0] at a1
    refine cL a1 rfl rfl (clL_cons (TR.clo (tSl api_ExprNode.t) r0) (clL_cons rfl (clL_cons (TR.clo expr_Scope.t r1) clL_nil))) ?_
    refine mV rfl ?_
    refine xT rfl rfl ?_
    refine xT rfl rfl ?_
    refine xT rfl rfl ?_
    refine mV rfl ?_
    refine mV rfl ?_
    refine mV rfl ?_
    refine nS ?_
    refine rc_seq ?_
    refine rc_block ?_
    refine sR ?_
    refine mV rfl ?_
    refine bN i_neq rfl rfl ?_
    refine mV rfl ?_
    refine nS ?_
    refine rc_br hres rfl ?_ ?_ <;> clear hres <;> intro c hres <;> try simp only [qa, qaD] at c
    · refine sR ?_
      refine mV rfl ?_
      refine mI rfl ?_
      refine mV rfl ?_
      refine nS ?_
      exact rT hres rfl rfl rfl rfl rfl
    · refine sR ?_
      refine mV rfl ?_
      refine mV rfl ?_
      refine rd_op (ov_bi rfl (sl_len r0 Try.underlying38 _)) ?_
      refine bN i_lss rfl rfl ?_
      refine mV rfl ?_
      refine nS ?_
      refine rc_br hres rfl ?_ ?_ <;> clear hres <;> intro c hres <;> try simp only [qa, qaD] at c
      · refine sR ?_
        refine mI rfl ?_
        refine mI rfl ?_
        refine nS ?_
        exact rT hres rfl rfl rfl rfl rfl
      · refine rc_skip ?_
        refine pn_blk ?_
        refine pn_seq ?_
        refine sR ?_
        refine mV rfl ?_
        refine mV rfl ?_
        refine mI rfl ?_
        refine nS ?_
        exact rT hres rfl rfl rfl rfl rfl

def RF58 (res : Bool) (r : PV) : Prop := r = vb res
theorem f58_ok {x0 : api_ControlNode} {v0 : PV} (r0 : api_ControlNode.t.R x0 v0) : FnR Try.prog 58 [v0] (vb (ref20_applies x0)) := by
  refine fnS (R := RF58) text58 (fun _ h => h) rfl fun res hres => ?_
  unfold ref20_applies at hres
  refine sR ?_
  refine rd_op (ov_box rfl (TR.cnt api_ControlNode.t r0)) ?_
  refine mB rfl ?_
  refine nR ?_
  refine fL rfl (api_ControlNode.g_Kind r0) rfl rfl ?_
  refine bN i_eql rfl rfl ?_
  refine mV rfl ?_
  refine rd_cutn 4 (d := 10) (v := vb ((decide (x0.Kind = 1)) || (decide (x0.Kind = 3)))) ?_ ?_
  · intro S Q r
    cases a1 : (decide (x0.Kind = 1))
    · intro k
      have a0 := a1
      try simp only [qa, qaD] at a0
      refine rd_yes rfl rfl (ov_faddr rfl (api_ControlNode.g_Kind r0)) ?_
      refine rd_yes rfl rfl (ov_load rfl rfl rfl) ?_
      refine rd_yes rfl rfl (ov_bin rfl rfl i_eql) ?_
      exact gK rfl rfl rfl rfl rfl k
    · exact gN 3 rfl rfl rfl rfl rfl rfl
  refine mV rfl ?_
  refine nS ?_
  exact rR hres rfl rfl rfl

def RF77 (res : Bool) (r : PV) : Prop := r = vb res
theorem ref20_appliedBefore_L1_ok {S : List Fr} {res : Bool} {x0 : List api_ControlNode} {x1 : Int} {v0 : PV} (r0 : (tSl api_ControlNode.t).R x0 v0) (h0 : 0 ≤ x1) (h1 : x1 < (x0.length : Int)) {K0 : Unit → Bool}
    (b7 : K0 () = res → PX Try.prog 0 S (QR Try.prog [(4, none)] (RF77 res)) [] ⟨0, []⟩) :
    ∀ {m : Nat} {a0 : Int} (b3 : m = Int.toNat (x1 - a0)) (a6 : 0 ≤ a0), ref20_appliedBefore_L1 x0 x1 K0 m a0 = res → RC Try.prog (.loop ac77_L1) S (QR Try.prog [(4, none)] (RF77 res)) [(5, vi a0), (1, vi x1), (0, v0)] ⟨0, []⟩ := by
  intro m
  induction m with
  | zero =>
    intro a0 b3 a6 hres
    rw [ref20_appliedBefore_L1] at hres
    refine rc_loop ?_
    refine rc_seq ?_
    refine sR ?_
    refine mV rfl ?_
    refine mV rfl ?_
    refine bN i_lss rfl rfl ?_
    refine nS ?_
    refine rc_cond rfl ?_ ?_ <;> intro c <;> try simp only [qa, qaD] at c
    · omega
    refine rc_exit ?_
    refine px_seq ?_
    refine px_again ?_
    exact wP (b7  hres) rfl
  | succ m ih =>
    intro a0 b3 a6 hres
    rw [ref20_appliedBefore_L1] at hres
    refine rc_loop ?_
    refine rc_seq ?_
    refine sR ?_
    refine mV rfl ?_
    refine mV rfl ?_
    refine bN i_lss rfl rfl ?_
    refine nS ?_
    refine rc_cond rfl ?_ ?_ <;> intro c <;> try simp only [qa, qaD] at c
    rotate_left
    · omega
    refine rc_skip ?_
    refine pn_seq ?_
    refine rc_seq ?_
    refine rc_block ?_
    refine sR ?_
    refine mV rfl ?_
    refine mV rfl ?_
    obtain ⟨b6, b2, a1⟩ := sl_idx (i := a0) r0 (by omega) (by omega)
    refine rd_op (ov_iaddr rfl rfl b2) ?_
    refine lD a1 rfl rfl rfl ?_
    obtain ⟨a3, a5, hres⟩ := let_ex hres
    have a4 := f58_ok  a1 
    rw [a5] at a4
    refine cL a4 rfl rfl (clL_cons (TR.clo api_ControlNode.t a1) clL_nil) ?_
    refine mV rfl ?_
    refine rd_cutn 12 (d := 28) (v := vb (a3 && (decide (((ix x0 a0).Table) = ((ix x0 x1).Table))))) ?_ ?_
    · intro S Q r
      cases a7 : a3
      · exact gN 11 rfl rfl rfl rfl rfl rfl
      · intro k
        have a2 := a7
        try simp only [qa, qaD] at a2
        refine rd_yes rfl rfl (ov_move rfl) ?_
        refine rd_yes rfl rfl (ov_move rfl) ?_
        obtain ⟨b5, b1, b0⟩ := sl_idx (i := a0) r0 (by omega) (by omega)
        refine rd_yes rfl rfl (ov_iaddr rfl rfl b1) ?_
        refine rd_yes rfl rfl (ov_faddr rfl (api_ControlNode.g_Table b0)) ?_
        refine rd_yes rfl rfl (ov_load rfl rfl rfl) ?_
        refine rd_yes rfl rfl (ov_move rfl) ?_
        refine rd_yes rfl rfl (ov_move rfl) ?_
        obtain ⟨b4, a9, a8⟩ := sl_idx (i := x1) r0 (by omega) (by omega)
        refine rd_yes rfl rfl (ov_iaddr rfl rfl a9) ?_
        refine rd_yes rfl rfl (ov_faddr rfl (api_ControlNode.g_Table a8)) ?_
        refine rd_yes rfl rfl (ov_load rfl rfl rfl) ?_
        refine rd_yes rfl rfl (ov_bin rfl rfl i_eql) ?_
        exact gK rfl rfl rfl rfl rfl k
    refine nS ?_
    refine rc_br hres rfl ?_ ?_ <;> clear hres <;> intro c hres <;> try simp only [qa, qaD] at c
    · refine sR ?_
      refine mB rfl ?_
      refine nS ?_
      exact rR hres rfl rfl rfl
    · refine rc_skip ?_
      refine pn_blk ?_
      refine pn_seq ?_
      refine rc_region ?_
      refine mV rfl ?_
      refine bN i_add rfl rfl ?_
      refine mV rfl ?_
      refine rd_nil ?_
      refine pn_again ?_
      have hinc : wr (a0 + 1) = a0 + 1 := wr_of (by omega) (by (have hk := sl_bound r0; omega))
      erw [hinc]
      exact wC (ih   (by omega) (by omega) hres) rfl

theorem f77_ok {x0 : List api_ControlNode} {x1 : Int} {v0 : PV} (r0 : (tSl api_ControlNode.t).R x0 v0) (h0 : 0 ≤ x1) (h1 : x1 < (x0.length : Int)) : FnR Try.prog 77 [v0, vi x1] (vb (ref20_appliedBefore x0 x1)) := by
  refine fnS (R := RF77) text77 (fun _ h => h) rfl fun res hres => ?_
  unfold ref20_appliedBefore at hres
  refine sR ?_
  refine mB rfl ?_
  refine nS ?_
  refine rc_seq ?_
  refine sR ?_
  refine mI rfl ?_
  refine nS ?_
  refine rc_block ?_
  refine wC (ref20_appliedBefore_L1_ok r0 h0 h1 ?_  rfl (by omega) hres) rfl
  · intro  hres
    refine px_blk ?_
    refine pn_seq ?_
    refine sR ?_
    refine mB rfl ?_
    refine nS ?_
    exact rR hres rfl rfl rfl

def RF53 (res : Int) (r : PV) : Prop := r = vi res
theorem f53_ok {x0 : api_Program} {x1 : List api_ControlNode} {x2 : Int} {v0 v1 : PV} (r0 : api_Program.t.R x0 v0) (r1 : (tSl api_ControlNode.t).R x1 v1) (h0 : 0 ≤ x2) (h1 : x2 < (x1.length : Int)) : FnR Try.prog 53 [v0, v1, vi x2] (vi (ref20_checkNode x0 x1 x2)) := by
  refine fnS (R := RF53) text53 (fun _ h => h) rfl fun res hres => ?_
  unfold ref20_checkNode at hres
  refine sR ?_
  refine rd_op (ov_box rfl (TR.cnt api_Program.t r0)) ?_
  refine mI rfl ?_
  refine nR ?_
  refine mV rfl ?_
  refine mV rfl ?_
  obtain ⟨d9, e3, a9⟩ := sl_idx (i := x2) r1 (by omega) (by omega)
  refine rd_op (ov_iaddr rfl rfl e3) ?_
  refine lD a9 rfl rfl rfl ?_
  refine rd_allocO (x := .agg [vi 0, vi 0, nilS, nilS, nilS]) (Mem.nil ⟨0, []⟩) rfl rfl (fun e7 e1 f8 f0 => ?_)
  refine rd_storeO (k := 0) (v := d9) f0 rfl rfl rfl (TR.cnt api_ControlNode.t a9) (fun d3 a8 => ?_)
  replace a8 : Mem d3 [⟨.op e7 e1 0, 40, 5, [d9]⟩] := a8
  refine nS ?_
  refine rc_seq ?_
  refine rc_block ?_
  refine sR ?_
  refine rd_op (ov_faddrO rfl) ?_
  refine rd_op (ov_loadf (k := 0) a8 rfl rfl (api_ControlNode.g_Kind a9)) ?_
  refine bN i_lss rfl rfl ?_
  refine mV rfl ?_
  refine rd_cutn 4 (d := 22) (v := vb ((decide (((ix x1 x2).Kind) < 1)) || (decide (3 < ((ix x1 x2).Kind))))) ?_ ?_
  · intro S Q r
    cases d4 : (decide (((ix x1 x2).Kind) < 1))
    · intro k
      have c7 := d4
      try simp only [qa, qaD] at c7
      refine rd_yes rfl rfl (ov_faddrO rfl) ?_
      refine rd_yes rfl rfl (ov_loadf (k := 0) a8 rfl rfl (api_ControlNode.g_Kind a9)) ?_
      refine rd_yes rfl rfl (ov_bin rfl rfl i_gtr) ?_
      exact gK rfl rfl rfl rfl rfl k
    · exact gN 3 rfl rfl rfl rfl rfl rfl
  refine mV rfl ?_
  refine nS ?_
  refine rc_br hres rfl ?_ ?_ <;> clear hres <;> intro c hres <;> try simp only [qa, qaD] at c
  · refine sR ?_
    refine mI rfl ?_
    refine nS ?_
    exact rR hres rfl rfl rfl
  · refine sR ?_
    refine rd_op (ov_faddrO rfl) ?_
    refine rd_op (ov_loadf (k := 0) a8 rfl rfl (api_ControlNode.g_Kind a9)) ?_
    refine bN i_eql rfl rfl ?_
    refine mV rfl ?_
    refine nS ?_
    refine rc_br hres rfl ?_ ?_ <;> clear hres <;> intro c hres <;> try simp only [qa, qaD] at c
    · refine sR ?_
      refine rd_op (ov_faddrO rfl) ?_
      obtain ⟨f4, e4, d2⟩ := api_ControlNode.g_Cond a9
      refine rd_op (ov_loadf (k := 0) a8 rfl rfl e4) ?_
      refine lD r0 rfl rfl rfl ?_
      obtain ⟨a7, a3, a0, a5, a2, a4, a1, a6, f1, b1, b3, b8, b6, b2, b4, b5, b7⟩ := r0
      subst f1
      refine rd_op (v := .agg [vs x0.Name, a7, a3, a0, a5, a2, a4, a1, a6, nilS]) (ov_build (cs := [vs x0.Name, a7, a3, a0, a5, a2, a4, a1, a6, nilS]) rfl rfl) ?_
      obtain ⟨c8, d6, hres⟩ := let_ex hres
      have d1 := f76_ok  d2 (show expr_Scope.t.R ({ Program := x0, Params := ([] : List api_Field) } : expr_Scope) (.agg [vs x0.Name, a7, a3, a0, a5, a2, a4, a1, a6, nilS]) from ⟨a7, a3, a0, a5, a2, a4, a1, a6, nilS, rfl, b1, b3, b8, b6, b2, b4, b5, b7, sl_nil⟩) 
      rw [d6] at d1
      refine cL d1 rfl rfl (clL_cons (TR.clo (tSl api_ExprNode.t) d2) (clL_cons (TR.clo expr_Scope.t (show expr_Scope.t.R ({ Program := x0, Params := ([] : List api_Field) } : expr_Scope) (.agg [vs x0.Name, a7, a3, a0, a5, a2, a4, a1, a6, nilS]) from ⟨a7, a3, a0, a5, a2, a4, a1, a6, nilS, rfl, b1, b3, b8, b6, b2, b4, b5, b7, sl_nil⟩)) clL_nil)) ?_
      refine mV rfl ?_
      refine xT rfl rfl ?_
      refine xT rfl rfl ?_
      refine mV rfl ?_
      refine mV rfl ?_
      refine nS ?_
      refine rc_seq ?_
      refine sR ?_
      refine mV rfl ?_
      refine bN i_eql rfl rfl ?_
      refine mV rfl ?_
      refine rd_cutn 3 (d := 40) (v := vb ((decide (c8.2 = 0)) && (!decide (c8.1 = 1)))) ?_ ?_
      · intro S Q r
        cases c9 : (decide (c8.2 = 0))
        · exact gN 2 rfl rfl rfl rfl rfl rfl
        · intro k
          have c6 := c9
          try simp only [qa, qaD] at c6
          refine rd_yes rfl rfl (ov_move rfl) ?_
          refine rd_yes rfl rfl (ov_bin rfl rfl i_neq) ?_
          exact gK rfl rfl rfl rfl rfl k
      refine nS ?_
      obtain ⟨f2, d5, hres⟩ := let_ex hres
      refine rc_join (F := fun b S Q => ∀ (b0 : Int), f2 b0 = res → RC Try.prog b S Q [(9, vi b0)] d3) ?_ ?_
      · intro b0  hres
        rw [← d5] at hres
        refine sR ?_
        refine mV rfl ?_
        refine mV rfl ?_
        refine nS ?_
        exact rR hres rfl rfl rfl
      · intro J
        refine rc_br hres rfl ?_ ?_ <;> clear hres <;> intro c hres <;> try simp only [qa, qaD] at c
        · refine rc_region ?_
          refine mI rfl ?_
          refine rd_nil ?_
          refine pn_seq (wC (J _  hres) rfl)
        · refine rc_skip ?_
          refine pn_seq (wC (J _  hres) rfl)
    · refine sR ?_
      refine rd_op (ov_faddrO rfl) ?_
      refine rd_op (ov_loadf (k := 0) a8 rfl rfl (api_ControlNode.g_Table a9)) ?_
      refine bN i_lss rfl rfl ?_
      refine mV rfl ?_
      refine rd_cutn 7 (d := 53) (v := vb ((decide (((ix x1 x2).Table) < 0)) || (decide ((x0.Tables.length : Int) ≤ ((ix x1 x2).Table))))) ?_ ?_
      · intro S Q r
        cases d0 : (decide (((ix x1 x2).Table) < 0))
        · intro k
          have c4 := d0
          try simp only [qa, qaD] at c4
          refine rd_yes rfl rfl (ov_faddrO rfl) ?_
          refine rd_yes rfl rfl (ov_loadf (k := 0) a8 rfl rfl (api_ControlNode.g_Table a9)) ?_
          obtain ⟨f3, e6, c5⟩ := api_Program.g_Tables r0
          refine rd_yes rfl rfl (ov_faddr rfl e6) ?_
          refine rd_yes rfl rfl (ov_load rfl (TR.cnt (tSl api_Table.t) c5) (TR.agg (tSl api_Table.t) c5)) ?_
          refine rd_yes rfl rfl (ov_bi rfl (sl_len c5 Try.underlying26 _)) ?_
          refine rd_yes rfl rfl (ov_bin rfl rfl i_geq) ?_
          exact gK rfl rfl rfl rfl rfl k
        · exact gN 6 rfl rfl rfl rfl rfl rfl
      refine mV rfl ?_
      refine nS ?_
      refine rc_br hres rfl ?_ ?_ <;> clear hres <;> intro c hres <;> try simp only [qa, qaD] at c
      · refine sR ?_
        refine mI rfl ?_
        refine nS ?_
        exact rR hres rfl rfl rfl
      · refine sR ?_
        refine mV rfl ?_
        refine mV rfl ?_
        obtain ⟨f7, e0, hres⟩ := let_ex hres
        have d7 := f77_ok (x1 := x2) r1 (by first | assumption | omega) (by first | assumption | omega)
        rw [e0] at d7
        refine cL d7 rfl rfl (clL_cons (TR.clo (tSl api_ControlNode.t) r1) (clL_cons rfl clL_nil)) ?_
        refine mV rfl ?_
        refine nS ?_
        refine rc_br hres rfl ?_ ?_ <;> clear hres <;> intro c hres <;> try simp only [qa, qaD] at c
        · refine sR ?_
          refine mI rfl ?_
          refine nS ?_
          exact rR hres rfl rfl rfl
        · refine sR ?_
          refine rd_op (ov_faddrO rfl) ?_
          refine rd_op (ov_loadf (k := 0) a8 rfl rfl (api_ControlNode.g_Kind a9)) ?_
          refine bN i_eql rfl rfl ?_
          refine mV rfl ?_
          refine rd_cutn 9 (d := 71) (v := vb ((decide (((ix x1 x2).Kind) = 1)) && (decide (0 < (wr ((((ix x1 x2).Then).length : Int) + (((ix x1 x2).Else).length : Int))))))) ?_ ?_
          · intro S Q r
            cases d8 : (decide (((ix x1 x2).Kind) = 1))
            · exact gN 8 rfl rfl rfl rfl rfl rfl
            · intro k
              have b9 := d8
              try simp only [qa, qaD] at b9
              refine rd_yes rfl rfl (ov_faddrO rfl) ?_
              obtain ⟨f5, e8, e9⟩ := api_ControlNode.g_Then a9
              refine rd_yes rfl rfl (ov_loadf (k := 0) a8 rfl rfl e8) ?_
              refine rd_yes rfl rfl (ov_bi rfl (sl_len e9 Try.underlying28 _)) ?_
              refine rd_yes rfl rfl (ov_faddrO rfl) ?_
              obtain ⟨f6, e5, e2⟩ := api_ControlNode.g_Else a9
              refine rd_yes rfl rfl (ov_loadf (k := 0) a8 rfl rfl e5) ?_
              refine rd_yes rfl rfl (ov_bi rfl (sl_len e2 Try.underlying28 _)) ?_
              refine rd_yes rfl rfl (ov_bin rfl rfl i_add) ?_
              refine rd_yes rfl rfl (ov_bin rfl rfl i_gtr) ?_
              exact gK rfl rfl rfl rfl rfl k
          refine mV rfl ?_
          refine nS ?_
          refine rc_br hres rfl ?_ ?_ <;> clear hres <;> intro c hres <;> try simp only [qa, qaD] at c
          · refine sR ?_
            refine mI rfl ?_
            refine nS ?_
            exact rR hres rfl rfl rfl
          · refine rc_skip ?_
            refine pn_blk ?_
            refine pn_seq ?_
            refine sR ?_
            refine mI rfl ?_
            refine nS ?_
            exact rR hres rfl rfl rfl

def RF17 (res : Int × Int) (r : PV) : Prop := r = .tup [vi res.1, vi res.2]
theorem ref20_Check_L1_ok {S : List Fr} {res : Int × Int} {x0 : api_Program} {a7 a6 : Int} {a1 : (List api_ControlNode)} {v0 a5 : PV} (r0 : api_Program.t.R x0 v0) (hs : csl x0.Control ≤ 1000) (b5 : ref20_Count x0.Control = a7) (b1 : (decide (24 < a7)) = false) (b3 : ref20_Nesting x0.Control = a6) (a9 : (decide (6 < a6)) = false) (b4 : ref20_Preorder x0.Control = a1) (a0 : (tSl api_ControlNode.t).R a1 a5) {K1 : Unit → (Int × Int)}
    (b8 : K1 () = res → PX Try.prog 1 S (QR Try.prog [(2, none), (3, none)] (RF17 res)) [] ⟨0, []⟩) :
    ∀ {m : Nat} {a2 : Int} (b6 : m = Int.toNat ((a1.length : Int) - a2)) (a8 : 0 ≤ a2), ref20_Check_L1 x0 a1 K1 m a2 = res → RC Try.prog (.loop ac17_L1) S (QR Try.prog [(2, none), (3, none)] (RF17 res)) [(5, vi a2), (4, a5), (1, .fp v0)] ⟨0, []⟩ := by
  have a4 := b1
  try simp only [qa, qaD] at a4
  have a3 := a9
  try simp only [qa, qaD] at a3
  intro m
  induction m with
  | zero =>
    intro a2 b6 a8 hres
    rw [ref20_Check_L1] at hres
    refine rc_loop ?_
    refine rc_seq ?_
    refine sR ?_
    refine mV rfl ?_
    refine mV rfl ?_
    refine rd_op (ov_bi rfl (sl_len a0 Try.underlying28 _)) ?_
    refine bN i_lss rfl rfl ?_
    refine nS ?_
    refine rc_cond rfl ?_ ?_ <;> intro c <;> try simp only [qa, qaD] at c
    · omega
    refine rc_exit ?_
    refine px_seq ?_
    refine px_again ?_
    exact wP (b8  hres) rfl
  | succ m ih =>
    intro a2 b6 a8 hres
    rw [ref20_Check_L1] at hres
    refine rc_loop ?_
    refine rc_seq ?_
    refine sR ?_
    refine mV rfl ?_
    refine mV rfl ?_
    refine rd_op (ov_bi rfl (sl_len a0 Try.underlying28 _)) ?_
    refine bN i_lss rfl rfl ?_
    refine nS ?_
    refine rc_cond rfl ?_ ?_ <;> intro c <;> try simp only [qa, qaD] at c
    rotate_left
    · omega
    refine rc_skip ?_
    refine pn_seq ?_
    refine rc_seq ?_
    refine rc_block ?_
    refine sR ?_
    refine lD r0 rfl rfl rfl ?_
    refine mV rfl ?_
    refine mV rfl ?_
    obtain ⟨b7, b2, hres⟩ := let_ex hres
    have b0 := f53_ok (x2 := a2) r0 a0 (by first | assumption | omega) (by first | assumption | omega)
    rw [b2] at b0
    refine cL b0 rfl rfl (clL_cons (TR.clo api_Program.t r0) (clL_cons (TR.clo (tSl api_ControlNode.t) a0) (clL_cons rfl clL_nil))) ?_
    refine mV rfl ?_
    refine nR ?_
    refine mV rfl ?_
    refine bN i_neq rfl rfl ?_
    refine nS ?_
    refine rc_br hres rfl ?_ ?_ <;> clear hres <;> intro c hres <;> try simp only [qa, qaD] at c
    · refine sR ?_
      refine mV rfl ?_
      refine mV rfl ?_
      refine mV rfl ?_
      refine mV rfl ?_
      refine nS ?_
      exact rT hres rfl rfl rfl rfl rfl
    · refine rc_skip ?_
      refine pn_blk ?_
      refine pn_seq ?_
      refine rc_region ?_
      refine mV rfl ?_
      refine bN i_add rfl rfl ?_
      refine mV rfl ?_
      refine rd_nil ?_
      refine pn_again ?_
      have hbd := sl_bound a0
      have hinc : wr (a2 + 1) = a2 + 1 := wr_of (by omega) (by omega)
      erw [hinc]
      exact wC (ih   (by omega) (by omega) hres) rfl

theorem f17_ok {x0 : api_Program} {v0 : PV} (r0 : api_Program.t.R x0 v0) (hs : csl x0.Control ≤ 1000) : FnR Try.prog 17 [v0] (.tup [vi ((ref20_Check x0).1), vi ((ref20_Check x0).2)]) := by
  refine fnS (R := RF17) text17 (fun _ h => h) rfl fun res hres => ?_
  unfold ref20_Check at hres
  refine sR ?_
  refine rd_op (ov_box rfl (TR.cnt api_Program.t r0)) ?_
  refine mI rfl ?_
  refine mI rfl ?_
  refine nS ?_
  refine rc_seq ?_
  refine rc_block ?_
  refine sR ?_
  refine gL (api_Program.g_Control r0) rfl rfl rfl fun c5 b1 => ?_
  obtain ⟨b8, a4, hres⟩ := let_ex hres
  have a8 := f21_ok  b1 
  rw [a4] at a8
  refine cL a8 rfl rfl (clL_cons (TR.clo (tSl api_ControlNode.t) b1) clL_nil) ?_
  refine bN i_gtr rfl rfl ?_
  refine mV rfl ?_
  refine nS ?_
  refine rc_br hres rfl ?_ ?_ <;> clear hres <;> intro a3 hres <;> have a7 := a3 <;> try simp only [qa, qaD] at a7
  · refine sR ?_
    refine mI rfl ?_
    refine mI rfl ?_
    refine nS ?_
    exact rT hres rfl rfl rfl rfl rfl
  · refine sR ?_
    refine gL (api_Program.g_Control r0) rfl rfl rfl fun c4 b0 => ?_
    obtain ⟨b7, a0, hres⟩ := let_ex hres
    have a9 := f23_ok  b0 
    rw [a0] at a9
    refine cL a9 rfl rfl (clL_cons (TR.clo (tSl api_ControlNode.t) b0) clL_nil) ?_
    refine bN i_gtr rfl rfl ?_
    refine mV rfl ?_
    refine nS ?_
    refine rc_br hres rfl ?_ ?_ <;> clear hres <;> intro a1 hres <;> have a6 := a1 <;> try simp only [qa, qaD] at a6
    · refine sR ?_
      refine mI rfl ?_
      refine mI rfl ?_
      refine nS ?_
      exact rT hres rfl rfl rfl rfl rfl
    · refine rc_skip ?_
      refine pn_blk ?_
      refine pn_seq ?_
      refine sR ?_
      obtain ⟨b5, b3, a5⟩ := api_Program.g_Control r0
      refine fA rfl b3 ?_
      refine lD a5 rfl rfl rfl ?_
      obtain ⟨b9, a2, hres⟩ := let_ex hres
      obtain ⟨b6, b4, b2⟩ := f52_ok  a5 (by first | assumption | omega)
      rw [a2] at b2
      refine cL b4 rfl rfl (clL_cons (TR.clo (tSl api_ControlNode.t) a5) clL_nil) ?_
      refine mV rfl ?_
      refine nS ?_
      refine rc_seq ?_
      refine sR ?_
      refine mI rfl ?_
      refine nS ?_
      refine rc_block ?_
      refine wC (ref20_Check_L1_ok r0 hs a4 a3 a0 a1 a2 b2 ?_  rfl (by omega) hres) rfl
      · intro  hres
        refine px_blk ?_
        refine pn_seq ?_
        refine sR ?_
        refine mI rfl ?_
        refine mI rfl ?_
        refine nS ?_
        exact rT hres rfl rfl rfl rfl rfl

def RF80 (res : (List api_Guard)) (r : PV) : Prop := (tSl api_Guard.t).R res r
theorem f80_ok {x0 : List api_Guard} {x1 : Int} {x2 : Bool} {v0 : PV} (r0 : (tSl api_Guard.t).R x0 v0) (hb : x0.length ≤ 1000) : ∃ r, FnR Try.prog 80 [v0, vi x1, vb x2] r ∧ (tSl api_Guard.t).R (ref32_under x0 x1 x2) r := by
  refine fnT (R := RF80) text80 rfl fun res hres => ?_
  unfold ref32_under at hres
  refine sR ?_
  refine rd_op (v := nilS) (ov_move rfl) ?_
  refine nR ?_
  refine rd_op (v := nilS) (ov_move rfl) ?_
  refine nR ?_
  refine mV rfl ?_
  refine mV rfl ?_
  have b3 := mem_acc (sz := 2) (es := []) (Mem.nil ⟨0, []⟩) 60 (.inl ⟨none, rfl, rfl⟩) (by simp)
  obtain ⟨a0, b1, a3⟩ := src_of (t := api_Guard.t) (h := ⟨0, []⟩) r0
  have a6 : fits (([] : List PV).length + a0.length) 16 = true := by rw [All2.length_eq (show All2 api_Guard.t.R ([] : List api_Guard) [] from trivial), All2.length_eq a3]; (try simp only [List.length_cons, List.length_nil]); exact fits_of (by first | omega | (simp only [List.length_append, List.length_cons, List.length_nil] at *; omega)) (by first | omega | (simp only [List.length_append, List.length_cons, List.length_nil] at *; omega))
  refine rd_appW (k := 0) (es := ([] : List PV)) (news := a0) b3 rfl rfl rfl rfl (.inl rfl) b1 a6 (fun c7 b4 b9 a9 b2 => ?_)
  have a4 : All2 api_Guard.t.R x0 (([] : List PV) ++ a0) := All2.app (show All2 api_Guard.t.R ([] : List api_Guard) [] from trivial) a3
  have c5 : x0.length ≤ 4611686018427387904 := by rw [← All2.length_eq a4, List.length_append]; exact fits_len a6
  refine mV rfl ?_
  refine nR ?_
  refine mV rfl ?_
  refine mV rfl ?_
  refine mV rfl ?_
  refine rd_op (v := .agg [vi x1, vb x2]) (ov_build (cs := [vi x1, vb x2]) rfl rfl) ?_
  refine rd_op (v := .fs true [.agg [vi x1, vb x2]]) (ov_bslice rfl (all_cons rfl all_nil)) ?_
  have b7 : (tSl api_Guard.t).R ([({ Unit := x1, Want := x2 } : api_Guard)] : List api_Guard) (.fs true [.agg [vi x1, vb x2]]) := sl_fs ⟨rfl, trivial⟩ (by simp)
  obtain ⟨a1, a7, a2⟩ := src_of (t := api_Guard.t) (h := b4) b7
  have a8 : fits ((([] : List PV) ++ a0).length + a1.length) 16 = true := by rw [All2.length_eq a4, All2.length_eq a2]; (try simp only [List.length_cons, List.length_nil]); exact fits_of (by first | omega | (simp only [List.length_append, List.length_cons, List.length_nil] at *; omega)) (by first | omega | (simp only [List.length_append, List.length_cons, List.length_nil] at *; omega))
  refine rd_appW (k := 0) (es := (([] : List PV) ++ a0)) (news := a1) b2 rfl rfl rfl b9 a9 a7 a8 (fun d0 c9 c4 c6 b5 => ?_)
  have b0 : All2 api_Guard.t.R (x0 ++ ([({ Unit := x1, Want := x2 } : api_Guard)] : List api_Guard)) ((([] : List PV) ++ a0) ++ a1) := All2.app a4 a2
  have a5 : (x0 ++ ([({ Unit := x1, Want := x2 } : api_Guard)] : List api_Guard)).length ≤ 4611686018427387904 := by rw [← All2.length_eq b0, List.length_append]; exact fits_len a8
  refine mV rfl ?_
  refine nS ?_
  obtain ⟨c8, b6, b8⟩ := own_sl (P := Try.prog) (k := 0) (t := api_Guard.t) b5 rfl c4 b0 (Nat.le_trans a5 (by decide))
  subst hres
  exact rc_retV (.tmp rfl .nil) b6 b8

def RF67 (R_ : List Ent) (res : (List api_Unit)) (r : PV) (h : Heap) : Prop := ∃ asR0_ : PV, ∃ esR0_ : List PV, Mem h (⟨asR0_, 58, 3, esR0_⟩ :: R_) ∧ (All2 api_Unit.t.R res esR0_) ∧ (isL asR0_ = true) ∧ (res.length ≤ 4611686018427387904) ∧ (Wri asR0_ esR0_) ∧ r = asR0_
theorem ref32_collect_L1_ok {S : List Fr} {res : (List api_Unit)} {x0 : List api_Unit} {x1 : List api_ControlNode} {x2 : List api_Guard} {rec_ : (List api_Unit) → (List api_ControlNode) → (List api_Guard) → (List api_Unit)} {mu_ : Nat} {v1 v2 : PV} {R_ : List Ent} {a5 : PV} {b5 : List PV} (r1 : (tSl api_ControlNode.t).R x1 v1) (r2 : (tSl api_Guard.t).R x2 v2) (m9 : isL a5 = true) (o2 : x0.length ≤ 4611686018427387904) (l8 : Wri a5 b5) (hc : x0.length + csl x1 ≤ 1000) (hg : x2.length + csl x1 ≤ 1000) (ihR : ∀ {z0 : List api_Unit} {z1 : List api_ControlNode} {z2 : List api_Guard} {p2 p8 a5 : PV} {b5 : List PV} {R_ : List Ent} {h_ : Heap} (s6 : (tSl api_ControlNode.t).R z1 p2) (s5 : (tSl api_Guard.t).R z2 p8) (s0 : All2 api_Unit.t.R z0 b5) (m9 : isL a5 = true) (o2 : z0.length ≤ 4611686018427387904) (l8 : Wri a5 b5) (M_ : Mem h_ (⟨a5, 58, 3, b5⟩ :: R_)) (hc : z0.length + csl z1 ≤ 1000) (hg : z2.length + csl z1 ≤ 1000), csl z1 < mu_ → ∃ r p6, FnX Try.prog 67 [a5, p2, p8] h_ r p6 ∧ RF67 R_ (rec_ z0 z1 z2) r p6) (hmu : mu_ = csl x1) (hrec : ∀ z0 z1 z2, (rec_ z0 z1 z2).length ≤ z0.length + csl z1) {K0 : (List api_Unit) → (List api_Unit)}
    (q4 : ∀ {a3 : List api_Unit} {a1 : List PV} {b1 : PV} (b9 : All2 api_Unit.t.R a3 a1) (e6 : isL b1 = true) (a9 : Wri b1 a1) (e3 : a3.length ≤ 4611686018427387904) {h : Heap} (M0 : Mem h (⟨b1, 58, 3, a1⟩ :: R_)), K0 a3 = res → PX Try.prog 0 S (retPost Try.prog [(6, none)] (RF67 R_ res)) [(0, b1)] h) :
    ∀ {m : Nat} {a0 : Int} {a3 : List api_Unit} {a1 : List PV} {b1 : PV} (b9 : All2 api_Unit.t.R a3 a1) (e6 : isL b1 = true) (a9 : Wri b1 a1) (e3 : a3.length ≤ 4611686018427387904) (p3 : m = Int.toNat ((x1.length : Int) - a0)) (h2 : 0 ≤ a0) (f3 : a3.length + csl (x1.drop a0.toNat) ≤ x0.length + csl x1) {h : Heap} (M0 : Mem h (⟨b1, 58, 3, a1⟩ :: R_)), ref32_collect_L1 x1 x2 rec_ K0 m a0 a3 = res → RC Try.prog (.loop ac67_L1) S (retPost Try.prog [(6, none)] (RF67 R_ res)) [(7, vi a0), (2, v2), (1, v1), (0, b1)] h := by
  have hc' := hc
  try simp only [qa, qaD] at hc'
  intro m
  induction m with
  | zero =>
    intro a0 a3 a1 b1 b9 e6 a9 e3 p3 h2 f3 h M0 hres
    rw [ref32_collect_L1] at hres
    refine rc_loop ?_
    refine rc_seq ?_
    refine sR ?_
    refine mV rfl ?_
    refine mV rfl ?_
    refine rd_op (ov_bi rfl (sl_len r1 Try.underlying28 _)) ?_
    refine bN i_lss rfl rfl ?_
    refine nS ?_
    refine rc_cond rfl ?_ ?_ <;> intro c <;> try simp only [qa, qaD] at c
    · omega
    refine rc_exit ?_
    refine px_seq ?_
    refine px_again ?_
    exact wP (q4 b9 e6 a9 e3 (Mem.sub M0 (.cons_cons _ (List.Sublist.refl R_))) hres) rfl
  | succ m ih =>
    intro a0 a3 a1 b1 b9 e6 a9 e3 p3 h2 f3 h M0 hres
    rw [ref32_collect_L1] at hres
    refine rc_loop ?_
    refine rc_seq ?_
    refine sR ?_
    refine mV rfl ?_
    refine mV rfl ?_
    refine rd_op (ov_bi rfl (sl_len r1 Try.underlying28 _)) ?_
    refine bN i_lss rfl rfl ?_
    refine nS ?_
    refine rc_cond rfl ?_ ?_ <;> intro c <;> try simp only [qa, qaD] at c
    rotate_left
    · omega
    refine rc_skip ?_
    refine pn_seq ?_
    refine rc_seq ?_
    refine rc_block ?_
    refine sR ?_
    refine mV rfl ?_
    refine mV rfl ?_
    obtain ⟨r7, l5, j6⟩ := sl_idx (i := a0) r1 (by omega) (by omega)
    refine rd_op (ov_iaddr rfl rfl l5) ?_
    refine fL rfl (api_ControlNode.g_Table j6) rfl rfl ?_
    refine mV rfl ?_
    refine rd_op (v := .agg [vi ((ix x1 a0).Table), nilS, v2]) (ov_build (cs := [vi ((ix x1 a0).Table), nilS, v2]) rfl (by simp only [buildV, cells_one (TR.cnt (tSl api_Guard.t) r2) (TR.agg (tSl api_Guard.t) r2)]; rfl)) ?_
    refine rd_allocO (x := .agg [vi 0, nilS, nilS]) M0 rfl rfl (fun b0 a8 q6 o1 => ?_)
    refine rd_storeO (k := 0) (v := .agg [vi ((ix x1 a0).Table), nilS, v2]) o1 rfl rfl rfl rfl (fun g4 b2 => ?_)
    replace b2 : Mem g4 (⟨.op b0 a8 0, 58, 3, [.agg [vi ((ix x1 a0).Table), nilS, v2]]⟩ :: ⟨b1, 58, 3, a1⟩ :: R_) := b2
    refine nS ?_
    refine rc_seq ?_
    refine sR ?_
    refine mV rfl ?_
    refine mV rfl ?_
    obtain ⟨r9, m7, j2⟩ := sl_idx (i := a0) r1 (by omega) (by omega)
    refine rd_op (ov_iaddr rfl rfl m7) ?_
    refine fL rfl (api_ControlNode.g_Kind j2) rfl rfl ?_
    refine bN i_eql rfl rfl ?_
    refine nS ?_
    refine rc_br hres rfl ?_ ?_ <;> clear hres <;> intro c hres <;> try simp only [qa, qaD] at c
    · refine rc_region ?_
      refine mV rfl ?_
      refine mV rfl ?_
      obtain ⟨r4, n0, l6⟩ := sl_idx (i := a0) r1 (by omega) (by omega)
      refine rd_op (ov_iaddr rfl rfl n0) ?_
      refine gL (api_ControlNode.g_Cond l6) rfl rfl rfl fun a4 g1 => ?_
      refine mV rfl ?_
      refine rd_op (v := .agg [vi (-1), a4, v2]) (ov_build (cs := [vi (-1), a4, v2]) rfl (by simp only [buildV, cells_one (TR.cnt (tSl api_ExprNode.t) g1) (TR.agg (tSl api_ExprNode.t) g1), cells_one (TR.cnt (tSl api_Guard.t) r2) (TR.agg (tSl api_Guard.t) r2)]; rfl)) ?_
      refine rd_storeO (k := 0) (v := .agg [vi (-1), a4, v2]) b2 rfl rfl rfl rfl (fun i0 b4 => ?_)
      replace b4 : Mem i0 (⟨.op b0 a8 0, 58, 3, [.agg [vi (-1), a4, v2]]⟩ :: ⟨b1, 58, 3, a1⟩ :: R_) := b4
      refine nR ?_
      refine mV rfl ?_
      refine rd_op (ov_bi rfl (own_len (k := 1) b4 rfl Try.underlying48 e6 b9 _)) ?_
      refine mV rfl ?_
      refine nR ?_
      refine mV rfl ?_
      refine rd_op (ov_load0 (k := 0) b4 rfl rfl rfl) ?_
      refine rd_op (v := .fs true [.agg [vi (-1), a4, v2]]) (ov_bslice rfl (all_cons rfl all_nil)) ?_
      have j4 : (tSl api_Unit.t).R ([({ Table := (-1), Cond := (ix x1 a0).Cond, Guards := x2 } : api_Unit)] : List api_Unit) (.fs true [.agg [vi (-1), a4, v2]]) := sl_fs ⟨⟨a4, v2, rfl, g1, r2⟩, trivial⟩ (by simp)
      obtain ⟨a6, h0, f5⟩ := src_of (t := api_Unit.t) (h := i0) j4
      have h5 : fits (a1.length + a6.length) 56 = true := by rw [All2.length_eq b9, All2.length_eq f5]; (try simp only [List.length_cons, List.length_nil]); exact fits_of (by first | omega | (have hk := csl_drop (l := x1) (i := a0) (by omega) (by omega); have a2 := csl_ix (l := x1) (i := a0) (by omega) (by omega); (try simp only [ub11_len, under_len, List.length_append, List.length_cons, List.length_nil] at *); omega)) (by first | omega | (have hk := csl_drop (l := x1) (i := a0) (by omega) (by omega); have a2 := csl_ix (l := x1) (i := a0) (by omega) (by omega); (try simp only [ub11_len, under_len, List.length_append, List.length_cons, List.length_nil] at *); omega))
      refine rd_appW (k := 1) (es := a1) (news := a6) b4 rfl rfl rfl e6 a9 h0 h5 (fun j3 n4 j1 h3 o0 => ?_)
      have h9 : All2 api_Unit.t.R (a3 ++ ([({ Table := (-1), Cond := (ix x1 a0).Cond, Guards := x2 } : api_Unit)] : List api_Unit)) (a1 ++ a6) := All2.app b9 f5
      have i4 : (a3 ++ ([({ Table := (-1), Cond := (ix x1 a0).Cond, Guards := x2 } : api_Unit)] : List api_Unit)).length ≤ 4611686018427387904 := by rw [← All2.length_eq h9, List.length_append]; exact fits_len h5
      refine mV rfl ?_
      refine nS ?_
      refine rc_seq ?_
      refine rc_regionU ?_
      refine rx_step ?_
      refine mV rfl ?_
      refine rx_back ?_
      refine rx_step ?_
      refine mV rfl ?_
      refine rx_back ?_
      refine rx_step ?_
      refine mV rfl ?_
      refine rx_back ?_
      refine rx_step ?_
      obtain ⟨q9, j7, j9⟩ := sl_idx (i := a0) r1 (by omega) (by omega)
      refine rd_op (ov_iaddr rfl rfl j7) ?_
      refine rx_back ?_
      refine rx_step ?_
      obtain ⟨s4, n6, i3⟩ := api_ControlNode.g_Then j9
      refine fA rfl n6 ?_
      refine rx_back ?_
      refine rx_step ?_
      refine lD i3 rfl rfl rfl ?_
      refine rx_back ?_
      refine rx_step ?_
      refine mV rfl ?_
      refine rx_back ?_
      refine rx_step ?_
      refine mV rfl ?_
      refine rx_back ?_
      refine rx_step ?_
      obtain ⟨n7, e8, hres⟩ := let_ex hres
      obtain ⟨q2, k4, h1⟩ := f80_ok (x1 := (a3.length : Int)) (x2 := true) r2 (by first | omega | (have hk := csl_drop (l := x1) (i := a0) (by omega) (by omega); have a2 := csl_ix (l := x1) (i := a0) (by omega) (by omega); (try simp only [ub11_len, under_len, List.length_append, List.length_cons, List.length_nil] at *); omega))
      rw [e8] at h1
      have o6 := un_use e8
      refine cL k4 rfl rfl (clL_cons (TR.clo (tSl api_Guard.t) r2) (clL_cons rfl (clL_cons rfl clL_nil))) ?_
      refine rx_back ?_
      have l0 : Mem n4 (⟨j3, 58, 3, (a1 ++ a6)⟩ :: ⟨.op b0 a8 0, 58, 3, [.agg [vi (-1), a4, v2]]⟩ :: R_) := (Mem.front (k := 1) o0 rfl)
      obtain ⟨n8, f8, hres⟩ := let_ex hres
      obtain ⟨p5, l3, i5, f7⟩ := ihR (z0 := (a3 ++ ([({ Table := (-1), Cond := (ix x1 a0).Cond, Guards := x2 } : api_Unit)] : List api_Unit))) (z1 := ((ix x1 a0).Then)) (z2 := n7) i3 h1 h9 j1 i4 h3 l0 (by first | omega | (have hk := csl_drop (l := x1) (i := a0) (by omega) (by omega); have a2 := csl_ix (l := x1) (i := a0) (by omega) (by omega); (try simp only [ub11_len, under_len, List.length_append, List.length_cons, List.length_nil] at *); omega)) (by first | omega | (have hk := csl_drop (l := x1) (i := a0) (by omega) (by omega); have a2 := csl_ix (l := x1) (i := a0) (by omega) (by omega); (try simp only [ub11_len, under_len, List.length_append, List.length_cons, List.length_nil] at *); omega)) (by first | omega | (have hk := csl_drop (l := x1) (i := a0) (by omega) (by omega); have a2 := csl_ix (l := x1) (i := a0) (by omega) (by omega); (try simp only [ub11_len, under_len, List.length_append, List.length_cons, List.length_nil] at *); omega))
      rw [f8] at f7
      obtain ⟨d8, e4, n3, c4, d0, e1, d1, b6⟩ := f7
      replace b6 := b6.symm; subst b6
      refine rx_callXc rfl rfl i5 ?_
      have o5 := cl_use hrec f8
      refine rx_step ?_
      refine mV rfl ?_
      refine rx_back ?_
      refine rx_nil ?_
      refine pn_seq ?_
      refine rc_regionU ?_
      refine rx_step ?_
      refine mV rfl ?_
      refine rx_back ?_
      refine rx_step ?_
      refine mV rfl ?_
      refine rx_back ?_
      refine rx_step ?_
      refine mV rfl ?_
      refine rx_back ?_
      refine rx_step ?_
      obtain ⟨q1, k0, k6⟩ := sl_idx (i := a0) r1 (by omega) (by omega)
      refine rd_op (ov_iaddr rfl rfl k0) ?_
      refine rx_back ?_
      refine rx_step ?_
      obtain ⟨q5, m4, i6⟩ := api_ControlNode.g_Else k6
      refine fA rfl m4 ?_
      refine rx_back ?_
      refine rx_step ?_
      refine lD i6 rfl rfl rfl ?_
      refine rx_back ?_
      refine rx_step ?_
      refine mV rfl ?_
      refine rx_back ?_
      refine rx_step ?_
      refine mV rfl ?_
      refine rx_back ?_
      refine rx_step ?_
      obtain ⟨k9, f9, hres⟩ := let_ex hres
      obtain ⟨r0, o4, h8⟩ := f80_ok (x1 := (a3.length : Int)) (x2 := false) r2 (by first | omega | (have hk := csl_drop (l := x1) (i := a0) (by omega) (by omega); have a2 := csl_ix (l := x1) (i := a0) (by omega) (by omega); (try simp only [ub11_len, under_len, List.length_append, List.length_cons, List.length_nil] at *); omega))
      rw [f9] at h8
      have o7 := un_use f9
      refine cL o4 rfl rfl (clL_cons (TR.clo (tSl api_Guard.t) r2) (clL_cons rfl (clL_cons rfl clL_nil))) ?_
      refine rx_back ?_
      have m6 : Mem l3 (⟨d8, 58, 3, e4⟩ :: ⟨.op b0 a8 0, 58, 3, [.agg [vi (-1), a4, v2]]⟩ :: R_) := (Mem.front (k := 0) n3 rfl)
      obtain ⟨q3, g0, hres⟩ := let_ex hres
      obtain ⟨o8, r3, g6, e5⟩ := ihR (z0 := n8) (z1 := ((ix x1 a0).Else)) (z2 := k9) i6 h8 c4 d0 e1 d1 m6 (by first | omega | (have hk := csl_drop (l := x1) (i := a0) (by omega) (by omega); have a2 := csl_ix (l := x1) (i := a0) (by omega) (by omega); (try simp only [ub11_len, under_len, List.length_append, List.length_cons, List.length_nil] at *); omega)) (by first | omega | (have hk := csl_drop (l := x1) (i := a0) (by omega) (by omega); have a2 := csl_ix (l := x1) (i := a0) (by omega) (by omega); (try simp only [ub11_len, under_len, List.length_append, List.length_cons, List.length_nil] at *); omega)) (by first | omega | (have hk := csl_drop (l := x1) (i := a0) (by omega) (by omega); have a2 := csl_ix (l := x1) (i := a0) (by omega) (by omega); (try simp only [ub11_len, under_len, List.length_append, List.length_cons, List.length_nil] at *); omega))
      rw [g0] at e5
      obtain ⟨i7, i9, n2, d3, d6, e2, c8, b8⟩ := e5
      replace b8 := b8.symm; subst b8
      refine rx_callXc rfl rfl g6 ?_
      have o9 := cl_use hrec g0
      refine rx_step ?_
      refine mV rfl ?_
      refine rx_back ?_
      refine rx_nil ?_
      refine pn_blk ?_
      refine pn_seq ?_
      refine rc_region ?_
      refine mV rfl ?_
      refine bN i_add rfl rfl ?_
      refine mV rfl ?_
      refine rd_nil ?_
      refine pn_again ?_
      have hbd := sl_bound r1
      have hinc : wr (a0 + 1) = a0 + 1 := wr_of (by omega) (by omega)
      erw [hinc]
      exact wC (ih  d3 d6 c8 e2 (by omega) (by omega) (by first | omega | (have hk := csl_drop (l := x1) (i := a0) (by omega) (by omega); have a2 := csl_ix (l := x1) (i := a0) (by omega) (by omega); (try simp only [ub11_len, under_len, List.length_append, List.length_cons, List.length_nil] at *); omega)) (Mem.sub n2 (.cons_cons _ (.cons _ (List.Sublist.refl R_)))) hres) rfl
    · refine rc_skip ?_
      refine pn_seq ?_
      refine sR ?_
      refine mV rfl ?_
      refine rd_op (ov_bi rfl (own_len (k := 1) b2 rfl Try.underlying48 e6 b9 _)) ?_
      refine mV rfl ?_
      refine nR ?_
      refine mV rfl ?_
      refine rd_op (ov_load0 (k := 0) b2 rfl rfl rfl) ?_
      refine rd_op (v := .fs true [.agg [vi ((ix x1 a0).Table), nilS, v2]]) (ov_bslice rfl (all_cons rfl all_nil)) ?_
      have n9 : (tSl api_Unit.t).R ([({ Table := (ix x1 a0).Table, Cond := ([] : List api_ExprNode), Guards := x2 } : api_Unit)] : List api_Unit) (.fs true [.agg [vi ((ix x1 a0).Table), nilS, v2]]) := sl_fs ⟨⟨nilS, v2, rfl, sl_nil, r2⟩, trivial⟩ (by simp)
      obtain ⟨a7, h4, f0⟩ := src_of (t := api_Unit.t) (h := g4) n9
      have g5 : fits (a1.length + a7.length) 56 = true := by rw [All2.length_eq b9, All2.length_eq f0]; (try simp only [List.length_cons, List.length_nil]); exact fits_of (by first | omega | (have hk := csl_drop (l := x1) (i := a0) (by omega) (by omega); have a2 := csl_ix (l := x1) (i := a0) (by omega) (by omega); (try simp only [ub11_len, under_len, List.length_append, List.length_cons, List.length_nil] at *); omega)) (by first | omega | (have hk := csl_drop (l := x1) (i := a0) (by omega) (by omega); have a2 := csl_ix (l := x1) (i := a0) (by omega) (by omega); (try simp only [ub11_len, under_len, List.length_append, List.length_cons, List.length_nil] at *); omega))
      refine rd_appW (k := 1) (es := a1) (news := a7) b2 rfl rfl rfl e6 a9 h4 g5 (fun m8 k7 m1 g7 m2 => ?_)
      have g8 : All2 api_Unit.t.R (a3 ++ ([({ Table := (ix x1 a0).Table, Cond := ([] : List api_ExprNode), Guards := x2 } : api_Unit)] : List api_Unit)) (a1 ++ a7) := All2.app b9 f0
      have g2 : (a3 ++ ([({ Table := (ix x1 a0).Table, Cond := ([] : List api_ExprNode), Guards := x2 } : api_Unit)] : List api_Unit)).length ≤ 4611686018427387904 := by rw [← All2.length_eq g8, List.length_append]; exact fits_len g5
      refine mV rfl ?_
      refine nS ?_
      refine rc_seq ?_
      refine rc_regionU ?_
      refine rx_step ?_
      refine mV rfl ?_
      refine rx_back ?_
      refine rx_step ?_
      refine mV rfl ?_
      refine rx_back ?_
      refine rx_step ?_
      refine mV rfl ?_
      refine rx_back ?_
      refine rx_step ?_
      obtain ⟨q7, k3, l9⟩ := sl_idx (i := a0) r1 (by omega) (by omega)
      refine rd_op (ov_iaddr rfl rfl k3) ?_
      refine rx_back ?_
      refine rx_step ?_
      obtain ⟨r8, k5, g3⟩ := api_ControlNode.g_Then l9
      refine fA rfl k5 ?_
      refine rx_back ?_
      refine rx_step ?_
      refine lD g3 rfl rfl rfl ?_
      refine rx_back ?_
      refine rx_step ?_
      refine mV rfl ?_
      refine rx_back ?_
      refine rx_step ?_
      refine mV rfl ?_
      refine rx_back ?_
      refine rx_step ?_
      obtain ⟨l4, f6, hres⟩ := let_ex hres
      obtain ⟨s3, m5, i2⟩ := f80_ok (x1 := (a3.length : Int)) (x2 := true) r2 (by first | omega | (have hk := csl_drop (l := x1) (i := a0) (by omega) (by omega); have a2 := csl_ix (l := x1) (i := a0) (by omega) (by omega); (try simp only [ub11_len, under_len, List.length_append, List.length_cons, List.length_nil] at *); omega))
      rw [f6] at i2
      have p7 := un_use f6
      refine cL m5 rfl rfl (clL_cons (TR.clo (tSl api_Guard.t) r2) (clL_cons rfl (clL_cons rfl clL_nil))) ?_
      refine rx_back ?_
      have k8 : Mem k7 (⟨m8, 58, 3, (a1 ++ a7)⟩ :: ⟨.op b0 a8 0, 58, 3, [.agg [vi ((ix x1 a0).Table), nilS, v2]]⟩ :: R_) := (Mem.front (k := 1) m2 rfl)
      obtain ⟨l1, f4, hres⟩ := let_ex hres
      obtain ⟨q0, n5, g9, f1⟩ := ihR (z0 := (a3 ++ ([({ Table := (ix x1 a0).Table, Cond := ([] : List api_ExprNode), Guards := x2 } : api_Unit)] : List api_Unit))) (z1 := ((ix x1 a0).Then)) (z2 := l4) g3 i2 g8 m1 g2 g7 k8 (by first | omega | (have hk := csl_drop (l := x1) (i := a0) (by omega) (by omega); have a2 := csl_ix (l := x1) (i := a0) (by omega) (by omega); (try simp only [ub11_len, under_len, List.length_append, List.length_cons, List.length_nil] at *); omega)) (by first | omega | (have hk := csl_drop (l := x1) (i := a0) (by omega) (by omega); have a2 := csl_ix (l := x1) (i := a0) (by omega) (by omega); (try simp only [ub11_len, under_len, List.length_append, List.length_cons, List.length_nil] at *); omega)) (by first | omega | (have hk := csl_drop (l := x1) (i := a0) (by omega) (by omega); have a2 := csl_ix (l := x1) (i := a0) (by omega) (by omega); (try simp only [ub11_len, under_len, List.length_append, List.length_cons, List.length_nil] at *); omega))
      rw [f4] at f1
      obtain ⟨c5, d2, l2, d7, e0, c7, d9, b3⟩ := f1
      replace b3 := b3.symm; subst b3
      refine rx_callXc rfl rfl g9 ?_
      have p9 := cl_use hrec f4
      refine rx_step ?_
      refine mV rfl ?_
      refine rx_back ?_
      refine rx_nil ?_
      refine pn_seq ?_
      refine rc_regionU ?_
      refine rx_step ?_
      refine mV rfl ?_
      refine rx_back ?_
      refine rx_step ?_
      refine mV rfl ?_
      refine rx_back ?_
      refine rx_step ?_
      refine mV rfl ?_
      refine rx_back ?_
      refine rx_step ?_
      obtain ⟨r5, m3, o3⟩ := sl_idx (i := a0) r1 (by omega) (by omega)
      refine rd_op (ov_iaddr rfl rfl m3) ?_
      refine rx_back ?_
      refine rx_step ?_
      obtain ⟨s1, j5, h7⟩ := api_ControlNode.g_Else o3
      refine fA rfl j5 ?_
      refine rx_back ?_
      refine rx_step ?_
      refine lD h7 rfl rfl rfl ?_
      refine rx_back ?_
      refine rx_step ?_
      refine mV rfl ?_
      refine rx_back ?_
      refine rx_step ?_
      refine mV rfl ?_
      refine rx_back ?_
      refine rx_step ?_
      obtain ⟨m0, f2, hres⟩ := let_ex hres
      obtain ⟨q8, l7, i1⟩ := f80_ok (x1 := (a3.length : Int)) (x2 := false) r2 (by first | omega | (have hk := csl_drop (l := x1) (i := a0) (by omega) (by omega); have a2 := csl_ix (l := x1) (i := a0) (by omega) (by omega); (try simp only [ub11_len, under_len, List.length_append, List.length_cons, List.length_nil] at *); omega))
      rw [f2] at i1
      have p4 := un_use f2
      refine cL l7 rfl rfl (clL_cons (TR.clo (tSl api_Guard.t) r2) (clL_cons rfl (clL_cons rfl clL_nil))) ?_
      refine rx_back ?_
      have n1 : Mem n5 (⟨c5, 58, 3, d2⟩ :: ⟨.op b0 a8 0, 58, 3, [.agg [vi ((ix x1 a0).Table), nilS, v2]]⟩ :: R_) := (Mem.front (k := 0) l2 rfl)
      obtain ⟨r6, e7, hres⟩ := let_ex hres
      obtain ⟨p1, s2, h6, e9⟩ := ihR (z0 := l1) (z1 := ((ix x1 a0).Else)) (z2 := m0) h7 i1 d7 e0 c7 d9 n1 (by first | omega | (have hk := csl_drop (l := x1) (i := a0) (by omega) (by omega); have a2 := csl_ix (l := x1) (i := a0) (by omega) (by omega); (try simp only [ub11_len, under_len, List.length_append, List.length_cons, List.length_nil] at *); omega)) (by first | omega | (have hk := csl_drop (l := x1) (i := a0) (by omega) (by omega); have a2 := csl_ix (l := x1) (i := a0) (by omega) (by omega); (try simp only [ub11_len, under_len, List.length_append, List.length_cons, List.length_nil] at *); omega)) (by first | omega | (have hk := csl_drop (l := x1) (i := a0) (by omega) (by omega); have a2 := csl_ix (l := x1) (i := a0) (by omega) (by omega); (try simp only [ub11_len, under_len, List.length_append, List.length_cons, List.length_nil] at *); omega))
      rw [e7] at e9
      obtain ⟨j0, i8, j8, d4, c6, d5, c9, b7⟩ := e9
      replace b7 := b7.symm; subst b7
      refine rx_callXc rfl rfl h6 ?_
      have p0 := cl_use hrec e7
      refine rx_step ?_
      refine mV rfl ?_
      refine rx_back ?_
      refine rx_nil ?_
      refine pn_blk ?_
      refine pn_seq ?_
      refine rc_region ?_
      refine mV rfl ?_
      refine bN i_add rfl rfl ?_
      refine mV rfl ?_
      refine rd_nil ?_
      refine pn_again ?_
      have hbd := sl_bound r1
      have hinc : wr (a0 + 1) = a0 + 1 := wr_of (by omega) (by omega)
      erw [hinc]
      exact wC (ih  d4 c6 c9 d5 (by omega) (by omega) (by first | omega | (have hk := csl_drop (l := x1) (i := a0) (by omega) (by omega); have a2 := csl_ix (l := x1) (i := a0) (by omega) (by omega); (try simp only [ub11_len, under_len, List.length_append, List.length_cons, List.length_nil] at *); omega)) (Mem.sub j8 (.cons_cons _ (.cons _ (List.Sublist.refl R_)))) hres) rfl

theorem f67_okB {rec_ : (List api_Unit) → (List api_ControlNode) → (List api_Guard) → (List api_Unit)} {mu_ : Nat} {x0 : List api_Unit} {x1 : List api_ControlNode} {x2 : List api_Guard} {v1 v2 a0 : PV} {a1 : List PV} {R_ : List Ent} {h_ : Heap} (r1 : (tSl api_ControlNode.t).R x1 v1) (r2 : (tSl api_Guard.t).R x2 v2) (b2 : All2 api_Unit.t.R x0 a1) (b0 : isL a0 = true) (a9 : x0.length ≤ 4611686018427387904) (a8 : Wri a0 a1) (M_ : Mem h_ (⟨a0, 58, 3, a1⟩ :: R_)) (hc : x0.length + csl x1 ≤ 1000) (hg : x2.length + csl x1 ≤ 1000) (hmu : mu_ = csl x1) (hrec : ∀ z0 z1 z2, (rec_ z0 z1 z2).length ≤ z0.length + csl z1) (ihR : ∀ {z0 : List api_Unit} {z1 : List api_ControlNode} {z2 : List api_Guard} {b8 b7 a0 : PV} {a1 : List PV} {R_ : List Ent} {h_ : Heap} (c4 : (tSl api_ControlNode.t).R z1 b8) (b9 : (tSl api_Guard.t).R z2 b7) (b2 : All2 api_Unit.t.R z0 a1) (b0 : isL a0 = true) (a9 : z0.length ≤ 4611686018427387904) (a8 : Wri a0 a1) (M_ : Mem h_ (⟨a0, 58, 3, a1⟩ :: R_)) (hc : z0.length + csl z1 ≤ 1000) (hg : z2.length + csl z1 ≤ 1000), csl z1 < mu_ → ∃ r b1, FnX Try.prog 67 [a0, b8, b7] h_ r b1 ∧ RF67 R_ (rec_ z0 z1 z2) r b1) : ∃ r b1, FnX Try.prog 67 [a0, v1, v2] h_ r b1 ∧ RF67 R_ (ref32_collect_B rec_ x0 x1 x2) r b1 := by
  refine fnXX (R := RF67 R_) text67 rfl fun res hres => ?_
  unfold ref32_collect_B at hres
  refine sR ?_
  refine rd_op (v := nilS) (ov_move rfl) ?_
  refine nS ?_
  refine rc_seq ?_
  refine sR ?_
  refine mI rfl ?_
  refine nS ?_
  refine rc_block ?_
  refine wC (ref32_collect_L1_ok r1 r2 b0 a9 a8 hc hg ihR hmu hrec ?_  b2 b0 a8 a9 rfl (by omega) (by simp) (Mem.sub M_ (.cons_cons _ (List.Sublist.refl R_))) hres) rfl
  · intro b4 a2 a3 a6 a7 a4 a5 b5 b6 hres
    refine px_blk ?_
    refine pn_seq ?_
    refine sR ?_
    refine mV rfl ?_
    refine mV rfl ?_
    refine nS ?_
    have b3 : Mem b5 (⟨a3, 58, 3, a2⟩ :: R_) := (Mem.front (k := 0) b6 rfl)
    subst hres
    exact rc_retX (.tmp rfl .nil) ⟨a3, a2, Mem.sub b3 (.cons_cons _ (List.Sublist.refl R_)), a6, a7, a5, a4, rfl⟩
theorem f67_okR : ∀ (n_ : Nat) {x0 : List api_Unit} {x1 : List api_ControlNode} {x2 : List api_Guard} {v1 v2 a0 : PV} {a1 : List PV} {R_ : List Ent} {h_ : Heap} (r1 : (tSl api_ControlNode.t).R x1 v1) (r2 : (tSl api_Guard.t).R x2 v2) (a2 : All2 api_Unit.t.R x0 a1) (a5 : isL a0 = true) (a4 : x0.length ≤ 4611686018427387904) (a3 : Wri a0 a1) (M_ : Mem h_ (⟨a0, 58, 3, a1⟩ :: R_)) (hc : x0.length + csl x1 ≤ 1000) (hg : x2.length + csl x1 ≤ 1000), csl x1 < n_ → ∃ r a6, FnX Try.prog 67 [a0, v1, v2] h_ r a6 ∧ RF67 R_ (ref32_collect_R n_ x0 x1 x2) r a6 := by
  intro n_
  induction n_ with
  | zero => intros; rename_i hlt; exact absurd hlt (Nat.not_lt_zero _)
  | succ n_ ihn =>
    intro x0 x1 x2 v1 v2 a0 a1 R_ h_ r1 r2 a2 a5 a4 a3 M_ hc hg hlt
    have e_ : ref32_collect_R (n_ + 1) x0 x1 x2 = ref32_collect_B (ref32_collect_R n_) x0 x1 x2 := by rw [ref32_collect_R]
    rw [e_]
    exact f67_okB r1 r2 a2 a5 a4 a3 M_ hc hg rfl (collect_len n_) (fun {z0} {z1} {z2} {zv1} {zv2} {a0} {a1} {R_} {h_} zr1 zr2 a2 a5 a4 a3 M_ hc hg hz => ihn zr1 zr2 a2 a5 a4 a3 M_ hc hg (by omega))
theorem f67_ok {x0 : List api_Unit} {x1 : List api_ControlNode} {x2 : List api_Guard} {v1 v2 a0 : PV} {a1 : List PV} {R_ : List Ent} {h_ : Heap} (r1 : (tSl api_ControlNode.t).R x1 v1) (r2 : (tSl api_Guard.t).R x2 v2) (a2 : All2 api_Unit.t.R x0 a1) (a5 : isL a0 = true) (a4 : x0.length ≤ 4611686018427387904) (a3 : Wri a0 a1) (M_ : Mem h_ (⟨a0, 58, 3, a1⟩ :: R_)) (hc : x0.length + csl x1 ≤ 1000) (hg : x2.length + csl x1 ≤ 1000) : ∃ r a6, FnX Try.prog 67 [a0, v1, v2] h_ r a6 ∧ RF67 R_ (ref32_collect x0 x1 x2) r a6 := f67_okR _ r1 r2 a2 a5 a4 a3 M_ hc hg (Nat.lt_succ_self _)

end Go.Proofs.Ytkgnjpoafilicaa
