/-
  The code of each function does what its plain program says.
-/
import Derived.Test.YtkgnjpoafilicaaL9W3
set_option linter.unusedVariables false
set_option linter.unusedSimpArgs false
set_option maxRecDepth 100000
namespace Go.Proofs.Ytkgnjpoafilicaa
open Go Go.Pb Go.RowKit
def RF85 (res : Int × Int × Int) (r : PV) : Prop := r = .tup [vi res.1, vi res.2.1, vi res.2.2]
theorem ref13_check_L1_ok {S : List Fr} {res : Int × Int × Int} {x0 : List api_ExprNode} {x1 : Int} {x2 : expr_Scope} {rec_ : (List api_ExprNode) → Int → expr_Scope → (Int × Int × Int)} {mu_ : Nat} {a9 : Int} {v0 v2 : PV} (r0 : (tSl api_ExprNode.t).R x0 v0) (r2 : expr_Scope.t.R x2 v2) (h0 : 0 ≤ x1) (hb : x0.length ≤ 1000000) (ihR : ∀ {z0 : List api_ExprNode} {z1 : Int} {z2 : expr_Scope} {e1 d7 : PV} (e6 : (tSl api_ExprNode.t).R z0 e1) (e5 : expr_Scope.t.R z2 d7) (h0 : 0 ≤ z1) (hb : z0.length ≤ 1000000), (z0.length - z1.toNat) < mu_ → FnR Try.prog 85 [e1, vi z1, d7] (.tup [vi ((rec_ z0 z1 z2).1), vi ((rec_ z0 z1 z2).2.1), vi ((rec_ z0 z1 z2).2.2)])) (hmu : mu_ = (x0.length - x1.toNat)) (hrec : ∀ (z0 : List api_ExprNode) (z1 : Int) (z2 : expr_Scope), 0 ≤ z1 → z0.length ≤ 1000000 → (rec_ z0 z1 z2).2.2 = 0 → z1 < (rec_ z0 z1 z2).2.1) (d1 : (decide ((x0.length : Int) ≤ x1)) = false) (d8 : ref13_Arity ((ix x0 x1).Op) = a9) (c7 : (decide (a9 < 0)) = false) (d3 : (decide (a9 = 0)) = false) {K0 : Int → (List Int) → (Int × Int × Int)}
    (e4 : ∀ {a4 : Int} {a1 : List Int} {a0 : List PV} {a2 : PV} (a6 : All2 tI.R a1 a0) (a8 : isL a2 = true) (a3 : Wri a2 a0) (a7 : a1.length ≤ 4611686018427387904) (e7 : (a1.length : Int) = a9) {h : Heap} (M0 : Mem h [⟨a2, 3, 1, a0⟩]), K0 a4 a1 = res → PX Try.prog 0 S (QR Try.prog [(6, none), (7, none), (8, none)] (RF85 res)) [(0, v0), (1, vi x1), (12, a2), (13, vi a4)] h) :
    ∀ {m : Nat} {a4 a5 : Int} {a1 : List Int} {a0 : List PV} {a2 : PV} (a6 : All2 tI.R a1 a0) (a8 : isL a2 = true) (a3 : Wri a2 a0) (a7 : a1.length ≤ 4611686018427387904) (d9 : m = Int.toNat (a9 - a5)) (c4 : 0 ≤ a5) (b3 : x1 < a4) (b6 : (a1.length : Int) = a5) (b2 : a5 ≤ a9) {h : Heap} (M0 : Mem h [⟨a2, 3, 1, a0⟩]), ref13_check_L1 x0 x2 rec_ K0 m a4 a5 a1 = res → RC Try.prog (.loop ac85_L1) S (QR Try.prog [(6, none), (7, none), (8, none)] (RF85 res)) [(14, vi a5), (13, vi a4), (12, a2), (9, vi a9), (5, .fp v2), (1, vi x1), (0, v0)] h := by
  have hb' := hb
  try simp only [qa, qaD] at hb'
  have b8 := d1
  try simp only [qa, qaD] at b8
  have b7 := c7
  try simp only [qa, qaD] at b7
  have b9 := d3
  try simp only [qa, qaD] at b9
  intro m
  induction m with
  | zero =>
    intro a4 a5 a1 a0 a2 a6 a8 a3 a7 d9 c4 b3 b6 b2 h M0 hres
    rw [ref13_check_L1] at hres
    refine rc_loop ?_
    refine rc_seq ?_
    refine sR ?_
    refine mV rfl ?_
    refine mV rfl ?_
    refine bN i_lss rfl rfl ?_
    refine nS ?_
    refine rc_cond rfl ?_ ?_ <;> intro c <;> try simp only [qa, qaD] at c
    · omega
    refine rc_exit ?_
    refine px_seq ?_
    refine px_again ?_
    exact wP (e4 a6 a8 a3 a7 (by omega) (Mem.sub M0 (.cons_cons _ .slnil)) hres) rfl
  | succ m ih =>
    intro a4 a5 a1 a0 a2 a6 a8 a3 a7 d9 c4 b3 b6 b2 h M0 hres
    rw [ref13_check_L1] at hres
    refine rc_loop ?_
    refine rc_seq ?_
    refine sR ?_
    refine mV rfl ?_
    refine mV rfl ?_
    refine bN i_lss rfl rfl ?_
    refine nS ?_
    refine rc_cond rfl ?_ ?_ <;> intro c <;> try simp only [qa, qaD] at c
    rotate_left
    · omega
    refine rc_skip ?_
    refine pn_seq ?_
    refine rc_seq ?_
    refine rc_block ?_
    refine sR ?_
    refine mV rfl ?_
    refine mV rfl ?_
    refine lD r2 rfl rfl rfl ?_
    obtain ⟨b0, b4, hres⟩ := let_ex hres
    have c6 := ihR (z0 := x0) (z1 := a4) (z2 := x2) r0 r2 (by first | assumption | omega) (by first | assumption | omega) (by first | omega | (rw [wr_of (by omega) (by omega)]; omega))
    rw [b4] at c6
    have e0 : b0.2.2 = 0 → a4 < b0.2.1 := by rw [← b4]; exact hrec _ _ _ (by omega) (by omega)
    refine cL c6 rfl rfl (clL_cons (TR.clo (tSl api_ExprNode.t) r0) (clL_cons rfl (clL_cons (TR.clo expr_Scope.t r2) clL_nil))) ?_
    refine mV rfl ?_
    refine xT rfl rfl ?_
    refine xT rfl rfl ?_
    refine xT rfl rfl ?_
    refine mV rfl ?_
    refine mV rfl ?_
    refine mV rfl ?_
    refine nS ?_
    refine rc_seq ?_
    refine sR ?_
    refine mV rfl ?_
    refine bN i_neq rfl rfl ?_
    refine nS ?_
    refine rc_br hres rfl ?_ ?_ <;> clear hres <;> intro c hres <;> try simp only [qa, qaD] at c
    · refine sR ?_
      refine mV rfl ?_
      refine mV rfl ?_
      refine mI rfl ?_
      refine mV rfl ?_
      refine mV rfl ?_
      refine nS ?_
      subst hres
      exact rc_retV (.tmp rfl (.tmp rfl (.tmp rfl .nil))) (deep_closed (show closed (.tup _) = true from (clL_cons rfl (clL_cons rfl (clL_cons rfl clL_nil))))) rfl
    · refine rc_skip ?_
      refine pn_seq ?_
      refine sR ?_
      refine mV rfl ?_
      refine mV rfl ?_
      refine rd_op (v := .fs true [vi b0.1]) (ov_bslice rfl (all_cons rfl all_nil)) ?_
      have d4 : (tSl tI).R ([b0.1] : List Int) (.fs true [vi b0.1]) := sl_fs ⟨rfl, trivial⟩ (by simp)
      obtain ⟨b1, c9, b5⟩ := src_of (t := tI) (h := h) d4
      have d0 : fits (a0.length + b1.length) 8 = true := by rw [All2.length_eq a6, All2.length_eq b5]; (try simp only [List.length_cons, List.length_nil]); exact fits_of (by first | omega | (have hk := rar (by assumption); omega) | (simp only [List.length_append, List.length_cons, List.length_nil]; have hk := rar (by assumption); omega)) (by first | omega | (have hk := rar (by assumption); omega) | (simp only [List.length_append, List.length_cons, List.length_nil]; have hk := rar (by assumption); omega))
      refine rd_appW (k := 0) (es := a0) (news := b1) M0 rfl rfl rfl a8 a3 c9 d0 (fun e3 e2 d5 d2 d6 => ?_)
      have c8 : All2 tI.R (a1 ++ ([b0.1] : List Int)) (a0 ++ b1) := All2.app a6 b5
      have c5 : (a1 ++ ([b0.1] : List Int)).length ≤ 4611686018427387904 := by rw [← All2.length_eq c8, List.length_append]; exact fits_len d0
      refine mV rfl ?_
      refine nS ?_
      refine rc_region ?_
      refine mV rfl ?_
      refine mV rfl ?_
      refine rd_nil ?_
      refine pn_blk ?_
      refine pn_seq ?_
      refine rc_region ?_
      refine mV rfl ?_
      refine bN i_add rfl rfl ?_
      refine mV rfl ?_
      refine rd_nil ?_
      refine pn_again ?_
      have hinc : wr (a5 + 1) = a5 + 1 := wr_of (by omega) (by (have hk := rar (by assumption); omega))
      erw [hinc]
      exact wC (ih  c8 d5 d2 c5 (by omega) (by omega) (by first | (simp only [List.length_append, List.length_cons, List.length_nil]; omega) | omega) (by first | (simp only [List.length_append, List.length_cons, List.length_nil]; omega) | omega) (by first | (simp only [List.length_append, List.length_cons, List.length_nil]; omega) | omega) (Mem.sub d6 (.cons_cons _ .slnil)) hres) rfl

theorem f85_okB {rec_ : (List api_ExprNode) → Int → expr_Scope → (Int × Int × Int)} {mu_ : Nat} {x0 : List api_ExprNode} {x1 : Int} {x2 : expr_Scope} {v0 v2 : PV} (r0 : (tSl api_ExprNode.t).R x0 v0) (r2 : expr_Scope.t.R x2 v2) (h0 : 0 ≤ x1) (hb : x0.length ≤ 1000000) (hmu : mu_ = (x0.length - x1.toNat)) (hrec : ∀ (z0 : List api_ExprNode) (z1 : Int) (z2 : expr_Scope), 0 ≤ z1 → z0.length ≤ 1000000 → (rec_ z0 z1 z2).2.2 = 0 → z1 < (rec_ z0 z1 z2).2.1) (ihR : ∀ {z0 : List api_ExprNode} {z1 : Int} {z2 : expr_Scope} {d6 d5 : PV} (e6 : (tSl api_ExprNode.t).R z0 d6) (e5 : expr_Scope.t.R z2 d5) (h0 : 0 ≤ z1) (hb : z0.length ≤ 1000000), (z0.length - z1.toNat) < mu_ → FnR Try.prog 85 [d6, vi z1, d5] (.tup [vi ((rec_ z0 z1 z2).1), vi ((rec_ z0 z1 z2).2.1), vi ((rec_ z0 z1 z2).2.2)])) : FnR Try.prog 85 [v0, vi x1, v2] (.tup [vi ((ref13_check_B rec_ x0 x1 x2).1), vi ((ref13_check_B rec_ x0 x1 x2).2.1), vi ((ref13_check_B rec_ x0 x1 x2).2.2)]) := by
  refine fnS (R := RF85) text85 (fun _ h => h) rfl fun res hres => ?_
  unfold ref13_check_B at hres
  refine sR ?_
  refine rd_op (ov_box rfl (TR.cnt expr_Scope.t r2)) ?_
  refine mI rfl ?_
  refine mI rfl ?_
  refine mI rfl ?_
  refine nS ?_
  refine rc_seq ?_
  refine sR ?_
  refine mV rfl ?_
  refine mV rfl ?_
  refine rd_op (ov_bi rfl (sl_len r0 Try.underlying38 _)) ?_
  refine bN i_geq rfl rfl ?_
  refine nS ?_
  refine rc_br hres rfl ?_ ?_ <;> clear hres <;> intro a5 hres <;> have b0 := a5 <;> try simp only [qa, qaD] at b0
  · refine sR ?_
    refine mV rfl ?_
    refine mI rfl ?_
    refine mV rfl ?_
    refine mI rfl ?_
    refine nS ?_
    subst hres
    exact rc_retV (.tmp rfl (.tmp rfl (.tmp rfl .nil))) (deep_closed (show closed (.tup _) = true from (clL_cons rfl (clL_cons rfl (clL_cons rfl clL_nil))))) rfl
  · refine rc_skip ?_
    refine pn_seq ?_
    refine sR ?_
    refine mV rfl ?_
    refine mV rfl ?_
    obtain ⟨e1, c8, d2⟩ := sl_idx (i := x1) r0 (by omega) (by omega)
    refine rd_op (ov_iaddr rfl rfl c8) ?_
    refine fL rfl (api_ExprNode.g_Op d2) rfl rfl ?_
    obtain ⟨e3, a4, hres⟩ := let_ex hres
    have b8 := f89_ok (x0 := (ix x0 x1).Op)  
    rw [a4] at b8
    refine cL b8 rfl rfl (clL_cons rfl clL_nil) ?_
    refine mV rfl ?_
    refine nS ?_
    refine rc_seq ?_
    refine sR ?_
    refine mV rfl ?_
    refine bN i_lss rfl rfl ?_
    refine nS ?_
    refine rc_br hres rfl ?_ ?_ <;> clear hres <;> intro a3 hres <;> have a8 := a3 <;> try simp only [qa, qaD] at a8
    · refine sR ?_
      refine mV rfl ?_
      refine mI rfl ?_
      refine mV rfl ?_
      refine mI rfl ?_
      refine nS ?_
      subst hres
      exact rc_retV (.tmp rfl (.tmp rfl (.tmp rfl .nil))) (deep_closed (show closed (.tup _) = true from (clL_cons rfl (clL_cons rfl (clL_cons rfl clL_nil))))) rfl
    · refine rc_skip ?_
      refine pn_seq ?_
      refine rc_seq ?_
      refine sR ?_
      refine mV rfl ?_
      refine bN i_eql rfl rfl ?_
      refine nS ?_
      refine rc_br hres rfl ?_ ?_ <;> clear hres <;> intro a6 hres <;> have b1 := a6 <;> try simp only [qa, qaD] at b1
      · refine sR ?_
        refine mV rfl ?_
        refine mV rfl ?_
        obtain ⟨d8, d0, a9⟩ := sl_idx (i := x1) r0 (by omega) (by omega)
        refine rd_op (ov_iaddr rfl rfl d0) ?_
        refine lD a9 rfl rfl rfl ?_
        refine lD r2 rfl rfl rfl ?_
        obtain ⟨e4, b9, hres⟩ := let_ex hres
        have b5 := f90_ok  a9 r2 
        rw [b9] at b5
        refine cL b5 rfl rfl (clL_cons (TR.clo api_ExprNode.t a9) (clL_cons (TR.clo expr_Scope.t r2) clL_nil)) ?_
        refine mV rfl ?_
        refine xT rfl rfl ?_
        refine xT rfl rfl ?_
        refine mV rfl ?_
        refine mV rfl ?_
        refine nR ?_
        refine mV rfl ?_
        refine mV rfl ?_
        refine bN i_add rfl rfl ?_
        refine mV rfl ?_
        refine mV rfl ?_
        refine mV rfl ?_
        refine mV rfl ?_
        refine nS ?_
        subst hres
        exact rc_retV (.tmp rfl (.tmp rfl (.tmp rfl .nil))) (deep_closed (show closed (.tup _) = true from (clL_cons rfl (clL_cons rfl (clL_cons rfl clL_nil))))) rfl
      · refine rc_skip ?_
        refine pn_seq ?_
        refine sR ?_
        refine rd_op (v := nilS) (ov_move rfl) ?_
        refine nR ?_
        refine mV rfl ?_
        refine bN i_add rfl rfl ?_
        refine mV rfl ?_
        refine nS ?_
        refine rc_seq ?_
        refine sR ?_
        refine mI rfl ?_
        refine nS ?_
        refine rc_block ?_
        have d3 := mem_acc (sz := 1) (es := []) (Mem.nil ⟨0, []⟩) 3 (.inl ⟨none, rfl, rfl⟩) (by simp)
        refine wC (ref13_check_L1_ok r0 r2 h0 hb ihR hmu hrec a5 a4 a3 a6 ?_  aL rfl (.inl rfl) (by first | decide | simp) rfl (by omega) (by first | omega | simp | (rw [wr_of (by omega) (by omega)]; omega)) (by first | omega | simp | (rw [wr_of (by omega) (by omega)]; omega)) (by first | omega | simp | (rw [wr_of (by omega) (by omega)]; omega)) (Mem.sub d3 (.cons_cons _ .slnil)) hres) rfl
        · intro c5 b2 b3 b7 a2 a1 b4 a0 c6 d9 d4 hres
          refine px_blk ?_
          refine pn_seq ?_
          refine sR ?_
          refine mV rfl ?_
          refine mV rfl ?_
          obtain ⟨e0, c7, a7⟩ := sl_idx (i := x1) r0 (by omega) (by omega)
          refine rd_op (ov_iaddr rfl rfl c7) ?_
          refine lD a7 rfl rfl rfl ?_
          refine mV rfl ?_
          obtain ⟨e2, d1, c9⟩ := own_sl (P := Try.prog) (k := 0) (t := tI) d4 rfl a1 a2 (Nat.le_trans a0 (by decide))
          obtain ⟨d7, c4, hres⟩ := let_ex hres
          have b6 := f91_ok  a7 c9 (by first | omega | (have hk := rar (by assumption); omega)) (by first | omega | (have hk := rar (by assumption); omega))
          rw [c4] at b6
          refine rd_call (cv_lend rfl rfl (dl_cons (deep_closed (TR.clo api_ExprNode.t a7)) (dl_cons d1 dl_nil)) b6 rfl) ?_
          refine mV rfl ?_
          refine xT rfl rfl ?_
          refine xT rfl rfl ?_
          refine mV rfl ?_
          refine mV rfl ?_
          refine nR ?_
          refine mV rfl ?_
          refine mV rfl ?_
          refine mV rfl ?_
          refine mV rfl ?_
          refine mV rfl ?_
          refine mV rfl ?_
          refine nS ?_
          subst hres
          exact rc_retV (.tmp rfl (.tmp rfl (.tmp rfl .nil))) (deep_closed (show closed (.tup _) = true from (clL_cons rfl (clL_cons rfl (clL_cons rfl clL_nil))))) rfl
theorem f85_okR : ∀ (n_ : Nat) {x0 : List api_ExprNode} {x1 : Int} {x2 : expr_Scope} {v0 v2 : PV} (r0 : (tSl api_ExprNode.t).R x0 v0) (r2 : expr_Scope.t.R x2 v2) (h0 : 0 ≤ x1) (hb : x0.length ≤ 1000000), (x0.length - x1.toNat) < n_ → FnR Try.prog 85 [v0, vi x1, v2] (.tup [vi ((ref13_check_R n_ x0 x1 x2).1), vi ((ref13_check_R n_ x0 x1 x2).2.1), vi ((ref13_check_R n_ x0 x1 x2).2.2)]) := by
  intro n_
  induction n_ with
  | zero => intros; rename_i hlt; exact absurd hlt (Nat.not_lt_zero _)
  | succ n_ ihn =>
    intro x0 x1 x2 v0 v2 r0 r2 h0 hb hlt
    have e_ : ref13_check_R (n_ + 1) x0 x1 x2 = ref13_check_B (ref13_check_R n_) x0 x1 x2 := by rw [ref13_check_R]
    rw [e_]
    exact f85_okB r0 r2 h0 hb rfl (rcheck_next n_) (fun {z0} {z1} {z2} {zv0} {zv2} zr0 zr2 h0 hb hz => ihn zr0 zr2 h0 hb (by omega))
theorem f85_ok {x0 : List api_ExprNode} {x1 : Int} {x2 : expr_Scope} {v0 v2 : PV} (r0 : (tSl api_ExprNode.t).R x0 v0) (r2 : expr_Scope.t.R x2 v2) (h0 : 0 ≤ x1) (hb : x0.length ≤ 1000000) : FnR Try.prog 85 [v0, vi x1, v2] (.tup [vi ((ref13_check x0 x1 x2).1), vi ((ref13_check x0 x1 x2).2.1), vi ((ref13_check x0 x1 x2).2.2)]) := f85_okR _ r0 r2 h0 hb (Nat.lt_succ_self _)

def RF76 (res : Int × Int) (r : PV) : Prop := r = .tup [vi res.1, vi res.2]
theorem f76_ok {x0 : List api_ExprNode} {x1 : expr_Scope} {v0 v1 : PV} (r0 : (tSl api_ExprNode.t).R x0 v0) (r1 : expr_Scope.t.R x1 v1) : FnR Try.prog 76 [v0, v1] (.tup [vi ((ref13_Check x0 x1).1), vi ((ref13_Check x0 x1).2)]) := by
  refine fnS (R := RF76) text76 (fun _ h => h) rfl fun res hres => ?_
  unfold ref13_Check at hres
  refine sR ?_
  refine rd_op (ov_box rfl (TR.cnt expr_Scope.t r1)) ?_
  refine mI rfl ?_
  refine mI rfl ?_
  refine nS ?_
  refine rc_seq ?_
  refine sR ?_
  refine mV rfl ?_
  refine rd_op (ov_bi rfl (sl_len r0 Try.underlying38 _)) ?_
  refine bN i_gtr rfl rfl ?_
  refine nS ?_
  refine rc_br hres rfl ?_ ?_ <;> clear hres <;> intro c hres <;> try simp only [qa, qaD] at c
  · refine sR ?_
    refine mI rfl ?_
    refine mI rfl ?_
    refine nS ?_
    exact rT hres rfl rfl rfl rfl rfl
  · refine rc_skip ?_
    refine pn_seq ?_
    refine sR ?_
    refine mV rfl ?_
    refine lD r1 rfl rfl rfl ?_
    obtain ⟨a2, a1, hres⟩ := let_ex hres
    have a0 := f85_ok (x1 := 0) r0 r1 (by first | assumption | omega) (by first | assumption | omega)
    rw [a1] at a0
    refine cL a0 rfl rfl (clL_cons (TR.clo (tSl api_ExprNode.t) r0) (clL_cons rfl (clL_cons (TR.clo expr_Scope.t r1) clL_nil))) ?_
    refine mV rfl ?_
    refine xT rfl rfl ?_
    refine xT rfl rfl ?_
    refine xT rfl rfl ?_
    refine mV rfl ?_
    refine mV rfl ?_
    refine mV rfl ?_
    refine nS ?_
    refine rc_seq ?_
    refine rc_block ?_
    refine sR ?_
    refine mV rfl ?_
    refine bN i_neq rfl rfl ?_
    refine mV rfl ?_
    refine nS ?_
    refine rc_br hres rfl ?_ ?_ <;> clear hres <;> intro c hres <;> try simp only [qa, qaD] at c
    · refine sR ?_
      refine mV rfl ?_
      refine mI rfl ?_
      refine mV rfl ?_
      refine nS ?_
      exact rT hres rfl rfl rfl rfl rfl
    · refine sR ?_
      refine mV rfl ?_
      refine mV rfl ?_
      refine rd_op (ov_bi rfl (sl_len r0 Try.underlying38 _)) ?_
      refine bN i_lss rfl rfl ?_
      refine mV rfl ?_
      refine nS ?_
      refine rc_br hres rfl ?_ ?_ <;> clear hres <;> intro c hres <;> try simp only [qa, qaD] at c
      · refine sR ?_
        refine mI rfl ?_
        refine mI rfl ?_
        refine nS ?_
        exact rT hres rfl rfl rfl rfl rfl
      · refine rc_skip ?_
        refine pn_blk ?_
        refine pn_seq ?_
        refine sR ?_
        refine mV rfl ?_
        refine mV rfl ?_
        refine mI rfl ?_
        refine nS ?_
        exact rT hres rfl rfl rfl rfl rfl

def RF58 (res : Bool) (r : PV) : Prop := r = vb res
theorem f58_ok {x0 : api_ControlNode} {v0 : PV} (r0 : api_ControlNode.t.R x0 v0) : FnR Try.prog 58 [v0] (vb (ref20_applies x0)) := by
  refine fnS (R := RF58) text58 (fun _ h => h) rfl fun res hres => ?_
  unfold ref20_applies at hres
  refine sR ?_
  refine rd_op (ov_box rfl (TR.cnt api_ControlNode.t r0)) ?_
  refine mB rfl ?_
  refine nR ?_
  refine fL rfl (api_ControlNode.g_Kind r0) rfl rfl ?_
  refine bN i_eql rfl rfl ?_
  refine mV rfl ?_
  refine rd_cutn 4 (d := 10) (v := vb ((decide (x0.Kind = 1)) || (decide (x0.Kind = 3)))) ?_ ?_
  · intro S Q r
    cases a1 : (decide (x0.Kind = 1))
    · intro k
      have a0 := a1
      try simp only [qa, qaD] at a0
      refine rd_yes rfl rfl (ov_faddr rfl (api_ControlNode.g_Kind r0)) ?_
      refine rd_yes rfl rfl (ov_load rfl rfl rfl) ?_
      refine rd_yes rfl rfl (ov_bin rfl rfl i_eql) ?_
      exact gK rfl rfl rfl rfl rfl k
    · exact gN 3 rfl rfl rfl rfl rfl rfl
  refine mV rfl ?_
  refine nS ?_
  exact rR hres rfl rfl rfl

def RF77 (res : Bool) (r : PV) : Prop := r = vb res
theorem ref20_appliedBefore_L1_ok {S : List Fr} {res : Bool} {x0 : List api_ControlNode} {x1 : Int} {v0 : PV} (r0 : (tSl api_ControlNode.t).R x0 v0) (h0 : 0 ≤ x1) (h1 : x1 < (x0.length : Int)) {K0 : Unit → Bool}
    (b7 : K0 () = res → PX Try.prog 0 S (QR Try.prog [(4, none)] (RF77 res)) [] ⟨0, []⟩) :
    ∀ {m : Nat} {a0 : Int} (b3 : m = Int.toNat (x1 - a0)) (a4 : 0 ≤ a0), ref20_appliedBefore_L1 x0 x1 K0 m a0 = res → RC Try.prog (.loop ac77_L1) S (QR Try.prog [(4, none)] (RF77 res)) [(5, vi a0), (1, vi x1), (0, v0)] ⟨0, []⟩ := by
  intro m
  induction m with
  | zero =>
    intro a0 b3 a4 hres
    rw [ref20_appliedBefore_L1] at hres
    refine rc_loop ?_
    refine rc_seq ?_
    refine sR ?_
    refine mV rfl ?_
    refine mV rfl ?_
    refine bN i_lss rfl rfl ?_
    refine nS ?_
    refine rc_cond rfl ?_ ?_ <;> intro c <;> try simp only [qa, qaD] at c
    · omega
    refine rc_exit ?_
    refine px_seq ?_
    refine px_again ?_
    exact wP (b7  hres) rfl
  | succ m ih =>
    intro a0 b3 a4 hres
    rw [ref20_appliedBefore_L1] at hres
    refine rc_loop ?_
    refine rc_seq ?_
    refine sR ?_
    refine mV rfl ?_
    refine mV rfl ?_
    refine bN i_lss rfl rfl ?_
    refine nS ?_
    refine rc_cond rfl ?_ ?_ <;> intro c <;> try simp only [qa, qaD] at c
    rotate_left
    · omega
    refine rc_skip ?_
    refine pn_seq ?_
    refine rc_seq ?_
    refine rc_block ?_
    refine sR ?_
    refine mV rfl ?_
    refine mV rfl ?_
    obtain ⟨b6, b2, a1⟩ := sl_idx (i := a0) r0 (by omega) (by omega)
    refine rd_op (ov_iaddr rfl rfl b2) ?_
    refine lD a1 rfl rfl rfl ?_
    obtain ⟨a5, a7, hres⟩ := let_ex hres
    have a3 := f58_ok  a1 
    rw [a7] at a3
    refine cL a3 rfl rfl (clL_cons (TR.clo api_ControlNode.t a1) clL_nil) ?_
    refine mV rfl ?_
    refine rd_cutn 12 (d := 28) (v := vb (a5 && (decide (((ix x0 a0).Table) = ((ix x0 x1).Table))))) ?_ ?_
    · intro S Q r
      cases a6 : a5
      · exact gN 11 rfl rfl rfl rfl rfl rfl
      · intro k
        have a2 := a6
        try simp only [qa, qaD] at a2
        refine rd_yes rfl rfl (ov_move rfl) ?_
        refine rd_yes rfl rfl (ov_move rfl) ?_
        obtain ⟨b4, a9, b1⟩ := sl_idx (i := a0) r0 (by omega) (by omega)
        refine rd_yes rfl rfl (ov_iaddr rfl rfl a9) ?_
        refine rd_yes rfl rfl (ov_faddr rfl (api_ControlNode.g_Table b1)) ?_
        refine rd_yes rfl rfl (ov_load rfl rfl rfl) ?_
        refine rd_yes rfl rfl (ov_move rfl) ?_
        refine rd_yes rfl rfl (ov_move rfl) ?_
        obtain ⟨b5, b0, a8⟩ := sl_idx (i := x1) r0 (by omega) (by omega)
        refine rd_yes rfl rfl (ov_iaddr rfl rfl b0) ?_
        refine rd_yes rfl rfl (ov_faddr rfl (api_ControlNode.g_Table a8)) ?_
        refine rd_yes rfl rfl (ov_load rfl rfl rfl) ?_
        refine rd_yes rfl rfl (ov_bin rfl rfl i_eql) ?_
        exact gK rfl rfl rfl rfl rfl k
    refine nS ?_
    refine rc_br hres rfl ?_ ?_ <;> clear hres <;> intro c hres <;> try simp only [qa, qaD] at c
    · refine sR ?_
      refine mB rfl ?_
      refine nS ?_
      exact rR hres rfl rfl rfl
    · refine rc_skip ?_
      refine pn_blk ?_
      refine pn_seq ?_
      refine rc_region ?_
      refine mV rfl ?_
      refine bN i_add rfl rfl ?_
      refine mV rfl ?_
      refine rd_nil ?_
      refine pn_again ?_
      have hinc : wr (a0 + 1) = a0 + 1 := wr_of (by omega) (by (have hk := sl_bound r0; omega))
      erw [hinc]
      exact wC (ih   (by omega) (by omega) hres) rfl

theorem f77_ok {x0 : List api_ControlNode} {x1 : Int} {v0 : PV} (r0 : (tSl api_ControlNode.t).R x0 v0) (h0 : 0 ≤ x1) (h1 : x1 < (x0.length : Int)) : FnR Try.prog 77 [v0, vi x1] (vb (ref20_appliedBefore x0 x1)) := by
  refine fnS (R := RF77) text77 (fun _ h => h) rfl fun res hres => ?_
  unfold ref20_appliedBefore at hres
  refine sR ?_
  refine mB rfl ?_
  refine nS ?_
  refine rc_seq ?_
  refine sR ?_
  refine mI rfl ?_
  refine nS ?_
  refine rc_block ?_
  refine wC (ref20_appliedBefore_L1_ok r0 h0 h1 ?_  rfl (by omega) hres) rfl
  · intro  hres
    refine px_blk ?_
    refine pn_seq ?_
    refine sR ?_
    refine mB rfl ?_
    refine nS ?_
    exact rR hres rfl rfl rfl

def RF53 (res : Int) (r : PV) : Prop := r = vi res
theorem f53_ok {x0 : api_Program} {x1 : List api_ControlNode} {x2 : Int} {v0 v1 : PV} (r0 : api_Program.t.R x0 v0) (r1 : (tSl api_ControlNode.t).R x1 v1) (h0 : 0 ≤ x2) (h1 : x2 < (x1.length : Int)) : FnR Try.prog 53 [v0, v1, vi x2] (vi (ref20_checkNode x0 x1 x2)) := by
  refine fnS (R := RF53) text53 (fun _ h => h) rfl fun res hres => ?_
  unfold ref20_checkNode at hres
  refine sR ?_
  refine rd_op (ov_box rfl (TR.cnt api_Program.t r0)) ?_
  refine mI rfl ?_
  refine nR ?_
  refine mV rfl ?_
  refine mV rfl ?_
  obtain ⟨d7, f2, a8⟩ := sl_idx (i := x2) r1 (by omega) (by omega)
  refine rd_op (ov_iaddr rfl rfl f2) ?_
  refine lD a8 rfl rfl rfl ?_
  refine rd_allocO (x := .agg [vi 0, vi 0, nilS, nilS, nilS]) (Mem.nil ⟨0, []⟩) rfl rfl (fun e2 f0 f7 e8 => ?_)
  refine rd_storeO (k := 0) (v := d7) e8 rfl rfl rfl (TR.cnt api_ControlNode.t a8) (fun d0 a9 => ?_)
  replace a9 : Mem d0 [⟨.op e2 f0 0, 40, 5, [d7]⟩] := a9
  refine nS ?_
  refine rc_seq ?_
  refine rc_block ?_
  refine sR ?_
  refine rd_op (ov_faddrO rfl) ?_
  refine rd_op (ov_loadf (k := 0) a9 rfl rfl (api_ControlNode.g_Kind a8)) ?_
  refine bN i_lss rfl rfl ?_
  refine mV rfl ?_
  refine rd_cutn 4 (d := 22) (v := vb ((decide (((ix x1 x2).Kind) < 1)) || (decide (3 < ((ix x1 x2).Kind))))) ?_ ?_
  · intro S Q r
    cases d5 : (decide (((ix x1 x2).Kind) < 1))
    · intro k
      have c5 := d5
      try simp only [qa, qaD] at c5
      refine rd_yes rfl rfl (ov_faddrO rfl) ?_
      refine rd_yes rfl rfl (ov_loadf (k := 0) a9 rfl rfl (api_ControlNode.g_Kind a8)) ?_
      refine rd_yes rfl rfl (ov_bin rfl rfl i_gtr) ?_
      exact gK rfl rfl rfl rfl rfl k
    · exact gN 3 rfl rfl rfl rfl rfl rfl
  refine mV rfl ?_
  refine nS ?_
  refine rc_br hres rfl ?_ ?_ <;> clear hres <;> intro c hres <;> try simp only [qa, qaD] at c
  · refine sR ?_
    refine mI rfl ?_
    refine nS ?_
    exact rR hres rfl rfl rfl
  · refine sR ?_
    refine rd_op (ov_faddrO rfl) ?_
    refine rd_op (ov_loadf (k := 0) a9 rfl rfl (api_ControlNode.g_Kind a8)) ?_
    refine bN i_eql rfl rfl ?_
    refine mV rfl ?_
    refine nS ?_
    refine rc_br hres rfl ?_ ?_ <;> clear hres <;> intro c hres <;> try simp only [qa, qaD] at c
    · refine sR ?_
      refine rd_op (ov_faddrO rfl) ?_
      obtain ⟨f5, e9, d1⟩ := api_ControlNode.g_Cond a8
      refine rd_op (ov_loadf (k := 0) a9 rfl rfl e9) ?_
      refine lD r0 rfl rfl rfl ?_
      obtain ⟨a2, a1, a7, a4, a6, a5, a3, a0, e3, b7, b4, b1, b2, b3, b8, b5, b6⟩ := r0
      subst e3
      refine rd_op (v := .agg [vs x0.Name, a2, a1, a7, a4, a6, a5, a3, a0, nilS]) (ov_build (cs := [vs x0.Name, a2, a1, a7, a4, a6, a5, a3, a0, nilS]) rfl rfl) ?_
      obtain ⟨c4, e0, hres⟩ := let_ex hres
      have d2 := f76_ok  d1 (show expr_Scope.t.R ({ Program := x0, Params := ([] : List api_Field) } : expr_Scope) (.agg [vs x0.Name, a2, a1, a7, a4, a6, a5, a3, a0, nilS]) from ⟨a2, a1, a7, a4, a6, a5, a3, a0, nilS, rfl, b7, b4, b1, b2, b3, b8, b5, b6, sl_nil⟩) 
      rw [e0] at d2
      refine cL d2 rfl rfl (clL_cons (TR.clo (tSl api_ExprNode.t) d1) (clL_cons (TR.clo expr_Scope.t (show expr_Scope.t.R ({ Program := x0, Params := ([] : List api_Field) } : expr_Scope) (.agg [vs x0.Name, a2, a1, a7, a4, a6, a5, a3, a0, nilS]) from ⟨a2, a1, a7, a4, a6, a5, a3, a0, nilS, rfl, b7, b4, b1, b2, b3, b8, b5, b6, sl_nil⟩)) clL_nil)) ?_
      refine mV rfl ?_
      refine xT rfl rfl ?_
      refine xT rfl rfl ?_
      refine mV rfl ?_
      refine mV rfl ?_
      refine nS ?_
      refine rc_seq ?_
      refine sR ?_
      refine mV rfl ?_
      refine bN i_eql rfl rfl ?_
      refine mV rfl ?_
      refine rd_cutn 3 (d := 40) (v := vb ((decide (c4.2 = 0)) && (!decide (c4.1 = 1)))) ?_ ?_
      · intro S Q r
        cases d4 : (decide (c4.2 = 0))
        · exact gN 2 rfl rfl rfl rfl rfl rfl
        · intro k
          have c7 := d4
          try simp only [qa, qaD] at c7
          refine rd_yes rfl rfl (ov_move rfl) ?_
          refine rd_yes rfl rfl (ov_bin rfl rfl i_neq) ?_
          exact gK rfl rfl rfl rfl rfl k
      refine nS ?_
      obtain ⟨e1, c9, hres⟩ := let_ex hres
      refine rc_join (F := fun b S Q => ∀ (b0 : Int), e1 b0 = res → RC Try.prog b S Q [(9, vi b0)] d0) ?_ ?_
      · intro b0  hres
        rw [← c9] at hres
        refine sR ?_
        refine mV rfl ?_
        refine mV rfl ?_
        refine nS ?_
        exact rR hres rfl rfl rfl
      · intro J
        refine rc_br hres rfl ?_ ?_ <;> clear hres <;> intro c hres <;> try simp only [qa, qaD] at c
        · refine rc_region ?_
          refine mI rfl ?_
          refine rd_nil ?_
          refine pn_seq (wC (J _  hres) rfl)
        · refine rc_skip ?_
          refine pn_seq (wC (J _  hres) rfl)
    · refine sR ?_
      refine rd_op (ov_faddrO rfl) ?_
      refine rd_op (ov_loadf (k := 0) a9 rfl rfl (api_ControlNode.g_Table a8)) ?_
      refine bN i_lss rfl rfl ?_
      refine mV rfl ?_
      refine rd_cutn 7 (d := 53) (v := vb ((decide (((ix x1 x2).Table) < 0)) || (decide ((x0.Tables.length : Int) ≤ ((ix x1 x2).Table))))) ?_ ?_
      · intro S Q r
        cases d6 : (decide (((ix x1 x2).Table) < 0))
        · intro k
          have c6 := d6
          try simp only [qa, qaD] at c6
          refine rd_yes rfl rfl (ov_faddrO rfl) ?_
          refine rd_yes rfl rfl (ov_loadf (k := 0) a9 rfl rfl (api_ControlNode.g_Table a8)) ?_
          obtain ⟨f8, f1, b9⟩ := api_Program.g_Tables r0
          refine rd_yes rfl rfl (ov_faddr rfl f1) ?_
          refine rd_yes rfl rfl (ov_load rfl (TR.cnt (tSl api_Table.t) b9) (TR.agg (tSl api_Table.t) b9)) ?_
          refine rd_yes rfl rfl (ov_bi rfl (sl_len b9 Try.underlying26 _)) ?_
          refine rd_yes rfl rfl (ov_bin rfl rfl i_geq) ?_
          exact gK rfl rfl rfl rfl rfl k
        · exact gN 6 rfl rfl rfl rfl rfl rfl
      refine mV rfl ?_
      refine nS ?_
      refine rc_br hres rfl ?_ ?_ <;> clear hres <;> intro c hres <;> try simp only [qa, qaD] at c
      · refine sR ?_
        refine mI rfl ?_
        refine nS ?_
        exact rR hres rfl rfl rfl
      · refine sR ?_
        refine mV rfl ?_
        refine mV rfl ?_
        obtain ⟨f3, d8, hres⟩ := let_ex hres
        have d3 := f77_ok (x1 := x2) r1 (by first | assumption | omega) (by first | assumption | omega)
        rw [d8] at d3
        refine cL d3 rfl rfl (clL_cons (TR.clo (tSl api_ControlNode.t) r1) (clL_cons rfl clL_nil)) ?_
        refine mV rfl ?_
        refine nS ?_
        refine rc_br hres rfl ?_ ?_ <;> clear hres <;> intro c hres <;> try simp only [qa, qaD] at c
        · refine sR ?_
          refine mI rfl ?_
          refine nS ?_
          exact rR hres rfl rfl rfl
        · refine sR ?_
          refine rd_op (ov_faddrO rfl) ?_
          refine rd_op (ov_loadf (k := 0) a9 rfl rfl (api_ControlNode.g_Kind a8)) ?_
          refine bN i_eql rfl rfl ?_
          refine mV rfl ?_
          refine rd_cutn 9 (d := 71) (v := vb ((decide (((ix x1 x2).Kind) = 1)) && (decide (0 < (wr ((((ix x1 x2).Then).length : Int) + (((ix x1 x2).Else).length : Int))))))) ?_ ?_
          · intro S Q r
            cases d9 : (decide (((ix x1 x2).Kind) = 1))
            · exact gN 8 rfl rfl rfl rfl rfl rfl
            · intro k
              have c8 := d9
              try simp only [qa, qaD] at c8
              refine rd_yes rfl rfl (ov_faddrO rfl) ?_
              obtain ⟨f4, e7, e5⟩ := api_ControlNode.g_Then a8
              refine rd_yes rfl rfl (ov_loadf (k := 0) a9 rfl rfl e7) ?_
              refine rd_yes rfl rfl (ov_bi rfl (sl_len e5 Try.underlying28 _)) ?_
              refine rd_yes rfl rfl (ov_faddrO rfl) ?_
              obtain ⟨f6, e4, e6⟩ := api_ControlNode.g_Else a8
              refine rd_yes rfl rfl (ov_loadf (k := 0) a9 rfl rfl e4) ?_
              refine rd_yes rfl rfl (ov_bi rfl (sl_len e6 Try.underlying28 _)) ?_
              refine rd_yes rfl rfl (ov_bin rfl rfl i_add) ?_
              refine rd_yes rfl rfl (ov_bin rfl rfl i_gtr) ?_
              exact gK rfl rfl rfl rfl rfl k
          refine mV rfl ?_
          refine nS ?_
          refine rc_br hres rfl ?_ ?_ <;> clear hres <;> intro c hres <;> try simp only [qa, qaD] at c
          · refine sR ?_
            refine mI rfl ?_
            refine nS ?_
            exact rR hres rfl rfl rfl
          · refine rc_skip ?_
            refine pn_blk ?_
            refine pn_seq ?_
            refine sR ?_
            refine mI rfl ?_
            refine nS ?_
            exact rR hres rfl rfl rfl

def RF17 (res : Int × Int) (r : PV) : Prop := r = .tup [vi res.1, vi res.2]
theorem ref20_Check_L1_ok {S : List Fr} {res : Int × Int} {x0 : api_Program} {a8 b2 : Int} {a1 : (List api_ControlNode)} {v0 a7 : PV} (r0 : api_Program.t.R x0 v0) (hs : csl x0.Control ≤ 1000) (b6 : ref20_Count x0.Control = a8) (a9 : (decide (24 < a8)) = false) (b3 : ref20_Nesting x0.Control = b2) (b0 : (decide (6 < b2)) = false) (b4 : ref20_Preorder x0.Control = a1) (a0 : (tSl api_ControlNode.t).R a1 a7) {K1 : Unit → (Int × Int)}
    (b8 : K1 () = res → PX Try.prog 1 S (QR Try.prog [(2, none), (3, none)] (RF17 res)) [] ⟨0, []⟩) :
    ∀ {m : Nat} {a2 : Int} (b5 : m = Int.toNat ((a1.length : Int) - a2)) (a5 : 0 ≤ a2), ref20_Check_L1 x0 a1 K1 m a2 = res → RC Try.prog (.loop ac17_L1) S (QR Try.prog [(2, none), (3, none)] (RF17 res)) [(5, vi a2), (4, a7), (1, .fp v0)] ⟨0, []⟩ := by
  have a3 := a9
  try simp only [qa, qaD] at a3
  have a4 := b0
  try simp only [qa, qaD] at a4
  intro m
  induction m with
  | zero =>
    intro a2 b5 a5 hres
    rw [ref20_Check_L1] at hres
    refine rc_loop ?_
    refine rc_seq ?_
    refine sR ?_
    refine mV rfl ?_
    refine mV rfl ?_
    refine rd_op (ov_bi rfl (sl_len a0 Try.underlying28 _)) ?_
    refine bN i_lss rfl rfl ?_
    refine nS ?_
    refine rc_cond rfl ?_ ?_ <;> intro c <;> try simp only [qa, qaD] at c
    · omega
    refine rc_exit ?_
    refine px_seq ?_
    refine px_again ?_
    exact wP (b8  hres) rfl
  | succ m ih =>
    intro a2 b5 a5 hres
    rw [ref20_Check_L1] at hres
    refine rc_loop ?_
    refine rc_seq ?_
    refine sR ?_
    refine mV rfl ?_
    refine mV rfl ?_
    refine rd_op (ov_bi rfl (sl_len a0 Try.underlying28 _)) ?_
    refine bN i_lss rfl rfl ?_
    refine nS ?_
    refine rc_cond rfl ?_ ?_ <;> intro c <;> try simp only [qa, qaD] at c
    rotate_left
    · omega
    refine rc_skip ?_
    refine pn_seq ?_
    refine rc_seq ?_
    refine rc_block ?_
    refine sR ?_
    refine lD r0 rfl rfl rfl ?_
    refine mV rfl ?_
    refine mV rfl ?_
    obtain ⟨b7, b1, hres⟩ := let_ex hres
    have a6 := f53_ok (x2 := a2) r0 a0 (by first | assumption | omega) (by first | assumption | omega)
    rw [b1] at a6
    refine cL a6 rfl rfl (clL_cons (TR.clo api_Program.t r0) (clL_cons (TR.clo (tSl api_ControlNode.t) a0) (clL_cons rfl clL_nil))) ?_
    refine mV rfl ?_
    refine nR ?_
    refine mV rfl ?_
    refine bN i_neq rfl rfl ?_
    refine nS ?_
    refine rc_br hres rfl ?_ ?_ <;> clear hres <;> intro c hres <;> try simp only [qa, qaD] at c
    · refine sR ?_
      refine mV rfl ?_
      refine mV rfl ?_
      refine mV rfl ?_
      refine mV rfl ?_
      refine nS ?_
      exact rT hres rfl rfl rfl rfl rfl
    · refine rc_skip ?_
      refine pn_blk ?_
      refine pn_seq ?_
      refine rc_region ?_
      refine mV rfl ?_
      refine bN i_add rfl rfl ?_
      refine mV rfl ?_
      refine rd_nil ?_
      refine pn_again ?_
      have hbd := sl_bound a0
      have hinc : wr (a2 + 1) = a2 + 1 := wr_of (by omega) (by omega)
      erw [hinc]
      exact wC (ih   (by omega) (by omega) hres) rfl

theorem f17_ok {x0 : api_Program} {v0 : PV} (r0 : api_Program.t.R x0 v0) (hs : csl x0.Control ≤ 1000) : FnR Try.prog 17 [v0] (.tup [vi ((ref20_Check x0).1), vi ((ref20_Check x0).2)]) := by
  refine fnS (R := RF17) text17 (fun _ h => h) rfl fun res hres => ?_
  unfold ref20_Check at hres
  refine sR ?_
  refine rd_op (ov_box rfl (TR.cnt api_Program.t r0)) ?_
  refine mI rfl ?_
  refine mI rfl ?_
  refine nS ?_
  refine rc_seq ?_
  refine rc_block ?_
  refine sR ?_
  refine gL (api_Program.g_Control r0) rfl rfl rfl fun b9 b2 => ?_
  obtain ⟨b7, a4, hres⟩ := let_ex hres
  have b0 := f21_ok  b2 
  rw [a4] at b0
  refine cL b0 rfl rfl (clL_cons (TR.clo (tSl api_ControlNode.t) b2) clL_nil) ?_
  refine bN i_gtr rfl rfl ?_
  refine mV rfl ?_
  refine nS ?_
  refine rc_br hres rfl ?_ ?_ <;> clear hres <;> intro a2 hres <;> have a6 := a2 <;> try simp only [qa, qaD] at a6
  · refine sR ?_
    refine mI rfl ?_
    refine mI rfl ?_
    refine nS ?_
    exact rT hres rfl rfl rfl rfl rfl
  · refine sR ?_
    refine gL (api_Program.g_Control r0) rfl rfl rfl fun b8 a8 => ?_
    obtain ⟨c5, a0, hres⟩ := let_ex hres
    have b1 := f23_ok  a8 
    rw [a0] at b1
    refine cL b1 rfl rfl (clL_cons (TR.clo (tSl api_ControlNode.t) a8) clL_nil) ?_
    refine bN i_gtr rfl rfl ?_
    refine mV rfl ?_
    refine nS ?_
    refine rc_br hres rfl ?_ ?_ <;> clear hres <;> intro a3 hres <;> have a7 := a3 <;> try simp only [qa, qaD] at a7
    · refine sR ?_
      refine mI rfl ?_
      refine mI rfl ?_
      refine nS ?_
      exact rT hres rfl rfl rfl rfl rfl
    · refine rc_skip ?_
      refine pn_blk ?_
      refine pn_seq ?_
      refine sR ?_
      obtain ⟨b5, b4, a5⟩ := api_Program.g_Control r0
      refine fA rfl b4 ?_
      refine lD a5 rfl rfl rfl ?_
      obtain ⟨c4, a1, hres⟩ := let_ex hres
      obtain ⟨b6, b3, a9⟩ := f52_ok  a5 (by first | assumption | omega)
      rw [a1] at a9
      refine cL b3 rfl rfl (clL_cons (TR.clo (tSl api_ControlNode.t) a5) clL_nil) ?_
      refine mV rfl ?_
      refine nS ?_
      refine rc_seq ?_
      refine sR ?_
      refine mI rfl ?_
      refine nS ?_
      refine rc_block ?_
      refine wC (ref20_Check_L1_ok r0 hs a4 a2 a0 a3 a1 a9 ?_  rfl (by omega) hres) rfl
      · intro  hres
        refine px_blk ?_
        refine pn_seq ?_
        refine sR ?_
        refine mI rfl ?_
        refine mI rfl ?_
        refine nS ?_
        exact rT hres rfl rfl rfl rfl rfl

def RF80 (res : (List api_Guard)) (r : PV) : Prop := (tSl api_Guard.t).R res r
theorem f80_ok {x0 : List api_Guard} {x1 : Int} {x2 : Bool} {v0 : PV} (r0 : (tSl api_Guard.t).R x0 v0) (hb : x0.length ≤ 1000) : ∃ r, FnR Try.prog 80 [v0, vi x1, vb x2] r ∧ (tSl api_Guard.t).R (ref32_under x0 x1 x2) r := by
  refine fnT (R := RF80) text80 rfl fun res hres => ?_
  unfold ref32_under at hres
  refine sR ?_
  refine rd_op (v := nilS) (ov_move rfl) ?_
  refine nR ?_
  refine rd_op (v := nilS) (ov_move rfl) ?_
  refine nR ?_
  refine mV rfl ?_
  refine mV rfl ?_
  have b3 := mem_acc (sz := 2) (es := []) (Mem.nil ⟨0, []⟩) 60 (.inl ⟨none, rfl, rfl⟩) (by simp)
  obtain ⟨a0, a9, a2⟩ := src_of (t := api_Guard.t) (h := ⟨0, []⟩) r0
  have a6 : fits (([] : List PV).length + a0.length) 16 = true := by rw [All2.length_eq (show All2 api_Guard.t.R ([] : List api_Guard) [] from trivial), All2.length_eq a2]; (try simp only [List.length_cons, List.length_nil]); exact fits_of (by first | omega | (simp only [List.length_append, List.length_cons, List.length_nil] at *; omega)) (by first | omega | (simp only [List.length_append, List.length_cons, List.length_nil] at *; omega))
  refine rd_appW (k := 0) (es := ([] : List PV)) (news := a0) b3 rfl rfl rfl rfl (.inl rfl) a9 a6 (fun c9 b7 c4 b0 b8 => ?_)
  have a4 : All2 api_Guard.t.R x0 (([] : List PV) ++ a0) := All2.app (show All2 api_Guard.t.R ([] : List api_Guard) [] from trivial) a2
  have c6 : x0.length ≤ 4611686018427387904 := by rw [← All2.length_eq a4, List.length_append]; exact fits_len a6
  refine mV rfl ?_
  refine nR ?_
  refine mV rfl ?_
  refine mV rfl ?_
  refine mV rfl ?_
  refine rd_op (v := .agg [vi x1, vb x2]) (ov_build (cs := [vi x1, vb x2]) rfl rfl) ?_
  refine rd_op (v := .fs true [.agg [vi x1, vb x2]]) (ov_bslice rfl (all_cons rfl all_nil)) ?_
  have b2 : (tSl api_Guard.t).R ([({ Unit := x1, Want := x2 } : api_Guard)] : List api_Guard) (.fs true [.agg [vi x1, vb x2]]) := sl_fs ⟨rfl, trivial⟩ (by simp)
  obtain ⟨a1, a8, a3⟩ := src_of (t := api_Guard.t) (h := b7) b2
  have a7 : fits ((([] : List PV) ++ a0).length + a1.length) 16 = true := by rw [All2.length_eq a4, All2.length_eq a3]; (try simp only [List.length_cons, List.length_nil]); exact fits_of (by first | omega | (simp only [List.length_append, List.length_cons, List.length_nil] at *; omega)) (by first | omega | (simp only [List.length_append, List.length_cons, List.length_nil] at *; omega))
  refine rd_appW (k := 0) (es := (([] : List PV) ++ a0)) (news := a1) b8 rfl rfl rfl c4 b0 a8 a7 (fun d0 c8 b6 c5 b9 => ?_)
  have a5 : All2 api_Guard.t.R (x0 ++ ([({ Unit := x1, Want := x2 } : api_Guard)] : List api_Guard)) ((([] : List PV) ++ a0) ++ a1) := All2.app a4 a3
  have b1 : (x0 ++ ([({ Unit := x1, Want := x2 } : api_Guard)] : List api_Guard)).length ≤ 4611686018427387904 := by rw [← All2.length_eq a5, List.length_append]; exact fits_len a7
  refine mV rfl ?_
  refine nS ?_
  obtain ⟨c7, b4, b5⟩ := own_sl (P := Try.prog) (k := 0) (t := api_Guard.t) b9 rfl b6 a5 (Nat.le_trans b1 (by decide))
  subst hres
  exact rc_retV (.tmp rfl .nil) b4 b5

def RF67 (R_ : List Ent) (res : (List api_Unit)) (r : PV) (h : Heap) : Prop := ∃ asR0_ : PV, ∃ esR0_ : List PV, Mem h (⟨asR0_, 58, 3, esR0_⟩ :: R_) ∧ (All2 api_Unit.t.R res esR0_) ∧ (isL asR0_ = true) ∧ (res.length ≤ 4611686018427387904) ∧ (Wri asR0_ esR0_) ∧ r = asR0_
theorem ref32_collect_L1_ok {S : List Fr} {res : (List api_Unit)} {x0 : List api_Unit} {x1 : List api_ControlNode} {x2 : List api_Guard} {rec_ : (List api_Unit) → (List api_ControlNode) → (List api_Guard) → (List api_Unit)} {mu_ : Nat} {v1 v2 : PV} {R_ : List Ent} {a5 : PV} {b3 : List PV} (r1 : (tSl api_ControlNode.t).R x1 v1) (r2 : (tSl api_Guard.t).R x2 v2) (l2 : isL a5 = true) (n4 : x0.length ≤ 4611686018427387904) (l9 : Wri a5 b3) (hc : x0.length + csl x1 ≤ 1000) (hg : x2.length + csl x1 ≤ 1000) (ihR : ∀ {z0 : List api_Unit} {z1 : List api_ControlNode} {z2 : List api_Guard} {o6 o5 a5 : PV} {b3 : List PV} {R_ : List Ent} {h_ : Heap} (s5 : (tSl api_ControlNode.t).R z1 o6) (s6 : (tSl api_Guard.t).R z2 o5) (r0 : All2 api_Unit.t.R z0 b3) (l2 : isL a5 = true) (n4 : z0.length ≤ 4611686018427387904) (l9 : Wri a5 b3) (M_ : Mem h_ (⟨a5, 58, 3, b3⟩ :: R_)) (hc : z0.length + csl z1 ≤ 1000) (hg : z2.length + csl z1 ≤ 1000), csl z1 < mu_ → ∃ r o9, FnX Try.prog 67 [a5, o6, o5] h_ r o9 ∧ RF67 R_ (rec_ z0 z1 z2) r o9) (hmu : mu_ = csl x1) (hrec : ∀ z0 z1 z2, (rec_ z0 z1 z2).length ≤ z0.length + csl z1) {K0 : (List api_Unit) → (List api_Unit)}
    (r3 : ∀ {a3 : List api_Unit} {a1 : List PV} {a9 : PV} (b9 : All2 api_Unit.t.R a3 a1) (f4 : isL a9 = true) (b2 : Wri a9 a1) (d1 : a3.length ≤ 4611686018427387904) {h : Heap} (M0 : Mem h (⟨a9, 58, 3, a1⟩ :: R_)), K0 a3 = res → PX Try.prog 0 S (retPost Try.prog [(6, none)] (RF67 R_ res)) [(0, a9)] h) :
    ∀ {m : Nat} {a0 : Int} {a3 : List api_Unit} {a1 : List PV} {a9 : PV} (b9 : All2 api_Unit.t.R a3 a1) (f4 : isL a9 = true) (b2 : Wri a9 a1) (d1 : a3.length ≤ 4611686018427387904) (p8 : m = Int.toNat ((x1.length : Int) - a0)) (h3 : 0 ≤ a0) (f6 : a3.length + csl (x1.drop a0.toNat) ≤ x0.length + csl x1) {h : Heap} (M0 : Mem h (⟨a9, 58, 3, a1⟩ :: R_)), ref32_collect_L1 x1 x2 rec_ K0 m a0 a3 = res → RC Try.prog (.loop ac67_L1) S (retPost Try.prog [(6, none)] (RF67 R_ res)) [(7, vi a0), (2, v2), (1, v1), (0, a9)] h := by
  have hc' := hc
  try simp only [qa, qaD] at hc'
  intro m
  induction m with
  | zero =>
    intro a0 a3 a1 a9 b9 f4 b2 d1 p8 h3 f6 h M0 hres
    rw [ref32_collect_L1] at hres
    refine rc_loop ?_
    refine rc_seq ?_
    refine sR ?_
    refine mV rfl ?_
    refine mV rfl ?_
    refine rd_op (ov_bi rfl (sl_len r1 Try.underlying28 _)) ?_
    refine bN i_lss rfl rfl ?_
    refine nS ?_
    refine rc_cond rfl ?_ ?_ <;> intro c <;> try simp only [qa, qaD] at c
    · omega
    refine rc_exit ?_
    refine px_seq ?_
    refine px_again ?_
    exact wP (r3 b9 f4 b2 d1 (Mem.sub M0 (.cons_cons _ (List.Sublist.refl R_))) hres) rfl
  | succ m ih =>
    intro a0 a3 a1 a9 b9 f4 b2 d1 p8 h3 f6 h M0 hres
    rw [ref32_collect_L1] at hres
    refine rc_loop ?_
    refine rc_seq ?_
    refine sR ?_
    refine mV rfl ?_
    refine mV rfl ?_
    refine rd_op (ov_bi rfl (sl_len r1 Try.underlying28 _)) ?_
    refine bN i_lss rfl rfl ?_
    refine nS ?_
    refine rc_cond rfl ?_ ?_ <;> intro c <;> try simp only [qa, qaD] at c
    rotate_left
    · omega
    refine rc_skip ?_
    refine pn_seq ?_
    refine rc_seq ?_
    refine rc_block ?_
    refine sR ?_
    refine mV rfl ?_
    refine mV rfl ?_
    obtain ⟨q9, k0, n3⟩ := sl_idx (i := a0) r1 (by omega) (by omega)
    refine rd_op (ov_iaddr rfl rfl k0) ?_
    refine fL rfl (api_ControlNode.g_Table n3) rfl rfl ?_
    refine mV rfl ?_
    refine rd_op (v := .agg [vi ((ix x1 a0).Table), nilS, v2]) (ov_build (cs := [vi ((ix x1 a0).Table), nilS, v2]) rfl (by simp only [buildV, cells_one (TR.cnt (tSl api_Guard.t) r2) (TR.agg (tSl api_Guard.t) r2)]; rfl)) ?_
    refine rd_allocO (x := .agg [vi 0, nilS, nilS]) M0 rfl rfl (fun a8 b1 r8 m7 => ?_)
    refine rd_storeO (k := 0) (v := .agg [vi ((ix x1 a0).Table), nilS, v2]) m7 rfl rfl rfl rfl (fun h2 b0 => ?_)
    replace b0 : Mem h2 (⟨.op a8 b1 0, 58, 3, [.agg [vi ((ix x1 a0).Table), nilS, v2]]⟩ :: ⟨a9, 58, 3, a1⟩ :: R_) := b0
    refine nS ?_
    refine rc_seq ?_
    refine sR ?_
    refine mV rfl ?_
    refine mV rfl ?_
    obtain ⟨q1, o1, j3⟩ := sl_idx (i := a0) r1 (by omega) (by omega)
    refine rd_op (ov_iaddr rfl rfl o1) ?_
    refine fL rfl (api_ControlNode.g_Kind j3) rfl rfl ?_
    refine bN i_eql rfl rfl ?_
    refine nS ?_
    refine rc_br hres rfl ?_ ?_ <;> clear hres <;> intro c hres <;> try simp only [qa, qaD] at c
    · refine rc_region ?_
      refine mV rfl ?_
      refine mV rfl ?_
      obtain ⟨q2, k9, m0⟩ := sl_idx (i := a0) r1 (by omega) (by omega)
      refine rd_op (ov_iaddr rfl rfl k9) ?_
      refine gL (api_ControlNode.g_Cond m0) rfl rfl rfl fun a4 g1 => ?_
      refine mV rfl ?_
      refine rd_op (v := .agg [vi (-1), a4, v2]) (ov_build (cs := [vi (-1), a4, v2]) rfl (by simp only [buildV, cells_one (TR.cnt (tSl api_ExprNode.t) g1) (TR.agg (tSl api_ExprNode.t) g1), cells_one (TR.cnt (tSl api_Guard.t) r2) (TR.agg (tSl api_Guard.t) r2)]; rfl)) ?_
      refine rd_storeO (k := 0) (v := .agg [vi (-1), a4, v2]) b0 rfl rfl rfl rfl (fun i4 b8 => ?_)
      replace b8 : Mem i4 (⟨.op a8 b1 0, 58, 3, [.agg [vi (-1), a4, v2]]⟩ :: ⟨a9, 58, 3, a1⟩ :: R_) := b8
      refine nR ?_
      refine mV rfl ?_
      refine rd_op (ov_bi rfl (own_len (k := 1) b8 rfl Try.underlying48 f4 b9 _)) ?_
      refine mV rfl ?_
      refine nR ?_
      refine mV rfl ?_
      refine rd_op (ov_load0 (k := 0) b8 rfl rfl rfl) ?_
      refine rd_op (v := .fs true [.agg [vi (-1), a4, v2]]) (ov_bslice rfl (all_cons rfl all_nil)) ?_
      have m1 : (tSl api_Unit.t).R ([({ Table := (-1), Cond := (ix x1 a0).Cond, Guards := x2 } : api_Unit)] : List api_Unit) (.fs true [.agg [vi (-1), a4, v2]]) := sl_fs ⟨⟨a4, v2, rfl, g1, r2⟩, trivial⟩ (by simp)
      obtain ⟨a6, g7, e5⟩ := src_of (t := api_Unit.t) (h := i4) m1
      have h8 : fits (a1.length + a6.length) 56 = true := by rw [All2.length_eq b9, All2.length_eq e5]; (try simp only [List.length_cons, List.length_nil]); exact fits_of (by first | omega | (have hk := csl_drop (l := x1) (i := a0) (by omega) (by omega); have a2 := csl_ix (l := x1) (i := a0) (by omega) (by omega); (try simp only [ub11_len, under_len, List.length_append, List.length_cons, List.length_nil] at *); omega)) (by first | omega | (have hk := csl_drop (l := x1) (i := a0) (by omega) (by omega); have a2 := csl_ix (l := x1) (i := a0) (by omega) (by omega); (try simp only [ub11_len, under_len, List.length_append, List.length_cons, List.length_nil] at *); omega))
      refine rd_appW (k := 1) (es := a1) (news := a6) b8 rfl rfl rfl f4 b2 g7 h8 (fun k8 m8 o2 h9 j2 => ?_)
      have g9 : All2 api_Unit.t.R (a3 ++ ([({ Table := (-1), Cond := (ix x1 a0).Cond, Guards := x2 } : api_Unit)] : List api_Unit)) (a1 ++ a6) := All2.app b9 e5
      have g4 : (a3 ++ ([({ Table := (-1), Cond := (ix x1 a0).Cond, Guards := x2 } : api_Unit)] : List api_Unit)).length ≤ 4611686018427387904 := by rw [← All2.length_eq g9, List.length_append]; exact fits_len h8
      refine mV rfl ?_
      refine nS ?_
      refine rc_seq ?_
      refine rc_regionU ?_
      refine rx_step ?_
      refine mV rfl ?_
      refine rx_back ?_
      refine rx_step ?_
      refine mV rfl ?_
      refine rx_back ?_
      refine rx_step ?_
      refine mV rfl ?_
      refine rx_back ?_
      refine rx_step ?_
      obtain ⟨r5, j4, l0⟩ := sl_idx (i := a0) r1 (by omega) (by omega)
      refine rd_op (ov_iaddr rfl rfl j4) ?_
      refine rx_back ?_
      refine rx_step ?_
      obtain ⟨r9, k3, g2⟩ := api_ControlNode.g_Then l0
      refine fA rfl k3 ?_
      refine rx_back ?_
      refine rx_step ?_
      refine lD g2 rfl rfl rfl ?_
      refine rx_back ?_
      refine rx_step ?_
      refine mV rfl ?_
      refine rx_back ?_
      refine rx_step ?_
      refine mV rfl ?_
      refine rx_back ?_
      refine rx_step ?_
      obtain ⟨n2, e8, hres⟩ := let_ex hres
      obtain ⟨r4, l6, i2⟩ := f80_ok (x1 := (a3.length : Int)) (x2 := true) r2 (by first | omega | (have hk := csl_drop (l := x1) (i := a0) (by omega) (by omega); have a2 := csl_ix (l := x1) (i := a0) (by omega) (by omega); (try simp only [ub11_len, under_len, List.length_append, List.length_cons, List.length_nil] at *); omega))
      rw [e8] at i2
      have p6 := un_use e8
      refine cL l6 rfl rfl (clL_cons (TR.clo (tSl api_Guard.t) r2) (clL_cons rfl (clL_cons rfl clL_nil))) ?_
      refine rx_back ?_
      have k5 : Mem m8 (⟨k8, 58, 3, (a1 ++ a6)⟩ :: ⟨.op a8 b1 0, 58, 3, [.agg [vi (-1), a4, v2]]⟩ :: R_) := (Mem.front (k := 1) j2 rfl)
      obtain ⟨j1, f1, hres⟩ := let_ex hres
      obtain ⟨o7, m9, h5, f8⟩ := ihR (z0 := (a3 ++ ([({ Table := (-1), Cond := (ix x1 a0).Cond, Guards := x2 } : api_Unit)] : List api_Unit))) (z1 := ((ix x1 a0).Then)) (z2 := n2) g2 i2 g9 o2 g4 h9 k5 (by first | omega | (have hk := csl_drop (l := x1) (i := a0) (by omega) (by omega); have a2 := csl_ix (l := x1) (i := a0) (by omega) (by omega); (try simp only [ub11_len, under_len, List.length_append, List.length_cons, List.length_nil] at *); omega)) (by first | omega | (have hk := csl_drop (l := x1) (i := a0) (by omega) (by omega); have a2 := csl_ix (l := x1) (i := a0) (by omega) (by omega); (try simp only [ub11_len, under_len, List.length_append, List.length_cons, List.length_nil] at *); omega)) (by first | omega | (have hk := csl_drop (l := x1) (i := a0) (by omega) (by omega); have a2 := csl_ix (l := x1) (i := a0) (by omega) (by omega); (try simp only [ub11_len, under_len, List.length_append, List.length_cons, List.length_nil] at *); omega))
      rw [f1] at f8
      obtain ⟨d5, e2, l5, d3, d9, c4, d8, b5⟩ := f8
      replace b5 := b5.symm; subst b5
      refine rx_callXc rfl rfl h5 ?_
      have p4 := cl_use hrec f1
      refine rx_step ?_
      refine mV rfl ?_
      refine rx_back ?_
      refine rx_nil ?_
      refine pn_seq ?_
      refine rc_regionU ?_
      refine rx_step ?_
      refine mV rfl ?_
      refine rx_back ?_
      refine rx_step ?_
      refine mV rfl ?_
      refine rx_back ?_
      refine rx_step ?_
      refine mV rfl ?_
      refine rx_back ?_
      refine rx_step ?_
      obtain ⟨s1, o0, m2⟩ := sl_idx (i := a0) r1 (by omega) (by omega)
      refine rd_op (ov_iaddr rfl rfl o0) ?_
      refine rx_back ?_
      refine rx_step ?_
      obtain ⟨r7, l1, g3⟩ := api_ControlNode.g_Else m2
      refine fA rfl l1 ?_
      refine rx_back ?_
      refine rx_step ?_
      refine lD g3 rfl rfl rfl ?_
      refine rx_back ?_
      refine rx_step ?_
      refine mV rfl ?_
      refine rx_back ?_
      refine rx_step ?_
      refine mV rfl ?_
      refine rx_back ?_
      refine rx_step ?_
      obtain ⟨n6, g0, hres⟩ := let_ex hres
      obtain ⟨s4, j5, h4⟩ := f80_ok (x1 := (a3.length : Int)) (x2 := false) r2 (by first | omega | (have hk := csl_drop (l := x1) (i := a0) (by omega) (by omega); have a2 := csl_ix (l := x1) (i := a0) (by omega) (by omega); (try simp only [ub11_len, under_len, List.length_append, List.length_cons, List.length_nil] at *); omega))
      rw [g0] at h4
      have p9 := un_use g0
      refine cL j5 rfl rfl (clL_cons (TR.clo (tSl api_Guard.t) r2) (clL_cons rfl (clL_cons rfl clL_nil))) ?_
      refine rx_back ?_
      have j8 : Mem m9 (⟨d5, 58, 3, e2⟩ :: ⟨.op a8 b1 0, 58, 3, [.agg [vi (-1), a4, v2]]⟩ :: R_) := (Mem.front (k := 0) l5 rfl)
      obtain ⟨s0, f2, hres⟩ := let_ex hres
      obtain ⟨p7, s2, i1, e6⟩ := ihR (z0 := j1) (z1 := ((ix x1 a0).Else)) (z2 := n6) g3 h4 d3 d9 c4 d8 j8 (by first | omega | (have hk := csl_drop (l := x1) (i := a0) (by omega) (by omega); have a2 := csl_ix (l := x1) (i := a0) (by omega) (by omega); (try simp only [ub11_len, under_len, List.length_append, List.length_cons, List.length_nil] at *); omega)) (by first | omega | (have hk := csl_drop (l := x1) (i := a0) (by omega) (by omega); have a2 := csl_ix (l := x1) (i := a0) (by omega) (by omega); (try simp only [ub11_len, under_len, List.length_append, List.length_cons, List.length_nil] at *); omega)) (by first | omega | (have hk := csl_drop (l := x1) (i := a0) (by omega) (by omega); have a2 := csl_ix (l := x1) (i := a0) (by omega) (by omega); (try simp only [ub11_len, under_len, List.length_append, List.length_cons, List.length_nil] at *); omega))
      rw [f2] at e6
      obtain ⟨j0, i8, j9, d7, c8, c5, d2, b7⟩ := e6
      replace b7 := b7.symm; subst b7
      refine rx_callXc rfl rfl i1 ?_
      have o8 := cl_use hrec f2
      refine rx_step ?_
      refine mV rfl ?_
      refine rx_back ?_
      refine rx_nil ?_
      refine pn_blk ?_
      refine pn_seq ?_
      refine rc_region ?_
      refine mV rfl ?_
      refine bN i_add rfl rfl ?_
      refine mV rfl ?_
      refine rd_nil ?_
      refine pn_again ?_
      have hbd := sl_bound r1
      have hinc : wr (a0 + 1) = a0 + 1 := wr_of (by omega) (by omega)
      erw [hinc]
      exact wC (ih  d7 c8 d2 c5 (by omega) (by omega) (by first | omega | (have hk := csl_drop (l := x1) (i := a0) (by omega) (by omega); have a2 := csl_ix (l := x1) (i := a0) (by omega) (by omega); (try simp only [ub11_len, under_len, List.length_append, List.length_cons, List.length_nil] at *); omega)) (Mem.sub j9 (.cons_cons _ (.cons _ (List.Sublist.refl R_)))) hres) rfl
    · refine rc_skip ?_
      refine pn_seq ?_
      refine sR ?_
      refine mV rfl ?_
      refine rd_op (ov_bi rfl (own_len (k := 1) b0 rfl Try.underlying48 f4 b9 _)) ?_
      refine mV rfl ?_
      refine nR ?_
      refine mV rfl ?_
      refine rd_op (ov_load0 (k := 0) b0 rfl rfl rfl) ?_
      refine rd_op (v := .fs true [.agg [vi ((ix x1 a0).Table), nilS, v2]]) (ov_bslice rfl (all_cons rfl all_nil)) ?_
      have k6 : (tSl api_Unit.t).R ([({ Table := (ix x1 a0).Table, Cond := ([] : List api_ExprNode), Guards := x2 } : api_Unit)] : List api_Unit) (.fs true [.agg [vi ((ix x1 a0).Table), nilS, v2]]) := sl_fs ⟨⟨nilS, v2, rfl, sl_nil, r2⟩, trivial⟩ (by simp)
      obtain ⟨a7, i6, e7⟩ := src_of (t := api_Unit.t) (h := h2) k6
      have h0 : fits (a1.length + a7.length) 56 = true := by rw [All2.length_eq b9, All2.length_eq e7]; (try simp only [List.length_cons, List.length_nil]); exact fits_of (by first | omega | (have hk := csl_drop (l := x1) (i := a0) (by omega) (by omega); have a2 := csl_ix (l := x1) (i := a0) (by omega) (by omega); (try simp only [ub11_len, under_len, List.length_append, List.length_cons, List.length_nil] at *); omega)) (by first | omega | (have hk := csl_drop (l := x1) (i := a0) (by omega) (by omega); have a2 := csl_ix (l := x1) (i := a0) (by omega) (by omega); (try simp only [ub11_len, under_len, List.length_append, List.length_cons, List.length_nil] at *); omega))
      refine rd_appW (k := 1) (es := a1) (news := a7) b0 rfl rfl rfl f4 b2 i6 h0 (fun k7 n8 n9 i3 j6 => ?_)
      have h1 : All2 api_Unit.t.R (a3 ++ ([({ Table := (ix x1 a0).Table, Cond := ([] : List api_ExprNode), Guards := x2 } : api_Unit)] : List api_Unit)) (a1 ++ a7) := All2.app b9 e7
      have g5 : (a3 ++ ([({ Table := (ix x1 a0).Table, Cond := ([] : List api_ExprNode), Guards := x2 } : api_Unit)] : List api_Unit)).length ≤ 4611686018427387904 := by rw [← All2.length_eq h1, List.length_append]; exact fits_len h0
      refine mV rfl ?_
      refine nS ?_
      refine rc_seq ?_
      refine rc_regionU ?_
      refine rx_step ?_
      refine mV rfl ?_
      refine rx_back ?_
      refine rx_step ?_
      refine mV rfl ?_
      refine rx_back ?_
      refine rx_step ?_
      refine mV rfl ?_
      refine rx_back ?_
      refine rx_step ?_
      obtain ⟨q6, m4, n5⟩ := sl_idx (i := a0) r1 (by omega) (by omega)
      refine rd_op (ov_iaddr rfl rfl m4) ?_
      refine rx_back ?_
      refine rx_step ?_
      obtain ⟨q4, n7, i5⟩ := api_ControlNode.g_Then n5
      refine fA rfl n7 ?_
      refine rx_back ?_
      refine rx_step ?_
      refine lD i5 rfl rfl rfl ?_
      refine rx_back ?_
      refine rx_step ?_
      refine mV rfl ?_
      refine rx_back ?_
      refine rx_step ?_
      refine mV rfl ?_
      refine rx_back ?_
      refine rx_step ?_
      obtain ⟨k4, e9, hres⟩ := let_ex hres
      obtain ⟨q7, j7, i0⟩ := f80_ok (x1 := (a3.length : Int)) (x2 := true) r2 (by first | omega | (have hk := csl_drop (l := x1) (i := a0) (by omega) (by omega); have a2 := csl_ix (l := x1) (i := a0) (by omega) (by omega); (try simp only [ub11_len, under_len, List.length_append, List.length_cons, List.length_nil] at *); omega))
      rw [e9] at i0
      have p5 := un_use e9
      refine cL j7 rfl rfl (clL_cons (TR.clo (tSl api_Guard.t) r2) (clL_cons rfl (clL_cons rfl clL_nil))) ?_
      refine rx_back ?_
      have o3 : Mem n8 (⟨k7, 58, 3, (a1 ++ a7)⟩ :: ⟨.op a8 b1 0, 58, 3, [.agg [vi ((ix x1 a0).Table), nilS, v2]]⟩ :: R_) := (Mem.front (k := 1) j6 rfl)
      obtain ⟨n0, f7, hres⟩ := let_ex hres
      obtain ⟨p3, m3, h7, f9⟩ := ihR (z0 := (a3 ++ ([({ Table := (ix x1 a0).Table, Cond := ([] : List api_ExprNode), Guards := x2 } : api_Unit)] : List api_Unit))) (z1 := ((ix x1 a0).Then)) (z2 := k4) i5 i0 h1 n9 g5 i3 o3 (by first | omega | (have hk := csl_drop (l := x1) (i := a0) (by omega) (by omega); have a2 := csl_ix (l := x1) (i := a0) (by omega) (by omega); (try simp only [ub11_len, under_len, List.length_append, List.length_cons, List.length_nil] at *); omega)) (by first | omega | (have hk := csl_drop (l := x1) (i := a0) (by omega) (by omega); have a2 := csl_ix (l := x1) (i := a0) (by omega) (by omega); (try simp only [ub11_len, under_len, List.length_append, List.length_cons, List.length_nil] at *); omega)) (by first | omega | (have hk := csl_drop (l := x1) (i := a0) (by omega) (by omega); have a2 := csl_ix (l := x1) (i := a0) (by omega) (by omega); (try simp only [ub11_len, under_len, List.length_append, List.length_cons, List.length_nil] at *); omega))
      rw [f7] at f9
      obtain ⟨d0, e0, n1, d4, c6, d6, e1, b4⟩ := f9
      replace b4 := b4.symm; subst b4
      refine rx_callXc rfl rfl h7 ?_
      have q0 := cl_use hrec f7
      refine rx_step ?_
      refine mV rfl ?_
      refine rx_back ?_
      refine rx_nil ?_
      refine pn_seq ?_
      refine rc_regionU ?_
      refine rx_step ?_
      refine mV rfl ?_
      refine rx_back ?_
      refine rx_step ?_
      refine mV rfl ?_
      refine rx_back ?_
      refine rx_step ?_
      refine mV rfl ?_
      refine rx_back ?_
      refine rx_step ?_
      obtain ⟨r6, l3, l8⟩ := sl_idx (i := a0) r1 (by omega) (by omega)
      refine rd_op (ov_iaddr rfl rfl l3) ?_
      refine rx_back ?_
      refine rx_step ?_
      obtain ⟨q3, m6, g8⟩ := api_ControlNode.g_Else l8
      refine fA rfl m6 ?_
      refine rx_back ?_
      refine rx_step ?_
      refine lD g8 rfl rfl rfl ?_
      refine rx_back ?_
      refine rx_step ?_
      refine mV rfl ?_
      refine rx_back ?_
      refine rx_step ?_
      refine mV rfl ?_
      refine rx_back ?_
      refine rx_step ?_
      obtain ⟨m5, f5, hres⟩ := let_ex hres
      obtain ⟨q8, o4, g6⟩ := f80_ok (x1 := (a3.length : Int)) (x2 := false) r2 (by first | omega | (have hk := csl_drop (l := x1) (i := a0) (by omega) (by omega); have a2 := csl_ix (l := x1) (i := a0) (by omega) (by omega); (try simp only [ub11_len, under_len, List.length_append, List.length_cons, List.length_nil] at *); omega))
      rw [f5] at g6
      have p2 := un_use f5
      refine cL o4 rfl rfl (clL_cons (TR.clo (tSl api_Guard.t) r2) (clL_cons rfl (clL_cons rfl clL_nil))) ?_
      refine rx_back ?_
      have l7 : Mem m3 (⟨d0, 58, 3, e0⟩ :: ⟨.op a8 b1 0, 58, 3, [.agg [vi ((ix x1 a0).Table), nilS, v2]]⟩ :: R_) := (Mem.front (k := 0) n1 rfl)
      obtain ⟨s3, f3, hres⟩ := let_ex hres
      obtain ⟨p1, q5, h6, f0⟩ := ihR (z0 := n0) (z1 := ((ix x1 a0).Else)) (z2 := m5) g8 g6 d4 c6 d6 e1 l7 (by first | omega | (have hk := csl_drop (l := x1) (i := a0) (by omega) (by omega); have a2 := csl_ix (l := x1) (i := a0) (by omega) (by omega); (try simp only [ub11_len, under_len, List.length_append, List.length_cons, List.length_nil] at *); omega)) (by first | omega | (have hk := csl_drop (l := x1) (i := a0) (by omega) (by omega); have a2 := csl_ix (l := x1) (i := a0) (by omega) (by omega); (try simp only [ub11_len, under_len, List.length_append, List.length_cons, List.length_nil] at *); omega)) (by first | omega | (have hk := csl_drop (l := x1) (i := a0) (by omega) (by omega); have a2 := csl_ix (l := x1) (i := a0) (by omega) (by omega); (try simp only [ub11_len, under_len, List.length_append, List.length_cons, List.length_nil] at *); omega))
      rw [f3] at f0
      obtain ⟨i9, i7, l4, e3, e4, c7, c9, b6⟩ := f0
      replace b6 := b6.symm; subst b6
      refine rx_callXc rfl rfl h6 ?_
      have p0 := cl_use hrec f3
      refine rx_step ?_
      refine mV rfl ?_
      refine rx_back ?_
      refine rx_nil ?_
      refine pn_blk ?_
      refine pn_seq ?_
      refine rc_region ?_
      refine mV rfl ?_
      refine bN i_add rfl rfl ?_
      refine mV rfl ?_
      refine rd_nil ?_
      refine pn_again ?_
      have hbd := sl_bound r1
      have hinc : wr (a0 + 1) = a0 + 1 := wr_of (by omega) (by omega)
      erw [hinc]
      exact wC (ih  e3 e4 c9 c7 (by omega) (by omega) (by first | omega | (have hk := csl_drop (l := x1) (i := a0) (by omega) (by omega); have a2 := csl_ix (l := x1) (i := a0) (by omega) (by omega); (try simp only [ub11_len, under_len, List.length_append, List.length_cons, List.length_nil] at *); omega)) (Mem.sub l4 (.cons_cons _ (.cons _ (List.Sublist.refl R_)))) hres) rfl

theorem f67_okB {rec_ : (List api_Unit) → (List api_ControlNode) → (List api_Guard) → (List api_Unit)} {mu_ : Nat} {x0 : List api_Unit} {x1 : List api_ControlNode} {x2 : List api_Guard} {v1 v2 a0 : PV} {a1 : List PV} {R_ : List Ent} {h_ : Heap} (r1 : (tSl api_ControlNode.t).R x1 v1) (r2 : (tSl api_Guard.t).R x2 v2) (b3 : All2 api_Unit.t.R x0 a1) (a8 : isL a0 = true) (a7 : x0.length ≤ 4611686018427387904) (b0 : Wri a0 a1) (M_ : Mem h_ (⟨a0, 58, 3, a1⟩ :: R_)) (hc : x0.length + csl x1 ≤ 1000) (hg : x2.length + csl x1 ≤ 1000) (hmu : mu_ = csl x1) (hrec : ∀ z0 z1 z2, (rec_ z0 z1 z2).length ≤ z0.length + csl z1) (ihR : ∀ {z0 : List api_Unit} {z1 : List api_ControlNode} {z2 : List api_Guard} {b8 b7 a0 : PV} {a1 : List PV} {R_ : List Ent} {h_ : Heap} (c4 : (tSl api_ControlNode.t).R z1 b8) (b9 : (tSl api_Guard.t).R z2 b7) (b3 : All2 api_Unit.t.R z0 a1) (a8 : isL a0 = true) (a7 : z0.length ≤ 4611686018427387904) (b0 : Wri a0 a1) (M_ : Mem h_ (⟨a0, 58, 3, a1⟩ :: R_)) (hc : z0.length + csl z1 ≤ 1000) (hg : z2.length + csl z1 ≤ 1000), csl z1 < mu_ → ∃ r b2, FnX Try.prog 67 [a0, b8, b7] h_ r b2 ∧ RF67 R_ (rec_ z0 z1 z2) r b2) : ∃ r b2, FnX Try.prog 67 [a0, v1, v2] h_ r b2 ∧ RF67 R_ (ref32_collect_B rec_ x0 x1 x2) r b2 := by
  refine fnXX (R := RF67 R_) text67 rfl fun res hres => ?_
  unfold ref32_collect_B at hres
  refine sR ?_
  refine rd_op (v := nilS) (ov_move rfl) ?_
  refine nS ?_
  refine rc_seq ?_
  refine sR ?_
  refine mI rfl ?_
  refine nS ?_
  refine rc_block ?_
  refine wC (ref32_collect_L1_ok r1 r2 a8 a7 b0 hc hg ihR hmu hrec ?_  b3 a8 b0 a7 rfl (by omega) (by simp) (Mem.sub M_ (.cons_cons _ (List.Sublist.refl R_))) hres) rfl
  · intro b4 a2 a3 a9 a6 a4 a5 b6 b5 hres
    refine px_blk ?_
    refine pn_seq ?_
    refine sR ?_
    refine mV rfl ?_
    refine mV rfl ?_
    refine nS ?_
    have b1 : Mem b6 (⟨a3, 58, 3, a2⟩ :: R_) := (Mem.front (k := 0) b5 rfl)
    subst hres
    exact rc_retX (.tmp rfl .nil) ⟨a3, a2, Mem.sub b1 (.cons_cons _ (List.Sublist.refl R_)), a9, a6, a5, a4, rfl⟩
theorem f67_okR : ∀ (n_ : Nat) {x0 : List api_Unit} {x1 : List api_ControlNode} {x2 : List api_Guard} {v1 v2 a0 : PV} {a1 : List PV} {R_ : List Ent} {h_ : Heap} (r1 : (tSl api_ControlNode.t).R x1 v1) (r2 : (tSl api_Guard.t).R x2 v2) (a4 : All2 api_Unit.t.R x0 a1) (a3 : isL a0 = true) (a2 : x0.length ≤ 4611686018427387904) (a5 : Wri a0 a1) (M_ : Mem h_ (⟨a0, 58, 3, a1⟩ :: R_)) (hc : x0.length + csl x1 ≤ 1000) (hg : x2.length + csl x1 ≤ 1000), csl x1 < n_ → ∃ r a6, FnX Try.prog 67 [a0, v1, v2] h_ r a6 ∧ RF67 R_ (ref32_collect_R n_ x0 x1 x2) r a6 := by
  intro n_
  induction n_ with
  | zero => intros; rename_i hlt; exact absurd hlt (Nat.not_lt_zero _)
  | succ n_ ihn =>
    intro x0 x1 x2 v1 v2 a0 a1 R_ h_ r1 r2 a4 a3 a2 a5 M_ hc hg hlt
    have e_ : ref32_collect_R (n_ + 1) x0 x1 x2 = ref32_collect_B (ref32_collect_R n_) x0 x1 x2 := by rw [ref32_collect_R]
    rw [e_]
    exact f67_okB r1 r2 a4 a3 a2 a5 M_ hc hg rfl (collect_len n_) (fun {z0} {z1} {z2} {zv1} {zv2} {a0} {a1} {R_} {h_} zr1 zr2 a4 a3 a2 a5 M_ hc hg hz => ihn zr1 zr2 a4 a3 a2 a5 M_ hc hg (by omega))
theorem f67_ok {x0 : List api_Unit} {x1 : List api_ControlNode} {x2 : List api_Guard} {v1 v2 a0 : PV} {a1 : List PV} {R_ : List Ent} {h_ : Heap} (r1 : (tSl api_ControlNode.t).R x1 v1) (r2 : (tSl api_Guard.t).R x2 v2) (a4 : All2 api_Unit.t.R x0 a1) (a3 : isL a0 = true) (a2 : x0.length ≤ 4611686018427387904) (a5 : Wri a0 a1) (M_ : Mem h_ (⟨a0, 58, 3, a1⟩ :: R_)) (hc : x0.length + csl x1 ≤ 1000) (hg : x2.length + csl x1 ≤ 1000) : ∃ r a6, FnX Try.prog 67 [a0, v1, v2] h_ r a6 ∧ RF67 R_ (ref32_collect x0 x1 x2) r a6 := f67_okR _ r1 r2 a4 a3 a2 a5 M_ hc hg (Nat.lt_succ_self _)

end Go.Proofs.Ytkgnjpoafilicaa
