/-
  The code of each function does what its plain program says.
-/
import Derived.Test.YtmonnlkagniolaaGreatL11W1
set_option linter.unusedVariables false
set_option linter.unusedSimpArgs false
set_option maxRecDepth 100000
namespace Go.Proofs.YtmonnlkagniolaaGreat
open Go Go.Pb Go.RowKit
def RF226 (res : Int × Int × Int) (r : PV) : Prop := r = .tup [vi res.1, vi res.2.1, vi res.2.2]
theorem m1_expr_Scope__check_L1_ok {S : List Fr} {res : Int × Int × Int} {x0 : expr_Scope} {x1 : List api_ExprNode} {x2 : Int} {rec_ : expr_Scope → (List api_ExprNode) → Int → (Int × Int × Int)} {mu_ : Nat} {a9 : Int} {v0 v1 : PV} {a7 a8 : Nat} (r0 : expr_Scope.t.R x0 v0) (r1 : (tSl api_ExprNode.t).R x1 v1) (h0 : 0 ≤ x2) (hb : x1.length ≤ 1000000) (ihR : ∀ {z0 : expr_Scope} {z1 : List api_ExprNode} {z2 : Int} {d0 c8 : PV} (d3 : expr_Scope.t.R z0 d0) (d4 : (tSl api_ExprNode.t).R z1 c8) (h0 : 0 ≤ z2) (hb : z1.length ≤ 1000000), (z1.length - z2.toNat) < mu_ → FnR Tryz.prog 226 [d0, c8, vi z2] (.tup [vi ((rec_ z0 z1 z2).1), vi ((rec_ z0 z1 z2).2.1), vi ((rec_ z0 z1 z2).2.2)])) (hmu : mu_ = (x1.length - x2.toNat)) (hrec : ∀ (z0 : expr_Scope) (z1 : List api_ExprNode) (z2 : Int), 0 ≤ z2 → z1.length ≤ 1000000 → (rec_ z0 z1 z2).2.2 = 0 → z2 < (rec_ z0 z1 z2).2.1) (c4 : (decide ((x1.length : Int) ≤ x2)) = false) (c9 : expr_arity ((ix x1 x2).Op) = a9) (b8 : (decide (a9 < 0)) = false) (b9 : (decide (a9 = 0)) = false) {K1 : Int → (List Int) → (Int × Int × Int)}
    (d2 : ∀ {b0 : Int} {a2 : List Int} {a1 : PV} (a3 : (tAr 3 tI).R a2 a1) {h : Heap} (M0 : Mem h [⟨.op a7 a8 0, 293, 3, [a1]⟩]), K1 b0 a2 = res → PX Tryz.prog 1 S (QR Tryz.prog [(6, none), (7, none), (8, none)] (RF226 res)) [(1, v1), (2, vi x2), (7, vi b0), (10, .op a7 a8 0)] h) :
    ∀ {m : Nat} {b0 a0 : Int} {a2 : List Int} {a1 : PV} (a3 : (tAr 3 tI).R a2 a1) (c7 : m = Int.toNat (a9 - a0)) (c3 : 0 ≤ a0) (b2 : x2 < b0) {h : Heap} (M0 : Mem h [⟨.op a7 a8 0, 293, 3, [a1]⟩]), m1_expr_Scope__check_L1 x0 x1 rec_ K1 m b0 a0 a2 = res → RC Tryz.prog (.loop ac226_L1) S (QR Tryz.prog [(6, none), (7, none), (8, none)] (RF226 res)) [(44, vi a0), (43, vi a9), (10, .op a7 a8 0), (7, vi b0), (3, .fp v0), (2, vi x2), (1, v1)] h := by
  have hb' := hb
  try simp only [qa, qaD] at hb'
  have b6 := c4
  try simp only [qa, qaD] at b6
  have b7 := b8
  try simp only [qa, qaD] at b7
  have b5 := b9
  try simp only [qa, qaD] at b5
  intro m
  induction m with
  | zero =>
    intro b0 a0 a2 a1 a3 c7 c3 b2 h M0 hres
    rw [m1_expr_Scope__check_L1] at hres
    refine rc_loop ?_
    refine sR ?_
    refine bN i_lss rfl rfl ?_
    refine nS ?_
    refine rc_seq ?_
    refine rc_cond rfl ?_ ?_ <;> intro c <;> try simp only [qa, qaD] at c
    · omega
    refine rc_exit ?_
    refine px_seq ?_
    refine px_again ?_
    exact wP (d2 a3 (Mem.sub M0 (.cons_cons _ .slnil)) hres) rfl
  | succ m ih =>
    intro b0 a0 a2 a1 a3 c7 c3 b2 h M0 hres
    rw [m1_expr_Scope__check_L1] at hres
    refine rc_loop ?_
    refine sR ?_
    refine bN i_lss rfl rfl ?_
    refine nS ?_
    refine rc_seq ?_
    refine rc_cond rfl ?_ ?_ <;> intro c <;> try simp only [qa, qaD] at c
    rotate_left
    · omega
    refine rc_skip ?_
    refine pn_seq ?_
    refine rc_seq ?_
    refine rc_block ?_
    refine sR ?_
    refine mV rfl ?_
    refine mV rfl ?_
    refine nR ?_
    refine mV rfl ?_
    refine lD r0 rfl rfl rfl ?_
    refine mV rfl ?_
    refine mV rfl ?_
    obtain ⟨a4, b1, hres⟩ := let_ex hres
    have c2 := ihR (z0 := x0) (z1 := x1) (z2 := b0) r0 r1 (by first | assumption | omega | (rw [wr_of (by omega) (by omega)]; omega) | (have hk := rval rfl (And.right (And.left (by assumption))); omega) | (have hk := rval (by assumption) (by assumption); omega) | (have hk := rval (by assumption) (And.left (by assumption)); omega) | (have hk := rval (by assumption) (And.left (And.left (by assumption))); have hz := rslc (by assumption); omega) | (simp; done) | (simp only [List.length_append, List.length_nil, List.length_cons]; omega) | (have hk := (chk_ok (by assumption) (by assumption)).1; omega) | (simp only [List.length_cons, List.length_nil]; omega) | (simp only [List.length_append]; have hk := (chk_ok (by assumption) (by assumption)).1; omega) | (simp only [List.length_append, List.length_nil]; have hk := (chk_ok (by assumption) (by assumption)).1; omega)) (by first | assumption | omega | (rw [wr_of (by omega) (by omega)]; omega) | (have hk := rval rfl (And.right (And.left (by assumption))); omega) | (have hk := rval (by assumption) (by assumption); omega) | (have hk := rval (by assumption) (And.left (by assumption)); omega) | (have hk := rval (by assumption) (And.left (And.left (by assumption))); have hz := rslc (by assumption); omega) | (simp; done) | (simp only [List.length_append, List.length_nil, List.length_cons]; omega) | (have hk := (chk_ok (by assumption) (by assumption)).1; omega) | (simp only [List.length_cons, List.length_nil]; omega) | (simp only [List.length_append]; have hk := (chk_ok (by assumption) (by assumption)).1; omega) | (simp only [List.length_append, List.length_nil]; have hk := (chk_ok (by assumption) (by assumption)).1; omega)) (by first | omega | (rw [wr_of (by omega) (by omega)]; omega))
    rw [b1] at c2
    have d1 : a4.2.2 = 0 → b0 < a4.2.1 := by rw [← b1]; exact hrec _ _ _ (by omega) (by omega)
    refine cL c2 rfl rfl (clL_cons (TR.clo expr_Scope.t r0) (clL_cons (TR.clo (tSl api_ExprNode.t) r1) (clL_cons rfl clL_nil))) ?_
    refine mV rfl ?_
    refine xT rfl rfl ?_
    refine xT rfl rfl ?_
    refine xT rfl rfl ?_
    have a5 : 0 ≤ a0 := by first | omega | (have hk := ar (by assumption); omega)
    have a6 : a0 < 3 := by first | omega | (have hk := ar (by assumption); omega)
    refine rd_op (ov_iaddrAO rfl rfl a5 a6) ?_
    obtain ⟨c0, c1, b3, c5⟩ := arr_store (t := tI) (i := a0) a3 a5 a6 (show tI.R a4.1 (vi a4.1) from rfl) rfl
    refine rd_storeFA (k := 0) (v := vi a4.1) M0 rfl rfl rfl c1 rfl b3.1 b3.2 (fun c6 b4 => ?_)
    replace b4 : Mem c6 [⟨.op a7 a8 0, 293, 3, [.agg (spl c0 (a0.toNat * 1) [vi a4.1])]⟩] := b4
    refine mV rfl ?_
    refine mV rfl ?_
    refine nR ?_
    refine mV rfl ?_
    refine bN i_neq rfl rfl ?_
    refine nS ?_
    refine rc_br hres rfl ?_ ?_ <;> clear hres <;> intro c hres <;> try simp only [qa, qaD] at c
    · refine sR ?_
      refine mV rfl ?_
      refine mI rfl ?_
      refine mI rfl ?_
      refine mV rfl ?_
      refine nS ?_
      subst hres
      exact rc_retV (.tmp rfl (.tmp rfl (.tmp rfl .nil))) (deep_closed (show closed (.tup _) = true from (clL_cons rfl (clL_cons rfl (clL_cons rfl clL_nil))))) rfl
    · refine rc_skip ?_
      refine pn_blk ?_
      refine pn_seq ?_
      refine rc_region ?_
      refine bN i_add rfl rfl ?_
      refine mV rfl ?_
      refine rd_nil ?_
      refine pn_again ?_
      have hinc : wr (a0 + 1) = a0 + 1 := wr_of (by omega) (by first | omega | (have hk := ar (by assumption); omega))
      erw [hinc]
      exact wC (ih  c5 (by omega) (by omega) (by first | omega | (simp; done) | (simp only [List.length_append, List.length_cons, List.length_nil, List.length_set]; omega)) (Mem.sub b4 (.cons_cons _ .slnil)) hres) rfl

theorem f226_okB {rec_ : expr_Scope → (List api_ExprNode) → Int → (Int × Int × Int)} {mu_ : Nat} {x0 : expr_Scope} {x1 : List api_ExprNode} {x2 : Int} {v0 v1 : PV} (r0 : expr_Scope.t.R x0 v0) (r1 : (tSl api_ExprNode.t).R x1 v1) (h0 : 0 ≤ x2) (hb : x1.length ≤ 1000000) (hmu : mu_ = (x1.length - x2.toNat)) (hrec : ∀ (z0 : expr_Scope) (z1 : List api_ExprNode) (z2 : Int), 0 ≤ z2 → z1.length ≤ 1000000 → (rec_ z0 z1 z2).2.2 = 0 → z2 < (rec_ z0 z1 z2).2.1) (ihR : ∀ {z0 : expr_Scope} {z1 : List api_ExprNode} {z2 : Int} {c5 c4 : PV} (d6 : expr_Scope.t.R z0 c5) (d7 : (tSl api_ExprNode.t).R z1 c4) (h0 : 0 ≤ z2) (hb : z1.length ≤ 1000000), (z1.length - z2.toNat) < mu_ → FnR Tryz.prog 226 [c5, c4, vi z2] (.tup [vi ((rec_ z0 z1 z2).1), vi ((rec_ z0 z1 z2).2.1), vi ((rec_ z0 z1 z2).2.2)])) : FnR Tryz.prog 226 [v0, v1, vi x2] (.tup [vi ((m1_expr_Scope__check_B rec_ x0 x1 x2).1), vi ((m1_expr_Scope__check_B rec_ x0 x1 x2).2.1), vi ((m1_expr_Scope__check_B rec_ x0 x1 x2).2.2)]) := by
  refine fnS (R := RF226) text226 (fun _ h => h) rfl fun res hres => ?_
  unfold m1_expr_Scope__check_B at hres
  refine sR ?_
  refine rd_op (ov_box rfl (TR.cnt expr_Scope.t r0)) ?_
  refine mI rfl ?_
  refine mI rfl ?_
  refine mI rfl ?_
  refine nS ?_
  refine rc_seq ?_
  refine sR ?_
  refine mV rfl ?_
  refine mV rfl ?_
  refine rd_op (ov_bi rfl (sl_len r1 Tryz.underlying32 _)) ?_
  refine bN i_geq rfl rfl ?_
  refine nS ?_
  refine rc_br hres rfl ?_ ?_ <;> clear hres <;> intro a4 hres <;> have a8 := a4 <;> try simp only [qa, qaD] at a8
  · refine sR ?_
    refine mI rfl ?_
    refine mI rfl ?_
    refine mI rfl ?_
    refine nS ?_
    subst hres
    exact rc_retV (.tmp rfl (.tmp rfl (.tmp rfl .nil))) (deep_closed (show closed (.tup _) = true from (clL_cons rfl (clL_cons rfl (clL_cons rfl clL_nil))))) rfl
  · refine rc_skip ?_
    refine pn_seq ?_
    refine sR ?_
    refine mV rfl ?_
    refine mV rfl ?_
    obtain ⟨d3, c2, c0⟩ := sl_idx (i := x2) r1 (by omega) (by omega)
    refine rd_op (ov_iaddr rfl rfl c2) ?_
    refine fL rfl (api_ExprNode.g_Op c0) rfl rfl ?_
    obtain ⟨d5, a1, hres⟩ := let_ex hres
    have b3 := f267_ok (x0 := (ix x1 x2).Op)  
    rw [a1] at b3
    refine cL b3 rfl rfl (clL_cons rfl clL_nil) ?_
    refine mV rfl ?_
    refine nS ?_
    refine rc_seq ?_
    refine rc_block ?_
    refine sR ?_
    refine mV rfl ?_
    refine bN i_lss rfl rfl ?_
    refine mV rfl ?_
    refine nS ?_
    refine rc_br hres rfl ?_ ?_ <;> clear hres <;> intro a2 hres <;> have a9 := a2 <;> try simp only [qa, qaD] at a9
    · refine sR ?_
      refine mI rfl ?_
      refine mI rfl ?_
      refine mI rfl ?_
      refine nS ?_
      subst hres
      exact rc_retV (.tmp rfl (.tmp rfl (.tmp rfl .nil))) (deep_closed (show closed (.tup _) = true from (clL_cons rfl (clL_cons rfl (clL_cons rfl clL_nil))))) rfl
    · refine sR ?_
      refine mV rfl ?_
      refine bN i_eql rfl rfl ?_
      refine mV rfl ?_
      refine nS ?_
      refine rc_br hres rfl ?_ ?_ <;> clear hres <;> intro a3 hres <;> have a6 := a3 <;> try simp only [qa, qaD] at a6
      · refine sR ?_
        refine lD r0 rfl rfl rfl ?_
        refine mV rfl ?_
        refine mV rfl ?_
        obtain ⟨d2, c3, a7⟩ := sl_idx (i := x2) r1 (by omega) (by omega)
        refine rd_op (ov_iaddr rfl rfl c3) ?_
        refine lD a7 rfl rfl rfl ?_
        obtain ⟨c7, b4, hres⟩ := let_ex hres
        have b1 := f268_ok  r0 a7 
        rw [b4] at b1
        refine cL b1 rfl rfl (clL_cons (TR.clo expr_Scope.t r0) (clL_cons (TR.clo api_ExprNode.t a7) clL_nil)) ?_
        refine mV rfl ?_
        refine xT rfl rfl ?_
        refine xT rfl rfl ?_
        refine mV rfl ?_
        refine mV rfl ?_
        refine nR ?_
        refine mV rfl ?_
        refine mV rfl ?_
        refine bN i_add rfl rfl ?_
        refine mV rfl ?_
        refine mV rfl ?_
        refine mV rfl ?_
        refine mV rfl ?_
        refine nS ?_
        subst hres
        exact rc_retV (.tmp rfl (.tmp rfl (.tmp rfl .nil))) (deep_closed (show closed (.tup _) = true from (clL_cons rfl (clL_cons rfl (clL_cons rfl clL_nil))))) rfl
      · refine rc_skip ?_
        refine pn_blk ?_
        refine pn_seq ?_
        refine sR ?_
        refine rd_allocO (x := .agg [vi 0, vi 0, vi 0]) (Mem.nil ⟨0, []⟩) rfl rfl (fun d0 d4 d1 c1 => ?_)
        refine nR ?_
        refine mV rfl ?_
        refine bN i_add rfl rfl ?_
        refine mV rfl ?_
        refine nS ?_
        refine rc_seq ?_
        refine sR ?_
        refine mV rfl ?_
        refine mI rfl ?_
        refine nS ?_
        refine rc_block ?_
        refine wC (m1_expr_Scope__check_L1_ok r0 r1 h0 hb ihR hmu hrec a4 a1 a2 a3 ?_  (show (tAr 3 tI).R ([0, 0, 0] : List Int) (.agg [vi 0, vi 0, vi 0]) from ⟨rfl, [vi 0, vi 0, vi 0], [vi 0, vi 0, vi 0], ⟨rfl, ⟨rfl, ⟨rfl, trivial⟩⟩⟩, rfl, rfl⟩) rfl (by omega) (by (rw [wr_of (by omega) (by omega)]; omega)) (Mem.sub c1 (.cons_cons _ .slnil)) hres) rfl
        · intro b7 b0 b6 a0 c6 b9 hres
          refine px_blk ?_
          refine pn_seq ?_
          refine sR ?_
          refine mV rfl ?_
          refine mV rfl ?_
          obtain ⟨c9, b8, a5⟩ := sl_idx (i := x2) r1 (by omega) (by omega)
          refine rd_op (ov_iaddr rfl rfl b8) ?_
          refine lD a5 rfl rfl rfl ?_
          refine rd_op (ov_load0 (k := 0) b9 rfl rfl (TR.agg (tAr 3 tI) a0)) ?_
          obtain ⟨c8, b5, hres⟩ := let_ex hres
          have b2 := f269_ok  a5 a0 
          rw [b5] at b2
          refine cL b2 rfl rfl (clL_cons (TR.clo api_ExprNode.t a5) (clL_cons (TR.clo (tAr 3 tI) a0) clL_nil)) ?_
          refine mV rfl ?_
          refine xT rfl rfl ?_
          refine xT rfl rfl ?_
          refine mV rfl ?_
          refine mV rfl ?_
          refine nR ?_
          refine mV rfl ?_
          refine mV rfl ?_
          refine mV rfl ?_
          refine mV rfl ?_
          refine mV rfl ?_
          refine mV rfl ?_
          refine nS ?_
          subst hres
          exact rc_retV (.tmp rfl (.tmp rfl (.tmp rfl .nil))) (deep_closed (show closed (.tup _) = true from (clL_cons rfl (clL_cons rfl (clL_cons rfl clL_nil))))) rfl
theorem f226_okR : ∀ (n_ : Nat) {x0 : expr_Scope} {x1 : List api_ExprNode} {x2 : Int} {v0 v1 : PV} (r0 : expr_Scope.t.R x0 v0) (r1 : (tSl api_ExprNode.t).R x1 v1) (h0 : 0 ≤ x2) (hb : x1.length ≤ 1000000), (x1.length - x2.toNat) < n_ → FnR Tryz.prog 226 [v0, v1, vi x2] (.tup [vi ((m1_expr_Scope__check_R n_ x0 x1 x2).1), vi ((m1_expr_Scope__check_R n_ x0 x1 x2).2.1), vi ((m1_expr_Scope__check_R n_ x0 x1 x2).2.2)]) := by
  intro n_
  induction n_ with
  | zero => intros; rename_i hlt; exact absurd hlt (Nat.not_lt_zero _)
  | succ n_ ihn =>
    intro x0 x1 x2 v0 v1 r0 r1 h0 hb hlt
    have e_ : m1_expr_Scope__check_R (n_ + 1) x0 x1 x2 = m1_expr_Scope__check_B (m1_expr_Scope__check_R n_) x0 x1 x2 := by rw [m1_expr_Scope__check_R]
    rw [e_]
    exact f226_okB r0 r1 h0 hb rfl (check_next n_) (fun {z0} {z1} {z2} {zv0} {zv1} zr0 zr1 h0 hb hz => ihn zr0 zr1 h0 hb (by omega))
theorem f226_ok {x0 : expr_Scope} {x1 : List api_ExprNode} {x2 : Int} {v0 v1 : PV} (r0 : expr_Scope.t.R x0 v0) (r1 : (tSl api_ExprNode.t).R x1 v1) (h0 : 0 ≤ x2) (hb : x1.length ≤ 1000000) : FnR Tryz.prog 226 [v0, v1, vi x2] (.tup [vi ((m1_expr_Scope__check x0 x1 x2).1), vi ((m1_expr_Scope__check x0 x1 x2).2.1), vi ((m1_expr_Scope__check x0 x1 x2).2.2)]) := f226_okR _ r0 r1 h0 hb (Nat.lt_succ_self _)

def RF174 (res : Int × Int) (r : PV) : Prop := r = .tup [vi res.1, vi res.2]
theorem f174_ok {x0 : List api_ExprNode} {x1 : expr_Scope} {v0 v1 : PV} (r0 : (tSl api_ExprNode.t).R x0 v0) (r1 : expr_Scope.t.R x1 v1) : FnR Tryz.prog 174 [v0, v1] (.tup [vi ((expr_Check x0 x1).1), vi ((expr_Check x0 x1).2)]) := by
  refine fnS (R := RF174) text174 (fun _ h => h) rfl fun res hres => ?_
  unfold expr_Check at hres
  refine sR ?_
  refine rd_op (ov_box rfl (TR.cnt expr_Scope.t r1)) ?_
  refine mI rfl ?_
  refine mI rfl ?_
  refine nS ?_
  refine rc_seq ?_
  refine sR ?_
  refine mV rfl ?_
  refine rd_op (ov_bi rfl (sl_len r0 Tryz.underlying32 _)) ?_
  refine bN i_gtr rfl rfl ?_
  refine nS ?_
  refine rc_br hres rfl ?_ ?_ <;> clear hres <;> intro c hres <;> try simp only [qa, qaD] at c
  · refine sR ?_
    refine mI rfl ?_
    refine mI rfl ?_
    refine nS ?_
    exact rT hres rfl rfl rfl rfl rfl
  · refine rc_skip ?_
    refine pn_seq ?_
    refine sR ?_
    refine lD r1 rfl rfl rfl ?_
    refine mV rfl ?_
    obtain ⟨a2, a1, hres⟩ := let_ex hres
    have a0 := f226_ok (x2 := 0) r1 r0 (by first | assumption | omega | (rw [wr_of (by omega) (by omega)]; omega) | (have hk := rval rfl (And.right (And.left (by assumption))); omega) | (have hk := rval (by assumption) (by assumption); omega) | (have hk := rval (by assumption) (And.left (by assumption)); omega) | (have hk := rval (by assumption) (And.left (And.left (by assumption))); have hz := rslc (by assumption); omega) | (simp; done) | (simp only [List.length_append, List.length_nil, List.length_cons]; omega) | (have hk := (chk_ok (by assumption) (by assumption)).1; omega) | (simp only [List.length_cons, List.length_nil]; omega) | (simp only [List.length_append]; have hk := (chk_ok (by assumption) (by assumption)).1; omega) | (simp only [List.length_append, List.length_nil]; have hk := (chk_ok (by assumption) (by assumption)).1; omega)) (by first | assumption | omega | (rw [wr_of (by omega) (by omega)]; omega) | (have hk := rval rfl (And.right (And.left (by assumption))); omega) | (have hk := rval (by assumption) (by assumption); omega) | (have hk := rval (by assumption) (And.left (by assumption)); omega) | (have hk := rval (by assumption) (And.left (And.left (by assumption))); have hz := rslc (by assumption); omega) | (simp; done) | (simp only [List.length_append, List.length_nil, List.length_cons]; omega) | (have hk := (chk_ok (by assumption) (by assumption)).1; omega) | (simp only [List.length_cons, List.length_nil]; omega) | (simp only [List.length_append]; have hk := (chk_ok (by assumption) (by assumption)).1; omega) | (simp only [List.length_append, List.length_nil]; have hk := (chk_ok (by assumption) (by assumption)).1; omega))
    rw [a1] at a0
    refine cL a0 rfl rfl (clL_cons (TR.clo expr_Scope.t r1) (clL_cons (TR.clo (tSl api_ExprNode.t) r0) (clL_cons rfl clL_nil))) ?_
    refine mV rfl ?_
    refine xT rfl rfl ?_
    refine xT rfl rfl ?_
    refine xT rfl rfl ?_
    refine mV rfl ?_
    refine mV rfl ?_
    refine mV rfl ?_
    refine nS ?_
    refine rc_seq ?_
    refine rc_block ?_
    refine sR ?_
    refine mV rfl ?_
    refine bN i_neq rfl rfl ?_
    refine mV rfl ?_
    refine nS ?_
    refine rc_br hres rfl ?_ ?_ <;> clear hres <;> intro c hres <;> try simp only [qa, qaD] at c
    · refine sR ?_
      refine mV rfl ?_
      refine mI rfl ?_
      refine mV rfl ?_
      refine nS ?_
      exact rT hres rfl rfl rfl rfl rfl
    · refine sR ?_
      refine mV rfl ?_
      refine mV rfl ?_
      refine rd_op (ov_bi rfl (sl_len r0 Tryz.underlying32 _)) ?_
      refine bN i_lss rfl rfl ?_
      refine mV rfl ?_
      refine nS ?_
      refine rc_br hres rfl ?_ ?_ <;> clear hres <;> intro c hres <;> try simp only [qa, qaD] at c
      · refine sR ?_
        refine mI rfl ?_
        refine mI rfl ?_
        refine nS ?_
        exact rT hres rfl rfl rfl rfl rfl
      · refine rc_skip ?_
        refine pn_blk ?_
        refine pn_seq ?_
        refine sR ?_
        refine mV rfl ?_
        refine mV rfl ?_
        refine mI rfl ?_
        refine nS ?_
        exact rT hres rfl rfl rfl rfl rfl

def RF173 (res : Int) (r : PV) : Prop := r = vi res
theorem f173_ok {x0 : action_checker} {x1 : List api_ExprNode} {x2 : Int} {v0 v1 : PV} (r0 : action_checker.t.R x0 v0) (r1 : (tSl api_ExprNode.t).R x1 v1) : FnR Tryz.prog 173 [v0, v1, vi x2] (vi (m1_action_checker__value x0 x1 x2)) := by
  refine fnS (R := RF173) text173 (fun _ h => h) rfl fun res hres => ?_
  unfold m1_action_checker__value at hres
  refine sR ?_
  refine rd_op (ov_box rfl (TR.cnt action_checker.t r0)) ?_
  refine mI rfl ?_
  refine nR ?_
  refine mV rfl ?_
  obtain ⟨a7, a6, a1⟩ := action_checker.g_scope r0
  refine fA rfl a6 ?_
  refine lD a1 rfl rfl rfl ?_
  obtain ⟨a2, a3, hres⟩ := let_ex hres
  have a5 := f174_ok  r1 a1 
  rw [a3] at a5
  refine cL a5 rfl rfl (clL_cons (TR.clo (tSl api_ExprNode.t) r1) (clL_cons (TR.clo expr_Scope.t a1) clL_nil)) ?_
  refine mV rfl ?_
  refine xT rfl rfl ?_
  refine xT rfl rfl ?_
  refine mV rfl ?_
  refine mV rfl ?_
  refine nS ?_
  refine rc_seq ?_
  refine sR ?_
  refine mV rfl ?_
  refine bN i_eql rfl rfl ?_
  refine mV rfl ?_
  refine rd_cutn 4 (d := 22) (v := vb ((decide (a2.2 = 0)) && (!decide (a2.1 = x2)))) ?_ ?_
  · intro S Q r
    cases a4 : (decide (a2.2 = 0))
    · exact gN 3 rfl rfl rfl rfl rfl rfl
    · intro k
      have a0 := a4
      try simp only [qa, qaD] at a0
      refine rd_yes rfl rfl (ov_move rfl) ?_
      refine rd_yes rfl rfl (ov_move rfl) ?_
      refine rd_yes rfl rfl (ov_bin rfl rfl i_neq) ?_
      exact gK rfl rfl rfl rfl rfl k
  refine nS ?_
  refine rc_br hres rfl ?_ ?_ <;> clear hres <;> intro c hres <;> try simp only [qa, qaD] at c
  · refine sR ?_
    refine mI rfl ?_
    refine nS ?_
    exact rR hres rfl rfl rfl
  · refine rc_skip ?_
    refine pn_seq ?_
    refine sR ?_
    refine mV rfl ?_
    refine mV rfl ?_
    refine nS ?_
    exact rR hres rfl rfl rfl

def RF104 (res : Int) (r : PV) : Prop := r = vi res
theorem f104_ok {x0 : action_checker} {x1 : api_Statement} {v0 v1 : PV} (r0 : action_checker.t.R x0 v0) (r1 : api_Statement.t.R x1 v1) : FnR Tryz.prog 104 [v0, v1] (vi (m1_action_checker__statement x0 x1)) := by
  refine fnS (R := RF104) text104 (fun _ h => h) rfl fun res hres => ?_
  unfold m1_action_checker__statement at hres
  refine sR ?_
  refine rd_op (ov_box rfl (TR.cnt action_checker.t r0)) ?_
  refine rd_op (ov_box rfl (TR.cnt api_Statement.t r1)) ?_
  refine mI rfl ?_
  refine nR ?_
  obtain ⟨g8, e6, e9⟩ := action_checker.g_scope r0
  refine fA rfl e6 ?_
  refine gL (expr_Scope.g_Program e9) rfl rfl rfl fun b1 a3 => ?_
  refine rd_allocO (x := .agg [vs [], nilS, nilS, nilS, nilS, nilS, nilS, nilS, nilS]) (Mem.nil ⟨0, []⟩) rfl rfl (fun a9 a7 g7 e8 => ?_)
  refine rd_storeO (k := 0) (v := b1) e8 rfl rfl rfl (TR.cnt api_Program.t a3) (fun f0 a5 => ?_)
  replace a5 : Mem f0 [⟨.op a9 a7 0, 31, 9, [b1]⟩] := a5
  refine nR ?_
  refine rd_op (ov_load0 (k := 0) a5 rfl rfl (TR.agg api_Program.t a3)) ?_
  refine gL (api_Statement.g_Dst r1) rfl rfl rfl fun g0 c7 => ?_
  obtain ⟨a2, d1, hres⟩ := let_ex hres
  have c2 := f172_ok  a3 c7 
  rw [d1] at c2
  refine cL c2 rfl rfl (clL_cons (TR.clo api_Program.t a3) (clL_cons (TR.clo api_FieldRef.t c7) clL_nil)) ?_
  refine mV rfl ?_
  refine xT rfl rfl ?_
  refine xT rfl rfl ?_
  refine mV rfl ?_
  refine mV rfl ?_
  refine nR ?_
  refine fL rfl (api_Statement.g_Register r1) rfl rfl ?_
  refine bN i_geq rfl rfl ?_
  refine mV rfl ?_
  refine rd_cutn 7 (d := 31) (v := vb ((decide (0 ≤ x1.Register)) && (decide (x1.Register < (x0.scope.Program.Registers.length : Int))))) ?_ ?_
  · intro S Q r
    cases d2 : (decide (0 ≤ x1.Register))
    · exact gN 6 rfl rfl rfl rfl rfl rfl
    · intro k
      have b5 := d2
      try simp only [qa, qaD] at b5
      refine rd_yes rfl rfl (ov_faddr rfl (api_Statement.g_Register r1)) ?_
      refine rd_yes rfl rfl (ov_load rfl rfl rfl) ?_
      refine rd_yes rfl rfl (ov_faddrO rfl) ?_
      obtain ⟨f8, d8, d7⟩ := api_Program.g_Registers a3
      refine rd_yes rfl rfl (ov_loadf (k := 0) a5 rfl rfl d8) ?_
      refine rd_yes rfl rfl (ov_bi rfl (sl_len d7 Tryz.underlying24 _)) ?_
      refine rd_yes rfl rfl (ov_bin rfl rfl i_lss) ?_
      exact gK rfl rfl rfl rfl rfl k
  refine mV rfl ?_
  refine nS ?_
  refine rc_seq ?_
  refine sR ?_
  refine fL rfl (api_Statement.g_Kind r1) rfl rfl ?_
  refine nS ?_
  refine rc_block ?_
  refine sR ?_
  refine bN i_eql rfl rfl ?_
  refine mV rfl ?_
  refine nS ?_
  refine rc_br hres rfl ?_ ?_ <;> clear hres <;> intro c hres <;> try simp only [qa, qaD] at c
  · refine rc_seq ?_
    refine sR ?_
    refine mV rfl ?_
    refine rd_op (ov_not rfl) ?_
    refine nS ?_
    refine rc_br hres rfl ?_ ?_ <;> clear hres <;> intro c hres <;> try simp only [qa, qaD] at c
    · refine sR ?_
      refine mI rfl ?_
      refine nS ?_
      exact rR hres rfl rfl rfl
    · refine rc_skip ?_
      refine pn_seq ?_
      refine sR ?_
      refine lD r0 rfl rfl rfl ?_
      refine gL (api_Statement.g_Value r1) rfl rfl rfl fun g5 b9 => ?_
      refine mV rfl ?_
      obtain ⟨f6, d0, hres⟩ := let_ex hres
      have d4 := f173_ok (x2 := a2.1) r0 b9 
      rw [d0] at d4
      refine cL d4 rfl rfl (clL_cons (TR.clo action_checker.t r0) (clL_cons (TR.clo (tSl api_ExprNode.t) b9) (clL_cons rfl clL_nil))) ?_
      refine mV rfl ?_
      refine nS ?_
      exact rR hres rfl rfl rfl
  · refine rc_seq ?_
    refine sR ?_
    refine bN i_eql rfl rfl ?_
    refine mV rfl ?_
    refine nS ?_
    obtain ⟨d5, c4, hres⟩ := let_ex hres
    refine rc_join (F := fun b S Q => ∀ (a1 : Bool) (a8 : Heap) (a4 : Mem a8 [⟨.op a9 a7 0, 31, 9, [b1]⟩]), d5 a1 = res → RC Tryz.prog b S Q [(43, vb a1), (33, vi x1.Kind), (8, vb ((decide (0 ≤ x1.Register)) && (decide (x1.Register < (x0.scope.Program.Registers.length : Int))))), (7, vb a2.2), (6, vi a2.1), (5, .op a9 a7 0), (3, .fp v1), (2, .fp v0)] a8) ?_ ?_
    · intro a1 a8 a4 hres
      rw [← c4] at hres
      refine rc_br hres rfl ?_ ?_ <;> clear hres <;> intro c hres <;> try simp only [qa, qaD] at c
      · refine rc_seq ?_
        refine sR ?_
        refine fL rfl (api_Statement.g_Header r1) rfl rfl ?_
        refine bN i_lss rfl rfl ?_
        refine mV rfl ?_
        refine rd_cutn 7 (d := 56) (v := vb ((decide (x1.Header < 0)) || (decide ((x0.scope.Program.Headers.length : Int) ≤ x1.Header)))) ?_ ?_
        · intro S Q r
          cases b6 : (decide (x1.Header < 0))
          · intro k
            have b4 := b6
            try simp only [qa, qaD] at b4
            refine rd_yes rfl rfl (ov_faddr rfl (api_Statement.g_Header r1)) ?_
            refine rd_yes rfl rfl (ov_load rfl rfl rfl) ?_
            refine rd_yes rfl rfl (ov_faddrO rfl) ?_
            obtain ⟨f5, f1, e1⟩ := api_Program.g_Headers a3
            refine rd_yes rfl rfl (ov_loadf (k := 0) a4 rfl rfl f1) ?_
            refine rd_yes rfl rfl (ov_bi rfl (sl_len e1 Tryz.underlying22 _)) ?_
            refine rd_yes rfl rfl (ov_bin rfl rfl i_geq) ?_
            exact gK rfl rfl rfl rfl rfl k
          · exact gN 6 rfl rfl rfl rfl rfl rfl
        refine nS ?_
        refine rc_br hres rfl ?_ ?_ <;> clear hres <;> intro c hres <;> try simp only [qa, qaD] at c
        · refine sR ?_
          refine mI rfl ?_
          refine nS ?_
          exact rR hres rfl rfl rfl
        · refine rc_skip ?_
          refine pn_seq ?_
          refine sR ?_
          refine mI rfl ?_
          refine nS ?_
          exact rR hres rfl rfl rfl
      · refine rc_seq ?_
        refine sR ?_
        refine bN i_eql rfl rfl ?_
        refine mV rfl ?_
        refine nS ?_
        obtain ⟨e3, c1, hres⟩ := let_ex hres
        refine rc_join (F := fun b S Q => ∀ (a0 : Bool) (b0 : Heap) (a6 : Mem b0 [⟨.op a9 a7 0, 31, 9, [b1]⟩]), e3 a0 = res → RC Tryz.prog b S Q [(57, vb a0), (8, vb ((decide (0 ≤ x1.Register)) && (decide (x1.Register < (x0.scope.Program.Registers.length : Int))))), (7, vb a2.2), (6, vi a2.1), (5, .op a9 a7 0), (3, .fp v1), (2, .fp v0)] b0) ?_ ?_
        · intro a0 b0 a6 hres
          rw [← c1] at hres
          refine rc_br hres rfl ?_ ?_ <;> clear hres <;> intro c hres <;> try simp only [qa, qaD] at c
          · refine rc_seq ?_
            refine sR ?_
            refine mV rfl ?_
            refine rd_op (ov_not rfl) ?_
            refine mV rfl ?_
            refine rd_cutn 8 (d := 70) (v := vb ((!((decide (0 ≤ x1.Register)) && (decide (x1.Register < (x0.scope.Program.Registers.length : Int))))) || ((decide (x1.Kind = 4)) && (!a2.2)))) ?_ ?_
            · intro S Q r
              cases c8 : (!((decide (0 ≤ x1.Register)) && (decide (x1.Register < (x0.scope.Program.Registers.length : Int)))))
              · intro k
                have b3 := c8
                try simp only [qa, qaD] at b3
                refine rd_yes rfl rfl (ov_faddr rfl (api_Statement.g_Kind r1)) ?_
                refine rd_yes rfl rfl (ov_load rfl rfl rfl) ?_
                refine rd_yes rfl rfl (ov_bin rfl rfl i_eql) ?_
                refine rd_yes rfl rfl (ov_move rfl) ?_
                refine rd_cutn 3 (d := 69) (v := vb ((decide (x1.Kind = 4)) && (!a2.2))) ?_ ?_
                · intro S Q r
                  cases c3 : (decide (x1.Kind = 4))
                  · intro k
                    refine rd_skip rfl rfl ?_
                    refine rd_skip rfl rfl ?_
                    refine rd_yes (v := vb false) rfl rfl (ov_pick rfl rfl rfl rfl) ?_
                    exact wD k rfl
                  · intro k
                    have b2 := c3
                    try simp only [qa, qaD] at b2
                    refine rd_yes rfl rfl (ov_move rfl) ?_
                    refine rd_yes rfl rfl (ov_not rfl) ?_
                    refine rd_yes (v := vb (!a2.2)) rfl rfl (ov_pick rfl rfl rfl rfl) ?_
                    exact wD k rfl
                exact gK rfl rfl rfl rfl rfl k
              · exact gN 7 rfl rfl rfl rfl rfl rfl
            refine nS ?_
            refine rc_br hres rfl ?_ ?_ <;> clear hres <;> intro c hres <;> try simp only [qa, qaD] at c
            · refine sR ?_
              refine mI rfl ?_
              refine nS ?_
              exact rR hres rfl rfl rfl
            · refine rc_skip ?_
              refine pn_seq ?_
              refine rc_seq ?_
              refine sR ?_
              refine gL (api_Statement.g_Index r1) rfl rfl rfl fun g2 c6 => ?_
              refine gL (action_checker.g_scope r0) rfl rfl rfl fun g3 c5 => ?_
              obtain ⟨f7, b7, hres⟩ := let_ex hres
              have b8 := f174_ok  c6 c5 
              rw [b7] at b8
              refine cL b8 rfl rfl (clL_cons (TR.clo (tSl api_ExprNode.t) c6) (clL_cons (TR.clo expr_Scope.t c5) clL_nil)) ?_
              refine mV rfl ?_
              refine xT rfl rfl ?_
              refine xT rfl rfl ?_
              refine mV rfl ?_
              refine mV rfl ?_
              refine nR ?_
              refine mV rfl ?_
              refine bN i_neq rfl rfl ?_
              refine nS ?_
              refine rc_br hres rfl ?_ ?_ <;> clear hres <;> intro c hres <;> try simp only [qa, qaD] at c
              · refine sR ?_
                refine mV rfl ?_
                refine mV rfl ?_
                refine nS ?_
                exact rR hres rfl rfl rfl
              · refine rc_skip ?_
                refine pn_seq ?_
                refine rc_seq ?_
                refine sR ?_
                refine fL rfl (api_Statement.g_Kind r1) rfl rfl ?_
                refine bN i_eql rfl rfl ?_
                refine nS ?_
                refine rc_br hres rfl ?_ ?_ <;> clear hres <;> intro c hres <;> try simp only [qa, qaD] at c
                · refine sR ?_
                  refine lD r0 rfl rfl rfl ?_
                  refine gL (api_Statement.g_Value r1) rfl rfl rfl fun g1 d3 => ?_
                  refine rd_op (ov_faddrO rfl) ?_
                  obtain ⟨f4, d6, f2⟩ := api_Program.g_Registers a3
                  refine rd_op (ov_loadf (k := 0) a6 rfl rfl d6) ?_
                  refine fL rfl (api_Statement.g_Register r1) rfl rfl ?_
                  obtain ⟨g4, e0, e4⟩ := sl_idx (i := x1.Register) f2 (by omega) (by omega)
                  refine rd_op (ov_iaddr rfl rfl e0) ?_
                  refine fL rfl (api_Register.g_Width e4) rfl rfl ?_
                  obtain ⟨f9, c9, hres⟩ := let_ex hres
                  have c0 := f173_ok (x2 := (ix x0.scope.Program.Registers x1.Register).Width) r0 d3 
                  rw [c9] at c0
                  refine cL c0 rfl rfl (clL_cons (TR.clo action_checker.t r0) (clL_cons (TR.clo (tSl api_ExprNode.t) d3) (clL_cons rfl clL_nil))) ?_
                  refine mV rfl ?_
                  refine nS ?_
                  exact rR hres rfl rfl rfl
                · refine rc_skip ?_
                  refine pn_seq ?_
                  refine rc_seq ?_
                  refine sR ?_
                  refine mV rfl ?_
                  refine rd_op (ov_faddrO rfl) ?_
                  obtain ⟨f3, e2, e5⟩ := api_Program.g_Registers a3
                  refine rd_op (ov_loadf (k := 0) a6 rfl rfl e2) ?_
                  refine fL rfl (api_Statement.g_Register r1) rfl rfl ?_
                  obtain ⟨g6, d9, e7⟩ := sl_idx (i := x1.Register) e5 (by omega) (by omega)
                  refine rd_op (ov_iaddr rfl rfl d9) ?_
                  refine fL rfl (api_Register.g_Width e7) rfl rfl ?_
                  refine bN i_neq rfl rfl ?_
                  refine nS ?_
                  refine rc_br hres rfl ?_ ?_ <;> clear hres <;> intro c hres <;> try simp only [qa, qaD] at c
                  · refine sR ?_
                    refine mI rfl ?_
                    refine nS ?_
                    exact rR hres rfl rfl rfl
                  · refine rc_skip ?_
                    refine pn_seq ?_
                    refine sR ?_
                    refine mI rfl ?_
                    refine nS ?_
                    exact rR hres rfl rfl rfl
          · refine rc_skip ?_
            refine pn_blk ?_
            refine pn_seq ?_
            refine sR ?_
            refine mI rfl ?_
            refine nS ?_
            exact rR hres rfl rfl rfl
        · intro J
          refine rc_br hres rfl ?_ ?_ <;> clear hres <;> intro c hres <;> try simp only [qa, qaD] at c
          · refine rc_skip ?_
            refine pn_seq (wC (J _ _ (Mem.sub a4 (.cons_cons _ .slnil)) hres) rfl)
          · refine rc_region ?_
            refine bN i_eql rfl rfl ?_
            refine mV rfl ?_
            refine rd_nil ?_
            refine pn_seq (wC (J _ _ (Mem.sub a4 (.cons_cons _ .slnil)) hres) rfl)
    · intro J
      refine rc_br hres rfl ?_ ?_ <;> clear hres <;> intro c hres <;> try simp only [qa, qaD] at c
      · refine rc_skip ?_
        refine pn_seq (wC (J _ _ (Mem.sub a5 (.cons_cons _ .slnil)) hres) rfl)
      · refine rc_region ?_
        refine bN i_eql rfl rfl ?_
        refine mV rfl ?_
        refine rd_nil ?_
        refine pn_seq (wC (J _ _ (Mem.sub a5 (.cons_cons _ .slnil)) hres) rfl)

def RF35 (res : Int × Int) (r : PV) : Prop := r = .tup [vi res.1, vi res.2]
theorem action_Check_L1_ok {S : List Fr} {res : Int × Int} {x0 : api_Program} {x1 c4 : Int} {b1 a6 a2 a7 a4 a3 a0 a1 a5 c2 : PV} {b2 b3 : Nat} (c3 : ((decide (x1 < 0)) || (decide ((x0.Actions.length : Int) ≤ x1))) = false) (d2 : action_declaration (ix x0.Actions x1) = c4) (c0 : (!decide (c4 = 0)) = false) (b8 : (tSl api_Statement.t).R ((ix x0.Actions x1).Body) c2) (b5 : action_checker.t.R ({ scope := ({ Program := x0, Params := (ix x0.Actions x1).Params } : expr_Scope) } : action_checker) (.agg [vs x0.Name, a6, a2, a7, a4, a3, a0, a1, a5, b1])) {K0 : Unit → (Int × Int)}
    (d4 : ∀ {h : Heap} (M0 : Mem h [⟨.op b2 b3 0, 151, 10, [.agg [vs x0.Name, a6, a2, a7, a4, a3, a0, a1, a5, b1]]⟩]), K0 () = res → PX Tryz.prog 0 S (QR Tryz.prog [(4, none), (5, none)] (RF35 res)) [] h) :
    ∀ {m : Nat} {a8 : Int} (d1 : m = Int.toNat ((((ix x0.Actions x1).Body).length : Int) - a8)) (c5 : 0 ≤ a8) {h : Heap} (M0 : Mem h [⟨.op b2 b3 0, 151, 10, [.agg [vs x0.Name, a6, a2, a7, a4, a3, a0, a1, a5, b1]]⟩]), action_Check_L1 x0 x1 K0 m a8 = res → RC Tryz.prog (.loop ac35_L1) S (QR Tryz.prog [(4, none), (5, none)] (RF35 res)) [(37, vi a8), (36, vi (((ix x0.Actions x1).Body).length : Int)), (35, c2), (7, .op b2 b3 0)] h := by
  have b6 := c3
  try simp only [qa, qaD] at b6
  have b4 := c0
  try simp only [qa, qaD] at b4
  intro m
  induction m with
  | zero =>
    intro a8 d1 c5 h M0 hres
    rw [action_Check_L1] at hres
    refine rc_loop ?_
    refine sR ?_
    refine bN i_lss rfl rfl ?_
    refine nS ?_
    refine rc_seq ?_
    refine rc_cond rfl ?_ ?_ <;> intro c <;> try simp only [qa, qaD] at c
    · omega
    refine rc_exit ?_
    refine px_seq ?_
    refine px_again ?_
    exact wP (d4 (Mem.sub M0 (.cons_cons _ .slnil)) hres) rfl
  | succ m ih =>
    intro a8 d1 c5 h M0 hres
    rw [action_Check_L1] at hres
    refine rc_loop ?_
    refine sR ?_
    refine bN i_lss rfl rfl ?_
    refine nS ?_
    refine rc_seq ?_
    refine rc_cond rfl ?_ ?_ <;> intro c <;> try simp only [qa, qaD] at c
    rotate_left
    · omega
    refine rc_skip ?_
    refine pn_seq ?_
    refine rc_seq ?_
    refine rc_block ?_
    refine sR ?_
    refine mV rfl ?_
    obtain ⟨b7, d0, a9⟩ := sl_idx (i := a8) b8 (by omega) (by omega)
    refine rd_op (ov_iaddr rfl rfl d0) ?_
    refine lD a9 rfl rfl rfl ?_
    refine rd_allocO (x := .agg [vi 0, vi 0, vi 0, vi 0, vi 0, nilS, nilS]) M0 rfl rfl (fun c9 c8 d3 c7 => ?_)
    refine mV rfl ?_
    refine rd_storeO (k := 0) (v := b7) c7 rfl rfl rfl (TR.cnt api_Statement.t a9) (fun c6 b0 => ?_)
    replace b0 : Mem c6 [⟨.op c9 c8 0, 135, 7, [b7]⟩, ⟨.op b2 b3 0, 151, 10, [.agg [vs x0.Name, a6, a2, a7, a4, a3, a0, a1, a5, b1]]⟩] := b0
    refine nR ?_
    refine rd_op (ov_load0 (k := 1) b0 rfl rfl (TR.agg action_checker.t b5)) ?_
    refine rd_op (ov_load0 (k := 0) b0 rfl rfl (TR.agg api_Statement.t a9)) ?_
    obtain ⟨d5, b9, hres⟩ := let_ex hres
    have c1 := f104_ok  b5 a9 
    rw [b9] at c1
    refine cL c1 rfl rfl (clL_cons (TR.clo action_checker.t b5) (clL_cons (TR.clo api_Statement.t a9) clL_nil)) ?_
    refine mV rfl ?_
    refine nR ?_
    refine mV rfl ?_
    refine bN i_neq rfl rfl ?_
    refine nS ?_
    refine rc_br hres rfl ?_ ?_ <;> clear hres <;> intro c hres <;> try simp only [qa, qaD] at c
    · refine sR ?_
      refine mV rfl ?_
      refine mV rfl ?_
      refine mV rfl ?_
      refine mV rfl ?_
      refine nS ?_
      exact rT hres rfl rfl rfl rfl rfl
    · refine rc_skip ?_
      refine pn_blk ?_
      refine pn_seq ?_
      refine rc_region ?_
      refine bN i_add rfl rfl ?_
      refine mV rfl ?_
      refine rd_nil ?_
      refine pn_again ?_
      have hbd := sl_bound b8
      have hinc : wr (a8 + 1) = a8 + 1 := wr_of (by omega) (by omega)
      erw [hinc]
      exact wC (ih   (by omega) (by omega) (Mem.sub b0 (.cons _ (.cons_cons _ .slnil))) hres) rfl

theorem f35_ok {x0 : api_Program} {x1 : Int} {v0 : PV} (r0 : api_Program.t.R x0 v0) : FnR Tryz.prog 35 [v0, vi x1] (.tup [vi ((action_Check x0 x1).1), vi ((action_Check x0 x1).2)]) := by
  refine fnS (R := RF35) text35 (fun _ h => h) rfl fun res hres => ?_
  unfold action_Check at hres
  refine sR ?_
  refine rd_op (ov_box rfl (TR.cnt api_Program.t r0)) ?_
  refine mI rfl ?_
  refine mI rfl ?_
  refine nS ?_
  refine rc_seq ?_
  refine sR ?_
  refine mV rfl ?_
  refine bN i_lss rfl rfl ?_
  refine mV rfl ?_
  refine rd_cutn 6 (d := 18) (v := vb ((decide (x1 < 0)) || (decide ((x0.Actions.length : Int) ≤ x1)))) ?_ ?_
  · intro S Q r
    cases d3 : (decide (x1 < 0))
    · intro k
      have c4 := d3
      try simp only [qa, qaD] at c4
      refine rd_yes rfl rfl (ov_move rfl) ?_
      obtain ⟨f3, e5, c6⟩ := api_Program.g_Actions r0
      refine rd_yes rfl rfl (ov_faddr rfl e5) ?_
      refine rd_yes rfl rfl (ov_load rfl (TR.cnt (tSl api_Action.t) c6) (TR.agg (tSl api_Action.t) c6)) ?_
      refine rd_yes rfl rfl (ov_bi rfl (sl_len c6 Tryz.underlying25 _)) ?_
      refine rd_yes rfl rfl (ov_bin rfl rfl i_geq) ?_
      exact gK rfl rfl rfl rfl rfl k
    · exact gN 5 rfl rfl rfl rfl rfl rfl
  refine nS ?_
  refine rc_br hres rfl ?_ ?_ <;> clear hres <;> intro c2 hres <;> have c8 := c2 <;> try simp only [qa, qaD] at c8
  · refine sR ?_
    refine mI rfl ?_
    refine mI rfl ?_
    refine nS ?_
    exact rT hres rfl rfl rfl rfl rfl
  · refine rc_skip ?_
    refine pn_seq ?_
    refine sR ?_
    refine gL (api_Program.g_Actions r0) rfl rfl rfl fun f2 e4 => ?_
    refine mV rfl ?_
    obtain ⟨c7, d4, a9⟩ := sl_idx (i := x1) e4 (by omega) (by omega)
    refine rd_op (ov_iaddr rfl rfl d4) ?_
    refine lD a9 rfl rfl rfl ?_
    refine rd_allocO (x := .agg [vs [], nilS, nilS]) (Mem.nil ⟨0, []⟩) rfl rfl (fun d1 d0 e7 e2 => ?_)
    refine rd_storeO (k := 0) (v := c7) e2 rfl rfl rfl (TR.cnt api_Action.t a9) (fun e3 b0 => ?_)
    replace b0 : Mem e3 [⟨.op d1 d0 0, 97, 3, [c7]⟩] := b0
    refine nS ?_
    refine rc_seq ?_
    refine sR ?_
    refine rd_op (ov_load0 (k := 0) b0 rfl rfl (TR.agg api_Action.t a9)) ?_
    obtain ⟨f1, c0, hres⟩ := let_ex hres
    have d2 := f103_ok  a9 
    rw [c0] at d2
    refine cL d2 rfl rfl (clL_cons (TR.clo api_Action.t a9) clL_nil) ?_
    refine mV rfl ?_
    refine nR ?_
    refine mV rfl ?_
    refine bN i_neq rfl rfl ?_
    refine nS ?_
    refine rc_br hres rfl ?_ ?_ <;> clear hres <;> intro c1 hres <;> have c5 := c1 <;> try simp only [qa, qaD] at c5
    · refine sR ?_
      refine mV rfl ?_
      refine mI rfl ?_
      refine mV rfl ?_
      refine nS ?_
      exact rT hres rfl rfl rfl rfl rfl
    · refine rc_skip ?_
      refine pn_seq ?_
      refine sR ?_
      refine lD r0 rfl rfl rfl ?_
      refine rd_op (ov_faddrO rfl) ?_
      obtain ⟨a8, d9, c3⟩ := api_Action.g_Params a9
      refine rd_op (ov_loadf (k := 0) b0 rfl rfl d9) ?_
      obtain ⟨a6, a2, a7, a4, a3, a0, a1, a5, e1, b6, b1, b2, b7, b5, b9, b8, b3⟩ := r0
      subst e1
      refine rd_op (v := .agg [vs x0.Name, a6, a2, a7, a4, a3, a0, a1, a5, a8]) (ov_build (cs := [vs x0.Name, a6, a2, a7, a4, a3, a0, a1, a5, a8]) rfl (by simp only [buildV, cells_one (TR.cnt (tSl api_Field.t) c3) (TR.agg (tSl api_Field.t) c3)]; rfl)) ?_
      refine rd_op (v := .agg [vs x0.Name, a6, a2, a7, a4, a3, a0, a1, a5, a8]) (ov_build (cs := [vs x0.Name, a6, a2, a7, a4, a3, a0, a1, a5, a8]) rfl rfl) ?_
      refine rd_allocO (x := .agg [vs [], nilS, nilS, nilS, nilS, nilS, nilS, nilS, nilS, nilS]) b0 rfl rfl (fun d8 e6 f4 d7 => ?_)
      refine rd_storeO (k := 0) (v := .agg [vs x0.Name, a6, a2, a7, a4, a3, a0, a1, a5, a8]) d7 rfl rfl rfl rfl (fun d5 b4 => ?_)
      replace b4 : Mem d5 [⟨.op d8 e6 0, 151, 10, [.agg [vs x0.Name, a6, a2, a7, a4, a3, a0, a1, a5, a8]]⟩, ⟨.op d1 d0 0, 97, 3, [c7]⟩] := b4
      refine nS ?_
      refine rc_seq ?_
      refine sR ?_
      refine rd_op (ov_faddrO rfl) ?_
      obtain ⟨f0, d6, c9⟩ := api_Action.g_Body a9
      refine rd_op (ov_loadf (k := 1) b4 rfl rfl d6) ?_
      refine rd_op (ov_bi rfl (sl_len c9 Tryz.underlying95 _)) ?_
      refine mI rfl ?_
      refine nS ?_
      refine rc_block ?_
      have e0 : action_checker.t.R ({ scope := ({ Program := x0, Params := (ix x0.Actions x1).Params } : expr_Scope) } : action_checker) (.agg [vs x0.Name, a6, a2, a7, a4, a3, a0, a1, a5, a8]) := ⟨a6, a2, a7, a4, a3, a0, a1, a5, a8, rfl, b6, b1, b2, b7, b5, b9, b8, b3, c3⟩
      refine wC (action_Check_L1_ok c2 c0 c1 c9 e0 ?_  rfl (by omega) (Mem.sub b4 (.cons_cons _ (.cons _ .slnil))) hres) rfl
      · intro e9 e8 hres
        refine px_blk ?_
        refine pn_seq ?_
        refine sR ?_
        refine mI rfl ?_
        refine mI rfl ?_
        refine nS ?_
        exact rT hres rfl rfl rfl rfl rfl

def RF185 (res : (List Bool)) (r : PV) : Prop := (tSl tB).R res r
theorem env_join_bool_L1_ok {S : List Fr} {res : (List Bool)} {x0 : List (List Bool)} {v0 : PV} (r0 : (tSl (tSl tB)).R x0 v0) (hb : ∀ l ∈ x0, l.length ≤ 1048576) (hc : x0.length ≤ 1) {K0 : (List Bool) → (List Bool)}
    (c3 : ∀ {a1 : List Bool} {a0 : List PV} {a2 : PV} (a4 : All2 tB.R a1 a0) (a6 : isL a2 = true) (a3 : Wri a2 a0) (a5 : a1.length ≤ 4611686018427387904) {h : Heap} (M0 : Mem h [⟨a2, 4, 1, a0⟩]), K0 a1 = res → PX Tryz.prog 0 S (QR Tryz.prog [(2, none)] (RF185 res)) [(3, a2)] h) :
    ∀ {m : Nat} {a7 : Int} {a1 : List Bool} {a0 : List PV} {a2 : PV} (a4 : All2 tB.R a1 a0) (a6 : isL a2 = true) (a3 : Wri a2 a0) (a5 : a1.length ≤ 4611686018427387904) (c1 : m = Int.toNat ((x0.length : Int) - a7)) (b6 : 0 ≤ a7) (a9 : (a1.length : Int) ≤ 1048576 * a7) {h : Heap} (M0 : Mem h [⟨a2, 4, 1, a0⟩]), env_join_bool_L1 x0 K0 m a7 a1 = res → RC Tryz.prog (.loop ac185_L1) S (QR Tryz.prog [(2, none)] (RF185 res)) [(8, vi a7), (7, vi (x0.length : Int)), (6, v0), (3, a2)] h := by
  have hb' := hb
  try simp only [qa, qaD] at hb'
  have hc' := hc
  try simp only [qa, qaD] at hc'
  intro m
  induction m with
  | zero =>
    intro a7 a1 a0 a2 a4 a6 a3 a5 c1 b6 a9 h M0 hres
    rw [env_join_bool_L1] at hres
    refine rc_loop ?_
    refine sR ?_
    refine bN i_lss rfl rfl ?_
    refine nS ?_
    refine rc_seq ?_
    refine rc_cond rfl ?_ ?_ <;> intro c <;> try simp only [qa, qaD] at c
    · omega
    refine rc_exit ?_
    refine px_seq ?_
    refine px_again ?_
    exact wP (c3 a4 a6 a3 a5 (Mem.sub M0 (.cons_cons _ .slnil)) hres) rfl
  | succ m ih =>
    intro a7 a1 a0 a2 a4 a6 a3 a5 c1 b6 a9 h M0 hres
    rw [env_join_bool_L1] at hres
    refine rc_loop ?_
    refine sR ?_
    refine bN i_lss rfl rfl ?_
    refine nS ?_
    refine rc_seq ?_
    refine rc_cond rfl ?_ ?_ <;> intro c <;> try simp only [qa, qaD] at c
    rotate_left
    · omega
    refine rc_skip ?_
    refine pn_seq ?_
    refine rc_seq ?_
    refine rc_block ?_
    refine sR ?_
    obtain ⟨c5, b8, b5⟩ := sl_idx (i := a7) r0 (by omega) (by omega)
    refine rd_op (ov_iaddr rfl rfl b8) ?_
    refine lD b5 rfl rfl rfl ?_
    refine mV rfl ?_
    refine nS ?_
    refine rc_region ?_
    refine mV rfl ?_
    refine mV rfl ?_
    obtain ⟨a8, b2, b0⟩ := src_of (t := tB) (h := h) b5
    have b4 : fits (a0.length + a8.length) 1 = true := by rw [All2.length_eq a4, All2.length_eq b0]; (try simp only [List.length_cons, List.length_nil]); exact fits_of (by (have hk := jn_ix hb (i := a7) (by omega) (by omega); omega)) (by (have hk := jn_ix hb (i := a7) (by omega) (by omega); omega))
    refine rd_appW (k := 0) (es := a0) (news := a8) M0 rfl rfl rfl a6 a3 b2 b4 (fun c4 c2 c0 b3 b9 => ?_)
    have b1 : All2 tB.R (a1 ++ (ix x0 a7)) (a0 ++ a8) := All2.app a4 b0
    have b7 : (a1 ++ (ix x0 a7)).length ≤ 4611686018427387904 := by rw [← All2.length_eq b1, List.length_append]; exact fits_len b4
    refine mV rfl ?_
    refine rd_nil ?_
    refine pn_blk ?_
    refine pn_seq ?_
    refine rc_region ?_
    refine bN i_add rfl rfl ?_
    refine mV rfl ?_
    refine rd_nil ?_
    refine pn_again ?_
    have hbd := sl_bound r0
    have hinc : wr (a7 + 1) = a7 + 1 := wr_of (by omega) (by omega)
    erw [hinc]
    exact wC (ih  b1 c0 b3 b7 (by omega) (by omega) (by (have hk := jn_ix hb (i := a7) (by omega) (by omega); simp only [List.length_append]; omega)) (Mem.sub b9 (.cons_cons _ .slnil)) hres) rfl

theorem f185_ok {x0 : List (List Bool)} {v0 : PV} (r0 : (tSl (tSl tB)).R x0 v0) (hb : ∀ l ∈ x0, l.length ≤ 1048576) (hc : x0.length ≤ 1) : ∃ r, FnR Tryz.prog 185 [v0] r ∧ (tSl tB).R (env_join_bool x0) r := by
  refine fnT (R := RF185) text185 rfl fun res hres => ?_
  unfold env_join_bool at hres
  refine sR ?_
  refine rd_op (v := nilS) (ov_move rfl) ?_
  refine nR ?_
  refine rd_op (v := nilS) (ov_move rfl) ?_
  refine nS ?_
  refine rc_seq ?_
  refine sR ?_
  refine mV rfl ?_
  refine rd_op (ov_bi rfl (sl_len r0 Tryz.underlying213 _)) ?_
  refine mI rfl ?_
  refine nS ?_
  refine rc_block ?_
  have a9 := mem_acc (sz := 1) (es := []) (Mem.nil ⟨0, []⟩) 4 (.inl ⟨none, rfl, rfl⟩) (by simp)
  refine wC (env_join_bool_L1_ok r0 hb hc ?_  aL rfl (.inl rfl) (by first | decide | simp) rfl (by omega) (by simp) (Mem.sub a9 (.cons_cons _ .slnil)) hres) rfl
  · intro a5 a3 a6 a1 a2 a4 a0 b2 a8 hres
    refine px_blk ?_
    refine pn_seq ?_
    refine sR ?_
    refine mV rfl ?_
    refine mV rfl ?_
    refine nS ?_
    obtain ⟨b1, a7, b0⟩ := own_sl (P := Tryz.prog) (k := 0) (t := tB) a8 rfl a2 a1 (Nat.le_trans a0 (by decide))
    subst hres
    exact rc_retV (.tmp rfl .nil) a7 b0
def RF185x (R_ : List Ent) (res : (List Bool)) (r : PV) (h : Heap) : Prop := ∃ asR0_ : PV, ∃ esR0_ : List PV, Mem h (⟨asR0_, 4, 1, esR0_⟩ :: R_) ∧ (All2 tB.R res esR0_) ∧ (isL asR0_ = true) ∧ (res.length ≤ 4611686018427387904) ∧ (Wri asR0_ esR0_) ∧ r = asR0_
theorem env_join_bool_L1x_ok {S : List Fr} {res : (List Bool)} {x0 : List (List Bool)} {v0 : PV} {R_ : List Ent} (r0 : (tSl (tSl tB)).R x0 v0) (hb : ∀ l ∈ x0, l.length ≤ 1048576) (hc : x0.length ≤ 1) {K0 : (List Bool) → (List Bool)}
    (c3 : ∀ {a1 : List Bool} {a0 : List PV} {a2 : PV} (a4 : All2 tB.R a1 a0) (a6 : isL a2 = true) (a3 : Wri a2 a0) (a5 : a1.length ≤ 4611686018427387904) {h : Heap} (M0 : Mem h (⟨a2, 4, 1, a0⟩ :: R_)), K0 a1 = res → PX Tryz.prog 0 S (retPost Tryz.prog [(2, none)] (RF185x R_ res)) [(3, a2)] h) :
    ∀ {m : Nat} {a7 : Int} {a1 : List Bool} {a0 : List PV} {a2 : PV} (a4 : All2 tB.R a1 a0) (a6 : isL a2 = true) (a3 : Wri a2 a0) (a5 : a1.length ≤ 4611686018427387904) (c1 : m = Int.toNat ((x0.length : Int) - a7)) (b6 : 0 ≤ a7) (a9 : (a1.length : Int) ≤ 1048576 * a7) {h : Heap} (M0 : Mem h (⟨a2, 4, 1, a0⟩ :: R_)), env_join_bool_L1 x0 K0 m a7 a1 = res → RC Tryz.prog (.loop ac185_L1) S (retPost Tryz.prog [(2, none)] (RF185x R_ res)) [(8, vi a7), (7, vi (x0.length : Int)), (6, v0), (3, a2)] h := by
  have hb' := hb
  try simp only [qa, qaD] at hb'
  have hc' := hc
  try simp only [qa, qaD] at hc'
  intro m
  induction m with
  | zero =>
    intro a7 a1 a0 a2 a4 a6 a3 a5 c1 b6 a9 h M0 hres
    rw [env_join_bool_L1] at hres
    refine rc_loop ?_
    refine sR ?_
    refine bN i_lss rfl rfl ?_
    refine nS ?_
    refine rc_seq ?_
    refine rc_cond rfl ?_ ?_ <;> intro c <;> try simp only [qa, qaD] at c
    · omega
    refine rc_exit ?_
    refine px_seq ?_
    refine px_again ?_
    exact wP (c3 a4 a6 a3 a5 (Mem.sub M0 (.cons_cons _ (List.Sublist.refl R_))) hres) rfl
  | succ m ih =>
    intro a7 a1 a0 a2 a4 a6 a3 a5 c1 b6 a9 h M0 hres
    rw [env_join_bool_L1] at hres
    refine rc_loop ?_
    refine sR ?_
    refine bN i_lss rfl rfl ?_
    refine nS ?_
    refine rc_seq ?_
    refine rc_cond rfl ?_ ?_ <;> intro c <;> try simp only [qa, qaD] at c
    rotate_left
    · omega
    refine rc_skip ?_
    refine pn_seq ?_
    refine rc_seq ?_
    refine rc_block ?_
    refine sR ?_
    obtain ⟨c5, b8, b5⟩ := sl_idx (i := a7) r0 (by omega) (by omega)
    refine rd_op (ov_iaddr rfl rfl b8) ?_
    refine lD b5 rfl rfl rfl ?_
    refine mV rfl ?_
    refine nS ?_
    refine rc_region ?_
    refine mV rfl ?_
    refine mV rfl ?_
    obtain ⟨a8, b2, b0⟩ := src_of (t := tB) (h := h) b5
    have b4 : fits (a0.length + a8.length) 1 = true := by rw [All2.length_eq a4, All2.length_eq b0]; (try simp only [List.length_cons, List.length_nil]); exact fits_of (by (have hk := jn_ix hb (i := a7) (by omega) (by omega); omega)) (by (have hk := jn_ix hb (i := a7) (by omega) (by omega); omega))
    refine rd_appW (k := 0) (es := a0) (news := a8) M0 rfl rfl rfl a6 a3 b2 b4 (fun c4 c2 c0 b3 b9 => ?_)
    have b1 : All2 tB.R (a1 ++ (ix x0 a7)) (a0 ++ a8) := All2.app a4 b0
    have b7 : (a1 ++ (ix x0 a7)).length ≤ 4611686018427387904 := by rw [← All2.length_eq b1, List.length_append]; exact fits_len b4
    refine mV rfl ?_
    refine rd_nil ?_
    refine pn_blk ?_
    refine pn_seq ?_
    refine rc_region ?_
    refine bN i_add rfl rfl ?_
    refine mV rfl ?_
    refine rd_nil ?_
    refine pn_again ?_
    have hbd := sl_bound r0
    have hinc : wr (a7 + 1) = a7 + 1 := wr_of (by omega) (by omega)
    erw [hinc]
    exact wC (ih  b1 c0 b3 b7 (by omega) (by omega) (by (have hk := jn_ix hb (i := a7) (by omega) (by omega); simp only [List.length_append]; omega)) (Mem.sub b9 (.cons_cons _ (List.Sublist.refl R_))) hres) rfl

theorem f185x_ok {x0 : List (List Bool)} {v0 : PV} {R_ : List Ent} {h_ : Heap} (r0 : (tSl (tSl tB)).R x0 v0) (M_ : Mem h_ (R_)) (hb : ∀ l ∈ x0, l.length ≤ 1048576) (hc : x0.length ≤ 1) : ∃ r b1, FnX Tryz.prog 185 [v0] h_ r b1 ∧ RF185x R_ (env_join_bool x0) r b1 := by
  obtain ⟨res, hres⟩ : ∃ res, env_join_bool x0 = res := ⟨_, rfl⟩
  suffices H : RC Tryz.prog ac185 [] (retPost Tryz.prog [(2, none)] (RF185x R_ res)) (argE 0 [v0]) h_ by
    rw [hres]
    exact fnX text185 (by simp) H
  unfold env_join_bool at hres
  refine sR ?_
  refine rd_op (v := nilS) (ov_move rfl) ?_
  refine nR ?_
  refine rd_op (v := nilS) (ov_move rfl) ?_
  refine nS ?_
  refine rc_seq ?_
  refine sR ?_
  refine mV rfl ?_
  refine rd_op (ov_bi rfl (sl_len r0 Tryz.underlying213 _)) ?_
  refine mI rfl ?_
  refine nS ?_
  refine rc_block ?_
  have b0 := mem_acc (sz := 1) (es := []) M_ 4 (.inl ⟨none, rfl, rfl⟩) (by simp)
  refine wC (env_join_bool_L1x_ok r0 hb hc ?_  aL rfl (.inl rfl) (by first | decide | simp) rfl (by omega) (by simp) (Mem.sub b0 (.cons_cons _ (List.Sublist.refl R_))) hres) rfl
  · intro a6 a0 a1 a4 a5 a3 a2 a8 a9 hres
    refine px_blk ?_
    refine pn_seq ?_
    refine sR ?_
    refine mV rfl ?_
    refine mV rfl ?_
    refine nS ?_
    have a7 : Mem a8 (⟨a1, 4, 1, a0⟩ :: R_) := (Mem.front (k := 0) a9 rfl)
    subst hres
    exact rc_retX (.tmp rfl .nil) ⟨a1, a0, Mem.sub a7 (.cons_cons _ (List.Sublist.refl R_)), a4, a5, a2, a3, rfl⟩

def RF186 (res : (List (BitVec 32))) (r : PV) : Prop := (tSl tU32).R res r
theorem env_join_uint32_L1_ok {S : List Fr} {res : (List (BitVec 32))} {x0 : List (List (BitVec 32))} {v0 : PV} (r0 : (tSl (tSl tU32)).R x0 v0) (hb : ∀ l ∈ x0, l.length ≤ 1048576) (hc : x0.length ≤ 1) {K0 : (List (BitVec 32)) → (List (BitVec 32))}
    (c3 : ∀ {a1 : List (BitVec 32)} {a0 : List PV} {a2 : PV} (a4 : All2 tU32.R a1 a0) (a6 : isL a2 = true) (a3 : Wri a2 a0) (a5 : a1.length ≤ 4611686018427387904) {h : Heap} (M0 : Mem h [⟨a2, 89, 1, a0⟩]), K0 a1 = res → PX Tryz.prog 0 S (QR Tryz.prog [(2, none)] (RF186 res)) [(3, a2)] h) :
    ∀ {m : Nat} {a7 : Int} {a1 : List (BitVec 32)} {a0 : List PV} {a2 : PV} (a4 : All2 tU32.R a1 a0) (a6 : isL a2 = true) (a3 : Wri a2 a0) (a5 : a1.length ≤ 4611686018427387904) (c1 : m = Int.toNat ((x0.length : Int) - a7)) (b6 : 0 ≤ a7) (a9 : (a1.length : Int) ≤ 1048576 * a7) {h : Heap} (M0 : Mem h [⟨a2, 89, 1, a0⟩]), env_join_uint32_L1 x0 K0 m a7 a1 = res → RC Tryz.prog (.loop ac186_L1) S (QR Tryz.prog [(2, none)] (RF186 res)) [(8, vi a7), (7, vi (x0.length : Int)), (6, v0), (3, a2)] h := by
  have hb' := hb
  try simp only [qa, qaD] at hb'
  have hc' := hc
  try simp only [qa, qaD] at hc'
  intro m
  induction m with
  | zero =>
    intro a7 a1 a0 a2 a4 a6 a3 a5 c1 b6 a9 h M0 hres
    rw [env_join_uint32_L1] at hres
    refine rc_loop ?_
    refine sR ?_
    refine bN i_lss rfl rfl ?_
    refine nS ?_
    refine rc_seq ?_
    refine rc_cond rfl ?_ ?_ <;> intro c <;> try simp only [qa, qaD] at c
    · omega
    refine rc_exit ?_
    refine px_seq ?_
    refine px_again ?_
    exact wP (c3 a4 a6 a3 a5 (Mem.sub M0 (.cons_cons _ .slnil)) hres) rfl
  | succ m ih =>
    intro a7 a1 a0 a2 a4 a6 a3 a5 c1 b6 a9 h M0 hres
    rw [env_join_uint32_L1] at hres
    refine rc_loop ?_
    refine sR ?_
    refine bN i_lss rfl rfl ?_
    refine nS ?_
    refine rc_seq ?_
    refine rc_cond rfl ?_ ?_ <;> intro c <;> try simp only [qa, qaD] at c
    rotate_left
    · omega
    refine rc_skip ?_
    refine pn_seq ?_
    refine rc_seq ?_
    refine rc_block ?_
    refine sR ?_
    obtain ⟨c5, b8, b5⟩ := sl_idx (i := a7) r0 (by omega) (by omega)
    refine rd_op (ov_iaddr rfl rfl b8) ?_
    refine lD b5 rfl rfl rfl ?_
    refine mV rfl ?_
    refine nS ?_
    refine rc_region ?_
    refine mV rfl ?_
    refine mV rfl ?_
    obtain ⟨a8, b2, b0⟩ := src_of (t := tU32) (h := h) b5
    have b4 : fits (a0.length + a8.length) 4 = true := by rw [All2.length_eq a4, All2.length_eq b0]; (try simp only [List.length_cons, List.length_nil]); exact fits_of (by (have hk := jn_ix hb (i := a7) (by omega) (by omega); omega)) (by (have hk := jn_ix hb (i := a7) (by omega) (by omega); omega))
    refine rd_appW (k := 0) (es := a0) (news := a8) M0 rfl rfl rfl a6 a3 b2 b4 (fun c4 c2 c0 b3 b9 => ?_)
    have b1 : All2 tU32.R (a1 ++ (ix x0 a7)) (a0 ++ a8) := All2.app a4 b0
    have b7 : (a1 ++ (ix x0 a7)).length ≤ 4611686018427387904 := by rw [← All2.length_eq b1, List.length_append]; exact fits_len b4
    refine mV rfl ?_
    refine rd_nil ?_
    refine pn_blk ?_
    refine pn_seq ?_
    refine rc_region ?_
    refine bN i_add rfl rfl ?_
    refine mV rfl ?_
    refine rd_nil ?_
    refine pn_again ?_
    have hbd := sl_bound r0
    have hinc : wr (a7 + 1) = a7 + 1 := wr_of (by omega) (by omega)
    erw [hinc]
    exact wC (ih  b1 c0 b3 b7 (by omega) (by omega) (by (have hk := jn_ix hb (i := a7) (by omega) (by omega); simp only [List.length_append]; omega)) (Mem.sub b9 (.cons_cons _ .slnil)) hres) rfl

theorem f186_ok {x0 : List (List (BitVec 32))} {v0 : PV} (r0 : (tSl (tSl tU32)).R x0 v0) (hb : ∀ l ∈ x0, l.length ≤ 1048576) (hc : x0.length ≤ 1) : ∃ r, FnR Tryz.prog 186 [v0] r ∧ (tSl tU32).R (env_join_uint32 x0) r := by
  refine fnT (R := RF186) text186 rfl fun res hres => ?_
  unfold env_join_uint32 at hres
  refine sR ?_
  refine rd_op (v := nilS) (ov_move rfl) ?_
  refine nR ?_
  refine rd_op (v := nilS) (ov_move rfl) ?_
  refine nS ?_
  refine rc_seq ?_
  refine sR ?_
  refine mV rfl ?_
  refine rd_op (ov_bi rfl (sl_len r0 Tryz.underlying42 _)) ?_
  refine mI rfl ?_
  refine nS ?_
  refine rc_block ?_
  have a9 := mem_acc (sz := 1) (es := []) (Mem.nil ⟨0, []⟩) 89 (.inl ⟨none, rfl, rfl⟩) (by simp)
  refine wC (env_join_uint32_L1_ok r0 hb hc ?_  aL rfl (.inl rfl) (by first | decide | simp) rfl (by omega) (by simp) (Mem.sub a9 (.cons_cons _ .slnil)) hres) rfl
  · intro a5 a3 a6 a1 a2 a4 a0 b2 a8 hres
    refine px_blk ?_
    refine pn_seq ?_
    refine sR ?_
    refine mV rfl ?_
    refine mV rfl ?_
    refine nS ?_
    obtain ⟨b1, a7, b0⟩ := own_sl (P := Tryz.prog) (k := 0) (t := tU32) a8 rfl a2 a1 (Nat.le_trans a0 (by decide))
    subst hres
    exact rc_retV (.tmp rfl .nil) a7 b0
def RF186x (R_ : List Ent) (res : (List (BitVec 32))) (r : PV) (h : Heap) : Prop := ∃ asR0_ : PV, ∃ esR0_ : List PV, Mem h (⟨asR0_, 89, 1, esR0_⟩ :: R_) ∧ (All2 tU32.R res esR0_) ∧ (isL asR0_ = true) ∧ (res.length ≤ 4611686018427387904) ∧ (Wri asR0_ esR0_) ∧ r = asR0_
theorem env_join_uint32_L1x_ok {S : List Fr} {res : (List (BitVec 32))} {x0 : List (List (BitVec 32))} {v0 : PV} {R_ : List Ent} (r0 : (tSl (tSl tU32)).R x0 v0) (hb : ∀ l ∈ x0, l.length ≤ 1048576) (hc : x0.length ≤ 1) {K0 : (List (BitVec 32)) → (List (BitVec 32))}
    (c3 : ∀ {a1 : List (BitVec 32)} {a0 : List PV} {a2 : PV} (a4 : All2 tU32.R a1 a0) (a6 : isL a2 = true) (a3 : Wri a2 a0) (a5 : a1.length ≤ 4611686018427387904) {h : Heap} (M0 : Mem h (⟨a2, 89, 1, a0⟩ :: R_)), K0 a1 = res → PX Tryz.prog 0 S (retPost Tryz.prog [(2, none)] (RF186x R_ res)) [(3, a2)] h) :
    ∀ {m : Nat} {a7 : Int} {a1 : List (BitVec 32)} {a0 : List PV} {a2 : PV} (a4 : All2 tU32.R a1 a0) (a6 : isL a2 = true) (a3 : Wri a2 a0) (a5 : a1.length ≤ 4611686018427387904) (c1 : m = Int.toNat ((x0.length : Int) - a7)) (b6 : 0 ≤ a7) (a9 : (a1.length : Int) ≤ 1048576 * a7) {h : Heap} (M0 : Mem h (⟨a2, 89, 1, a0⟩ :: R_)), env_join_uint32_L1 x0 K0 m a7 a1 = res → RC Tryz.prog (.loop ac186_L1) S (retPost Tryz.prog [(2, none)] (RF186x R_ res)) [(8, vi a7), (7, vi (x0.length : Int)), (6, v0), (3, a2)] h := by
  have hb' := hb
  try simp only [qa, qaD] at hb'
  have hc' := hc
  try simp only [qa, qaD] at hc'
  intro m
  induction m with
  | zero =>
    intro a7 a1 a0 a2 a4 a6 a3 a5 c1 b6 a9 h M0 hres
    rw [env_join_uint32_L1] at hres
    refine rc_loop ?_
    refine sR ?_
    refine bN i_lss rfl rfl ?_
    refine nS ?_
    refine rc_seq ?_
    refine rc_cond rfl ?_ ?_ <;> intro c <;> try simp only [qa, qaD] at c
    · omega
    refine rc_exit ?_
    refine px_seq ?_
    refine px_again ?_
    exact wP (c3 a4 a6 a3 a5 (Mem.sub M0 (.cons_cons _ (List.Sublist.refl R_))) hres) rfl
  | succ m ih =>
    intro a7 a1 a0 a2 a4 a6 a3 a5 c1 b6 a9 h M0 hres
    rw [env_join_uint32_L1] at hres
    refine rc_loop ?_
    refine sR ?_
    refine bN i_lss rfl rfl ?_
    refine nS ?_
    refine rc_seq ?_
    refine rc_cond rfl ?_ ?_ <;> intro c <;> try simp only [qa, qaD] at c
    rotate_left
    · omega
    refine rc_skip ?_
    refine pn_seq ?_
    refine rc_seq ?_
    refine rc_block ?_
    refine sR ?_
    obtain ⟨c5, b8, b5⟩ := sl_idx (i := a7) r0 (by omega) (by omega)
    refine rd_op (ov_iaddr rfl rfl b8) ?_
    refine lD b5 rfl rfl rfl ?_
    refine mV rfl ?_
    refine nS ?_
    refine rc_region ?_
    refine mV rfl ?_
    refine mV rfl ?_
    obtain ⟨a8, b2, b0⟩ := src_of (t := tU32) (h := h) b5
    have b4 : fits (a0.length + a8.length) 4 = true := by rw [All2.length_eq a4, All2.length_eq b0]; (try simp only [List.length_cons, List.length_nil]); exact fits_of (by (have hk := jn_ix hb (i := a7) (by omega) (by omega); omega)) (by (have hk := jn_ix hb (i := a7) (by omega) (by omega); omega))
    refine rd_appW (k := 0) (es := a0) (news := a8) M0 rfl rfl rfl a6 a3 b2 b4 (fun c4 c2 c0 b3 b9 => ?_)
    have b1 : All2 tU32.R (a1 ++ (ix x0 a7)) (a0 ++ a8) := All2.app a4 b0
    have b7 : (a1 ++ (ix x0 a7)).length ≤ 4611686018427387904 := by rw [← All2.length_eq b1, List.length_append]; exact fits_len b4
    refine mV rfl ?_
    refine rd_nil ?_
    refine pn_blk ?_
    refine pn_seq ?_
    refine rc_region ?_
    refine bN i_add rfl rfl ?_
    refine mV rfl ?_
    refine rd_nil ?_
    refine pn_again ?_
    have hbd := sl_bound r0
    have hinc : wr (a7 + 1) = a7 + 1 := wr_of (by omega) (by omega)
    erw [hinc]
    exact wC (ih  b1 c0 b3 b7 (by omega) (by omega) (by (have hk := jn_ix hb (i := a7) (by omega) (by omega); simp only [List.length_append]; omega)) (Mem.sub b9 (.cons_cons _ (List.Sublist.refl R_))) hres) rfl

theorem f186x_ok {x0 : List (List (BitVec 32))} {v0 : PV} {R_ : List Ent} {h_ : Heap} (r0 : (tSl (tSl tU32)).R x0 v0) (M_ : Mem h_ (R_)) (hb : ∀ l ∈ x0, l.length ≤ 1048576) (hc : x0.length ≤ 1) : ∃ r b1, FnX Tryz.prog 186 [v0] h_ r b1 ∧ RF186x R_ (env_join_uint32 x0) r b1 := by
  obtain ⟨res, hres⟩ : ∃ res, env_join_uint32 x0 = res := ⟨_, rfl⟩
  suffices H : RC Tryz.prog ac186 [] (retPost Tryz.prog [(2, none)] (RF186x R_ res)) (argE 0 [v0]) h_ by
    rw [hres]
    exact fnX text186 (by simp) H
  unfold env_join_uint32 at hres
  refine sR ?_
  refine rd_op (v := nilS) (ov_move rfl) ?_
  refine nR ?_
  refine rd_op (v := nilS) (ov_move rfl) ?_
  refine nS ?_
  refine rc_seq ?_
  refine sR ?_
  refine mV rfl ?_
  refine rd_op (ov_bi rfl (sl_len r0 Tryz.underlying42 _)) ?_
  refine mI rfl ?_
  refine nS ?_
  refine rc_block ?_
  have b0 := mem_acc (sz := 1) (es := []) M_ 89 (.inl ⟨none, rfl, rfl⟩) (by simp)
  refine wC (env_join_uint32_L1x_ok r0 hb hc ?_  aL rfl (.inl rfl) (by first | decide | simp) rfl (by omega) (by simp) (Mem.sub b0 (.cons_cons _ (List.Sublist.refl R_))) hres) rfl
  · intro a6 a0 a1 a4 a5 a3 a2 a8 a9 hres
    refine px_blk ?_
    refine pn_seq ?_
    refine sR ?_
    refine mV rfl ?_
    refine mV rfl ?_
    refine nS ?_
    have a7 : Mem a8 (⟨a1, 89, 1, a0⟩ :: R_) := (Mem.front (k := 0) a9 rfl)
    subst hres
    exact rc_retX (.tmp rfl .nil) ⟨a1, a0, Mem.sub a7 (.cons_cons _ (List.Sublist.refl R_)), a4, a5, a2, a3, rfl⟩

end Go.Proofs.YtmonnlkagniolaaGreat
