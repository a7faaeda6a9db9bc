/-
  The code of each function does what its plain program says.
-/
import Derived.Test.YtmonnlkagniolaaGreatL10W4
set_option linter.unusedVariables false
set_option linter.unusedSimpArgs false
set_option maxRecDepth 100000
namespace Go.Proofs.YtmonnlkagniolaaGreat
open Go Go.Pb Go.RowKit
def RF295 (res : (BitVec 32)) (r : PV) : Prop := r = vu32 res
theorem f295_ok {x0 : BitVec 32} {x1 : Int} : FnR Tryz.prog 295 [vu32 x0, vi x1] (vu32 (bitvec_Not x0 x1)) := by
  refine fnS (R := RF295) text295 (fun _ h => h) rfl fun res hres => ?_
  unfold bitvec_Not at hres
  refine sR ?_
  refine rd_op (v := vu32 0#32) (ov_move rfl) ?_
  refine nR ?_
  refine mV rfl ?_
  refine rd_op (ov_un (a := vu32 x0) rfl w_not) ?_
  refine mV rfl ?_
  obtain ⟨a2, a1, hres⟩ := let_ex hres
  have a0 := f182_ok (x0 := x1)  
  rw [a1] at a0
  refine cL a0 rfl rfl (clL_cons rfl clL_nil) ?_
  refine rd_op (ov_bin (a := vu32 (~~~x0)) (b := vu32 a2) rfl rfl w_and) ?_
  refine mV rfl ?_
  refine nS ?_
  exact rR hres rfl rfl rfl

def RF296 (res : (BitVec 32)) (r : PV) : Prop := r = vu32 res
theorem f296_ok {x0 : BitVec 32} {x1 x2 : Int} : FnR Tryz.prog 296 [vu32 x0, vi x1, vi x2] (vu32 (bitvec_Shl x0 x1 x2)) := by
  refine fnS (R := RF296) text296 (fun _ h => h) rfl fun res hres => ?_
  unfold bitvec_Shl at hres
  refine sR ?_
  refine rd_op (v := vu32 0#32) (ov_move rfl) ?_
  refine nR ?_
  refine mV rfl ?_
  refine mV rfl ?_
  refine rd_op (ov_bi rfl (max_int _ _)) ?_
  refine rd_op (ov_bin (a := vu32 x0) (b := vi (max x1 0)) rfl rfl (w_shl (by first | omega | exact mask_sh (by assumption) (by assumption) | (rw [wr_of (by omega) (by omega)]; omega) | (have hk := two_sh (by assumption) (And.left (by assumption)); omega)))) ?_
  refine mV rfl ?_
  obtain ⟨a2, a1, hres⟩ := let_ex hres
  have a0 := f182_ok (x0 := x2)  
  rw [a1] at a0
  refine cL a0 rfl rfl (clL_cons rfl clL_nil) ?_
  refine rd_op (ov_bin (a := vu32 (x0 <<< (max x1 0).toNat)) (b := vu32 a2) rfl rfl w_and) ?_
  refine mV rfl ?_
  refine nS ?_
  exact rR hres rfl rfl rfl

def RF297 (res : (BitVec 32)) (r : PV) : Prop := r = vu32 res
theorem f297_ok {x0 : BitVec 32} {x1 x2 : Int} : FnR Tryz.prog 297 [vu32 x0, vi x1, vi x2] (vu32 (bitvec_Shr x0 x1 x2)) := by
  refine fnS (R := RF297) text297 (fun _ h => h) rfl fun res hres => ?_
  unfold bitvec_Shr at hres
  refine sR ?_
  refine rd_op (v := vu32 0#32) (ov_move rfl) ?_
  refine nR ?_
  refine mV rfl ?_
  refine mV rfl ?_
  obtain ⟨a2, a1, hres⟩ := let_ex hres
  have a0 := f182_ok (x0 := x2)  
  rw [a1] at a0
  refine cL a0 rfl rfl (clL_cons rfl clL_nil) ?_
  refine rd_op (ov_bin (a := vu32 x0) (b := vu32 a2) rfl rfl w_and) ?_
  refine mV rfl ?_
  refine rd_op (ov_bi rfl (max_int _ _)) ?_
  refine rd_op (ov_bin (a := vu32 (x0 &&& a2)) (b := vi (max x1 0)) rfl rfl (w_shr (by first | omega | exact mask_sh (by assumption) (by assumption) | (rw [wr_of (by omega) (by omega)]; omega) | (have hk := two_sh (by assumption) (And.left (by assumption)); omega)))) ?_
  refine mV rfl ?_
  refine nS ?_
  exact rR hres rfl rfl rfl

def RF298 (res : (BitVec 32)) (r : PV) : Prop := r = vu32 res
theorem f298_ok {x0 : BitVec 32} {x1 x2 : Int} : FnR Tryz.prog 298 [vu32 x0, vi x1, vi x2] (vu32 (bitvec_Slice x0 x1 x2)) := by
  refine fnS (R := RF298) text298 (fun _ h => h) rfl fun res hres => ?_
  unfold bitvec_Slice at hres
  refine sR ?_
  refine rd_op (v := vu32 0#32) (ov_move rfl) ?_
  refine nS ?_
  refine rc_seq ?_
  refine sR ?_
  refine mV rfl ?_
  refine rd_op (v := .fs true [vi x2]) (ov_bslice rfl (all_cons rfl all_nil)) ?_
  have a8 : (tSl tI).R ([x2] : List Int) (.fs true [vi x2]) := sl_fs ⟨rfl, trivial⟩ (by simp)
  obtain ⟨a0, a4, hres⟩ := let_ex hres
  have a7 := f181_ok  a8 
  rw [a4] at a7
  refine cL a7 rfl rfl (clL_cons (TR.clo (tSl tI) a8) clL_nil) ?_
  refine rd_op (ov_not rfl) ?_
  refine mV rfl ?_
  refine rd_cutn 3 (d := 14) (v := vb ((!a0) || (decide (x1 < 0)))) ?_ ?_
  · intro S Q r
    cases a9 : (!a0)
    · intro k
      have a1 := a9
      try simp only [qa, qaD] at a1
      refine rd_yes rfl rfl (ov_move rfl) ?_
      refine rd_yes rfl rfl (ov_bin rfl rfl i_lss) ?_
      exact gK rfl rfl rfl rfl rfl k
    · exact gN 2 rfl rfl rfl rfl rfl rfl
  refine mV rfl ?_
  refine rd_cutn 5 (d := 20) (v := vb (((!a0) || (decide (x1 < 0))) || (decide ((wr (32 - x2)) < x1)))) ?_ ?_
  · intro S Q r
    cases a5 : ((!a0) || (decide (x1 < 0)))
    · intro k
      have a2 := a5
      try simp only [qa, qaD] at a2
      refine rd_yes rfl rfl (ov_move rfl) ?_
      refine rd_yes rfl rfl (ov_move rfl) ?_
      refine rd_yes rfl rfl (ov_bin rfl rfl i_sub) ?_
      refine rd_yes rfl rfl (ov_bin rfl rfl i_gtr) ?_
      exact gK rfl rfl rfl rfl rfl k
    · exact gN 4 rfl rfl rfl rfl rfl rfl
  refine nS ?_
  refine rc_br hres rfl ?_ ?_ <;> clear hres <;> intro c hres <;> try simp only [qa, qaD] at c
  · refine sR ?_
    refine rd_op (v := vu32 0#32) (ov_move rfl) ?_
    refine nS ?_
    exact rR hres rfl rfl rfl
  · refine rc_skip ?_
    refine pn_seq ?_
    refine sR ?_
    refine mV rfl ?_
    refine mV rfl ?_
    refine rd_op (ov_bin (a := vu32 x0) (b := vi x1) rfl rfl (w_shr (by first | omega | exact mask_sh (by assumption) (by assumption) | (rw [wr_of (by omega) (by omega)]; omega) | (have hk := two_sh (by assumption) (And.left (by assumption)); omega)))) ?_
    refine mV rfl ?_
    obtain ⟨b0, a6, hres⟩ := let_ex hres
    have a3 := f182_ok (x0 := x2)  
    rw [a6] at a3
    refine cL a3 rfl rfl (clL_cons rfl clL_nil) ?_
    refine rd_op (ov_bin (a := vu32 (x0 >>> x1.toNat)) (b := vu32 b0) rfl rfl w_and) ?_
    refine mV rfl ?_
    refine nS ?_
    exact rR hres rfl rfl rfl

def RF290 (res : expr_value) (r : PV) : Prop := expr_value.t.R res r
theorem f290_ok {x0 : api_ExprNode} {x1 : expr_value} {v0 v1 : PV} (r0 : api_ExprNode.t.R x0 v0) (r1 : expr_value.t.R x1 v1) : ∃ r, FnR Tryz.prog 290 [v0, v1] r ∧ expr_value.t.R (expr_unary x0 x1) r := by
  refine fnT (R := RF290) text290 rfl fun res hres => ?_
  unfold expr_unary at hres
  refine sR ?_
  refine rd_op (ov_box rfl (TR.cnt api_ExprNode.t r0)) ?_
  refine rd_op (ov_box rfl (TR.cnt expr_value.t r1)) ?_
  refine rd_allocO (x := .agg [vu32 0#32, vi 0]) (Mem.nil ⟨0, []⟩) rfl rfl (fun a4 a5 c3 a6 => ?_)
  refine nS ?_
  refine rc_seq ?_
  refine sR ?_
  refine fL rfl (api_ExprNode.g_Op r0) rfl rfl ?_
  refine nS ?_
  refine rc_block ?_
  refine sR ?_
  refine bN i_eql rfl rfl ?_
  refine mV rfl ?_
  refine nS ?_
  refine rc_br hres rfl ?_ ?_ <;> clear hres <;> intro c hres <;> try simp only [qa, qaD] at c
  · refine sR ?_
    refine fL rfl (expr_value.g_v r1) rfl rfl ?_
    refine fL rfl (expr_value.g_w r1) rfl rfl ?_
    obtain ⟨a0, b1, hres⟩ := let_ex hres
    have b6 := f295_ok (x0 := x1.v) (x1 := x1.w)  
    rw [b1] at b6
    refine cL b6 rfl rfl (clL_cons rfl (clL_cons rfl clL_nil)) ?_
    refine fL rfl (expr_value.g_w r1) rfl rfl ?_
    refine rd_op (v := .agg [vu32 a0, vi x1.w]) (ov_build (cs := [vu32 a0, vi x1.w]) rfl rfl) ?_
    refine rd_storeO (k := 0) (v := .agg [vu32 a0, vi x1.w]) a6 rfl rfl rfl rfl (fun c1 a7 => ?_)
    replace a7 : Mem c1 [⟨.op a4 a5 0, 301, 2, [.agg [vu32 a0, vi x1.w]]⟩] := a7
    refine nS ?_
    subst hres
    exact rc_retV (.cell rfl (load_whole (k := 0) a7 rfl rfl) .nil) (deep_closed (TR.clo expr_value.t (show expr_value.t.R ({ v := a0, w := x1.w } : expr_value) (.agg [vu32 a0, vi x1.w]) from rfl))) (show expr_value.t.R ({ v := a0, w := x1.w } : expr_value) (.agg [vu32 a0, vi x1.w]) from rfl)
  · refine sR ?_
    refine bN i_eql rfl rfl ?_
    refine mV rfl ?_
    refine nS ?_
    refine rc_br hres rfl ?_ ?_ <;> clear hres <;> intro c hres <;> try simp only [qa, qaD] at c
    · refine sR ?_
      refine fL rfl (expr_value.g_v r1) rfl rfl ?_
      refine fL rfl (api_ExprNode.g_N r0) rfl rfl ?_
      refine fL rfl (expr_value.g_w r1) rfl rfl ?_
      obtain ⟨a2, b3, hres⟩ := let_ex hres
      have b5 := f296_ok (x0 := x1.v) (x1 := x0.N) (x2 := x1.w)  
      rw [b3] at b5
      refine cL b5 rfl rfl (clL_cons rfl (clL_cons rfl (clL_cons rfl clL_nil))) ?_
      refine fL rfl (expr_value.g_w r1) rfl rfl ?_
      refine rd_op (v := .agg [vu32 a2, vi x1.w]) (ov_build (cs := [vu32 a2, vi x1.w]) rfl rfl) ?_
      refine rd_storeO (k := 0) (v := .agg [vu32 a2, vi x1.w]) a6 rfl rfl rfl rfl (fun c0 b0 => ?_)
      replace b0 : Mem c0 [⟨.op a4 a5 0, 301, 2, [.agg [vu32 a2, vi x1.w]]⟩] := b0
      refine nS ?_
      subst hres
      exact rc_retV (.cell rfl (load_whole (k := 0) b0 rfl rfl) .nil) (deep_closed (TR.clo expr_value.t (show expr_value.t.R ({ v := a2, w := x1.w } : expr_value) (.agg [vu32 a2, vi x1.w]) from rfl))) (show expr_value.t.R ({ v := a2, w := x1.w } : expr_value) (.agg [vu32 a2, vi x1.w]) from rfl)
    · refine sR ?_
      refine bN i_eql rfl rfl ?_
      refine mV rfl ?_
      refine nS ?_
      refine rc_br hres rfl ?_ ?_ <;> clear hres <;> intro c hres <;> try simp only [qa, qaD] at c
      · refine sR ?_
        refine fL rfl (expr_value.g_v r1) rfl rfl ?_
        refine fL rfl (api_ExprNode.g_N r0) rfl rfl ?_
        refine fL rfl (expr_value.g_w r1) rfl rfl ?_
        obtain ⟨a1, b4, hres⟩ := let_ex hres
        have b7 := f297_ok (x0 := x1.v) (x1 := x0.N) (x2 := x1.w)  
        rw [b4] at b7
        refine cL b7 rfl rfl (clL_cons rfl (clL_cons rfl (clL_cons rfl clL_nil))) ?_
        refine fL rfl (expr_value.g_w r1) rfl rfl ?_
        refine rd_op (v := .agg [vu32 a1, vi x1.w]) (ov_build (cs := [vu32 a1, vi x1.w]) rfl rfl) ?_
        refine rd_storeO (k := 0) (v := .agg [vu32 a1, vi x1.w]) a6 rfl rfl rfl rfl (fun b9 a8 => ?_)
        replace a8 : Mem b9 [⟨.op a4 a5 0, 301, 2, [.agg [vu32 a1, vi x1.w]]⟩] := a8
        refine nS ?_
        subst hres
        exact rc_retV (.cell rfl (load_whole (k := 0) a8 rfl rfl) .nil) (deep_closed (TR.clo expr_value.t (show expr_value.t.R ({ v := a1, w := x1.w } : expr_value) (.agg [vu32 a1, vi x1.w]) from rfl))) (show expr_value.t.R ({ v := a1, w := x1.w } : expr_value) (.agg [vu32 a1, vi x1.w]) from rfl)
      · refine rc_skip ?_
        refine pn_blk ?_
        refine pn_seq ?_
        refine sR ?_
        refine fL rfl (expr_value.g_v r1) rfl rfl ?_
        refine fL rfl (api_ExprNode.g_N r0) rfl rfl ?_
        refine fL rfl (api_ExprNode.g_W r0) rfl rfl ?_
        obtain ⟨a3, b8, hres⟩ := let_ex hres
        have b2 := f298_ok (x0 := x1.v) (x1 := x0.N) (x2 := x0.W)  
        rw [b8] at b2
        refine cL b2 rfl rfl (clL_cons rfl (clL_cons rfl (clL_cons rfl clL_nil))) ?_
        refine fL rfl (api_ExprNode.g_W r0) rfl rfl ?_
        refine rd_op (v := .agg [vu32 a3, vi x0.W]) (ov_build (cs := [vu32 a3, vi x0.W]) rfl rfl) ?_
        refine rd_storeO (k := 0) (v := .agg [vu32 a3, vi x0.W]) a6 rfl rfl rfl rfl (fun c2 a9 => ?_)
        replace a9 : Mem c2 [⟨.op a4 a5 0, 301, 2, [.agg [vu32 a3, vi x0.W]]⟩] := a9
        refine nS ?_
        subst hres
        exact rc_retV (.cell rfl (load_whole (k := 0) a9 rfl rfl) .nil) (deep_closed (TR.clo expr_value.t (show expr_value.t.R ({ v := a3, w := x0.W } : expr_value) (.agg [vu32 a3, vi x0.W]) from rfl))) (show expr_value.t.R ({ v := a3, w := x0.W } : expr_value) (.agg [vu32 a3, vi x0.W]) from rfl)

def RF299 (res : (BitVec 32)) (r : PV) : Prop := r = vu32 res
theorem f299_ok {x0 : BitVec 32} {x1 : BitVec 32} {x2 : Int} : FnR Tryz.prog 299 [vu32 x0, vu32 x1, vi x2] (vu32 (bitvec_Add x0 x1 x2)) := by
  refine fnS (R := RF299) text299 (fun _ h => h) rfl fun res hres => ?_
  unfold bitvec_Add at hres
  refine sR ?_
  refine rd_op (v := vu32 0#32) (ov_move rfl) ?_
  refine nR ?_
  refine mV rfl ?_
  refine mV rfl ?_
  refine rd_op (ov_bin (a := vu32 x0) (b := vu32 x1) rfl rfl w_add) ?_
  refine mV rfl ?_
  obtain ⟨a2, a1, hres⟩ := let_ex hres
  have a0 := f182_ok (x0 := x2)  
  rw [a1] at a0
  refine cL a0 rfl rfl (clL_cons rfl clL_nil) ?_
  refine rd_op (ov_bin (a := vu32 (x0 + x1)) (b := vu32 a2) rfl rfl w_and) ?_
  refine mV rfl ?_
  refine nS ?_
  exact rR hres rfl rfl rfl

def RF300 (res : (BitVec 32)) (r : PV) : Prop := r = vu32 res
theorem f300_ok {x0 : BitVec 32} {x1 : BitVec 32} {x2 : Int} : FnR Tryz.prog 300 [vu32 x0, vu32 x1, vi x2] (vu32 (bitvec_Sub x0 x1 x2)) := by
  refine fnS (R := RF300) text300 (fun _ h => h) rfl fun res hres => ?_
  unfold bitvec_Sub at hres
  refine sR ?_
  refine rd_op (v := vu32 0#32) (ov_move rfl) ?_
  refine nR ?_
  refine mV rfl ?_
  refine mV rfl ?_
  refine rd_op (ov_bin (a := vu32 x0) (b := vu32 x1) rfl rfl w_sub) ?_
  refine mV rfl ?_
  obtain ⟨a2, a1, hres⟩ := let_ex hres
  have a0 := f182_ok (x0 := x2)  
  rw [a1] at a0
  refine cL a0 rfl rfl (clL_cons rfl clL_nil) ?_
  refine rd_op (ov_bin (a := vu32 (x0 - x1)) (b := vu32 a2) rfl rfl w_and) ?_
  refine mV rfl ?_
  refine nS ?_
  exact rR hres rfl rfl rfl

def RF301 (res : (BitVec 32) × Bool) (r : PV) : Prop := r = .tup [vu32 res.1, vb res.2]
theorem f301_ok {x0 : BitVec 32} {x1 : Int} {x2 : BitVec 32} {x3 : Int} : FnR Tryz.prog 301 [vu32 x0, vi x1, vu32 x2, vi x3] (.tup [vu32 ((bitvec_Concat x0 x1 x2 x3).1), vb ((bitvec_Concat x0 x1 x2 x3).2)]) := by
  refine fnS (R := RF301) text301 (fun _ h => h) rfl fun res hres => ?_
  unfold bitvec_Concat at hres
  refine sR ?_
  refine rd_op (v := vu32 0#32) (ov_move rfl) ?_
  refine mB rfl ?_
  refine nS ?_
  refine rc_seq ?_
  refine sR ?_
  refine mV rfl ?_
  refine mV rfl ?_
  refine rd_op (v := .fs true [vi x1, vi x3]) (ov_bslice rfl (all_cons rfl (all_cons rfl all_nil))) ?_
  have a9 : (tSl tI).R ([x1, x3] : List Int) (.fs true [vi x1, vi x3]) := sl_fs ⟨rfl, ⟨rfl, trivial⟩⟩ (by simp)
  obtain ⟨a5, a4, hres⟩ := let_ex hres
  have a8 := f181_ok  a9 
  rw [a4] at a8
  refine cL a8 rfl rfl (clL_cons (TR.clo (tSl tI) a9) clL_nil) ?_
  refine rd_op (ov_not rfl) ?_
  refine mV rfl ?_
  refine rd_cutn 5 (d := 20) (v := vb ((!a5) || (decide (32 < (wr (x1 + x3)))))) ?_ ?_
  · intro S Q r
    cases b1 : (!a5)
    · intro k
      have a1 := b1
      try simp only [qa, qaD] at a1
      refine rd_yes rfl rfl (ov_move rfl) ?_
      refine rd_yes rfl rfl (ov_move rfl) ?_
      refine rd_yes rfl rfl (ov_bin rfl rfl i_add) ?_
      refine rd_yes rfl rfl (ov_bin rfl rfl i_gtr) ?_
      exact gK rfl rfl rfl rfl rfl k
    · exact gN 4 rfl rfl rfl rfl rfl rfl
  refine nS ?_
  refine rc_br hres rfl ?_ ?_ <;> clear hres <;> intro c hres <;> try simp only [qa, qaD] at c
  · refine sR ?_
    refine rd_op (v := vu32 0#32) (ov_move rfl) ?_
    refine mB rfl ?_
    refine nS ?_
    exact rT hres rfl rfl rfl rfl rfl
  · refine rc_skip ?_
    refine pn_seq ?_
    refine sR ?_
    refine mV rfl ?_
    refine mV rfl ?_
    obtain ⟨a0, a2, hres⟩ := let_ex hres
    have b0 := f182_ok (x0 := x1)  
    rw [a2] at b0
    refine cL b0 rfl rfl (clL_cons rfl clL_nil) ?_
    refine rd_op (ov_bin (a := vu32 x0) (b := vu32 a0) rfl rfl w_and) ?_
    refine mV rfl ?_
    refine rd_op (ov_bin (a := vu32 (x0 &&& a0)) (b := vi x3) rfl rfl (w_shl (by first | omega | exact mask_sh (by assumption) (by assumption) | (rw [wr_of (by omega) (by omega)]; omega) | (have hk := two_sh (by assumption) (And.left (by assumption)); omega)))) ?_
    refine mV rfl ?_
    refine mV rfl ?_
    obtain ⟨a6, a7, hres⟩ := let_ex hres
    have a3 := f182_ok (x0 := x3)  
    rw [a7] at a3
    refine cL a3 rfl rfl (clL_cons rfl clL_nil) ?_
    refine rd_op (ov_bin (a := vu32 x2) (b := vu32 a6) rfl rfl w_and) ?_
    refine rd_op (ov_bin (a := vu32 ((x0 &&& a0) <<< x3.toNat)) (b := vu32 (x2 &&& a6)) rfl rfl w_or) ?_
    refine mV rfl ?_
    refine mB rfl ?_
    refine nS ?_
    exact rT hres rfl rfl rfl rfl rfl

def RF302 (res : expr_value) (r : PV) : Prop := expr_value.t.R res r
theorem f302_ok {x0 : Bool} : ∃ r, FnR Tryz.prog 302 [vb x0] r ∧ expr_value.t.R (expr_truth x0) r := by
  refine fnT (R := RF302) text302 rfl fun res hres => ?_
  unfold expr_truth at hres
  refine sR ?_
  refine rd_allocO (x := .agg [vu32 0#32, vi 0]) (Mem.nil ⟨0, []⟩) rfl rfl (fun a2 a3 a7 a4 => ?_)
  refine nS ?_
  refine rc_seq ?_
  refine sR ?_
  refine mV rfl ?_
  refine nS ?_
  refine rc_br hres rfl ?_ ?_ <;> clear hres <;> intro c hres <;> try simp only [qa, qaD] at c
  · refine sR ?_
    refine rd_op (v := .agg [vu32 1#32, vi 1]) (ov_build (cs := [vu32 1#32, vi 1]) rfl rfl) ?_
    refine rd_storeO (k := 0) (v := .agg [vu32 1#32, vi 1]) a4 rfl rfl rfl rfl (fun a5 a1 => ?_)
    replace a1 : Mem a5 [⟨.op a2 a3 0, 301, 2, [.agg [vu32 1#32, vi 1]]⟩] := a1
    refine nS ?_
    subst hres
    exact rc_retV (.cell rfl (load_whole (k := 0) a1 rfl rfl) .nil) (deep_closed (TR.clo expr_value.t (show expr_value.t.R ({ v := 1#32, w := 1 } : expr_value) (.agg [vu32 1#32, vi 1]) from rfl))) (show expr_value.t.R ({ v := 1#32, w := 1 } : expr_value) (.agg [vu32 1#32, vi 1]) from rfl)
  · refine rc_skip ?_
    refine pn_seq ?_
    refine sR ?_
    refine rd_op (v := .agg [vu32 0#32, vi 1]) (ov_build (cs := [vu32 0#32, vi 1]) rfl rfl) ?_
    refine rd_storeO (k := 0) (v := .agg [vu32 0#32, vi 1]) a4 rfl rfl rfl rfl (fun a6 a0 => ?_)
    replace a0 : Mem a6 [⟨.op a2 a3 0, 301, 2, [.agg [vu32 0#32, vi 1]]⟩] := a0
    refine nS ?_
    subst hres
    exact rc_retV (.cell rfl (load_whole (k := 0) a0 rfl rfl) .nil) (deep_closed (TR.clo expr_value.t (show expr_value.t.R ({ v := 0#32, w := 1 } : expr_value) (.agg [vu32 0#32, vi 1]) from rfl))) (show expr_value.t.R ({ v := 0#32, w := 1 } : expr_value) (.agg [vu32 0#32, vi 1]) from rfl)

def RF291 (res : expr_value) (r : PV) : Prop := expr_value.t.R res r
theorem f291_ok {x0 : Int} {x1 : expr_value} {x2 : expr_value} {v1 v2 : PV} (r1 : expr_value.t.R x1 v1) (r2 : expr_value.t.R x2 v2) : ∃ r, FnR Tryz.prog 291 [vi x0, v1, v2] r ∧ expr_value.t.R (expr_binary x0 x1 x2) r := by
  refine fnT (R := RF291) text291 rfl fun res hres => ?_
  unfold expr_binary at hres
  refine sR ?_
  refine rd_op (ov_box rfl (TR.cnt expr_value.t r1)) ?_
  refine rd_op (ov_box rfl (TR.cnt expr_value.t r2)) ?_
  refine rd_allocO (x := .agg [vu32 0#32, vi 0]) (Mem.nil ⟨0, []⟩) rfl rfl (fun a1 a2 d7 a3 => ?_)
  refine nS ?_
  refine rc_seq ?_
  refine sR ?_
  refine mV rfl ?_
  refine nS ?_
  refine rc_block ?_
  refine sR ?_
  refine bN i_eql rfl rfl ?_
  refine mV rfl ?_
  refine nS ?_
  refine rc_br hres rfl ?_ ?_ <;> clear hres <;> intro c hres <;> try simp only [qa, qaD] at c
  · refine sR ?_
    refine fL rfl (expr_value.g_v r1) rfl rfl ?_
    refine fL rfl (expr_value.g_v r2) rfl rfl ?_
    refine fL rfl (expr_value.g_w r1) rfl rfl ?_
    obtain ⟨a0, b6, hres⟩ := let_ex hres
    have c3 := f299_ok (x0 := x1.v) (x1 := x2.v) (x2 := x1.w)  
    rw [b6] at c3
    refine cL c3 rfl rfl (clL_cons rfl (clL_cons rfl (clL_cons rfl clL_nil))) ?_
    refine fL rfl (expr_value.g_w r1) rfl rfl ?_
    refine rd_op (v := .agg [vu32 a0, vi x1.w]) (ov_build (cs := [vu32 a0, vi x1.w]) rfl rfl) ?_
    refine rd_storeO (k := 0) (v := .agg [vu32 a0, vi x1.w]) a3 rfl rfl rfl rfl (fun d0 a8 => ?_)
    replace a8 : Mem d0 [⟨.op a1 a2 0, 301, 2, [.agg [vu32 a0, vi x1.w]]⟩] := a8
    refine nS ?_
    subst hres
    exact rc_retV (.cell rfl (load_whole (k := 0) a8 rfl rfl) .nil) (deep_closed (TR.clo expr_value.t (show expr_value.t.R ({ v := a0, w := x1.w } : expr_value) (.agg [vu32 a0, vi x1.w]) from rfl))) (show expr_value.t.R ({ v := a0, w := x1.w } : expr_value) (.agg [vu32 a0, vi x1.w]) from rfl)
  · refine sR ?_
    refine bN i_eql rfl rfl ?_
    refine mV rfl ?_
    refine nS ?_
    refine rc_br hres rfl ?_ ?_ <;> clear hres <;> intro c hres <;> try simp only [qa, qaD] at c
    · refine sR ?_
      refine fL rfl (expr_value.g_v r1) rfl rfl ?_
      refine fL rfl (expr_value.g_v r2) rfl rfl ?_
      refine fL rfl (expr_value.g_w r1) rfl rfl ?_
      obtain ⟨a4, b7, hres⟩ := let_ex hres
      have c1 := f300_ok (x0 := x1.v) (x1 := x2.v) (x2 := x1.w)  
      rw [b7] at c1
      refine cL c1 rfl rfl (clL_cons rfl (clL_cons rfl (clL_cons rfl clL_nil))) ?_
      refine fL rfl (expr_value.g_w r1) rfl rfl ?_
      refine rd_op (v := .agg [vu32 a4, vi x1.w]) (ov_build (cs := [vu32 a4, vi x1.w]) rfl rfl) ?_
      refine rd_storeO (k := 0) (v := .agg [vu32 a4, vi x1.w]) a3 rfl rfl rfl rfl (fun c6 b2 => ?_)
      replace b2 : Mem c6 [⟨.op a1 a2 0, 301, 2, [.agg [vu32 a4, vi x1.w]]⟩] := b2
      refine nS ?_
      subst hres
      exact rc_retV (.cell rfl (load_whole (k := 0) b2 rfl rfl) .nil) (deep_closed (TR.clo expr_value.t (show expr_value.t.R ({ v := a4, w := x1.w } : expr_value) (.agg [vu32 a4, vi x1.w]) from rfl))) (show expr_value.t.R ({ v := a4, w := x1.w } : expr_value) (.agg [vu32 a4, vi x1.w]) from rfl)
    · refine sR ?_
      refine bN i_eql rfl rfl ?_
      refine mV rfl ?_
      refine nS ?_
      refine rc_br hres rfl ?_ ?_ <;> clear hres <;> intro c hres <;> try simp only [qa, qaD] at c
      · refine sR ?_
        refine fL rfl (expr_value.g_v r1) rfl rfl ?_
        refine fL rfl (expr_value.g_v r2) rfl rfl ?_
        refine rd_op (ov_bin (a := vu32 x1.v) (b := vu32 x2.v) rfl rfl w_and) ?_
        refine fL rfl (expr_value.g_w r1) rfl rfl ?_
        refine rd_op (v := .agg [vu32 (x1.v &&& x2.v), vi x1.w]) (ov_build (cs := [vu32 (x1.v &&& x2.v), vi x1.w]) rfl rfl) ?_
        refine rd_storeO (k := 0) (v := .agg [vu32 (x1.v &&& x2.v), vi x1.w]) a3 rfl rfl rfl rfl (fun c8 b3 => ?_)
        replace b3 : Mem c8 [⟨.op a1 a2 0, 301, 2, [.agg [vu32 (x1.v &&& x2.v), vi x1.w]]⟩] := b3
        refine nS ?_
        subst hres
        exact rc_retV (.cell rfl (load_whole (k := 0) b3 rfl rfl) .nil) (deep_closed (TR.clo expr_value.t (show expr_value.t.R ({ v := (x1.v &&& x2.v), w := x1.w } : expr_value) (.agg [vu32 (x1.v &&& x2.v), vi x1.w]) from rfl))) (show expr_value.t.R ({ v := (x1.v &&& x2.v), w := x1.w } : expr_value) (.agg [vu32 (x1.v &&& x2.v), vi x1.w]) from rfl)
      · refine sR ?_
        refine bN i_eql rfl rfl ?_
        refine mV rfl ?_
        refine nS ?_
        refine rc_br hres rfl ?_ ?_ <;> clear hres <;> intro c hres <;> try simp only [qa, qaD] at c
        · refine sR ?_
          refine fL rfl (expr_value.g_v r1) rfl rfl ?_
          refine fL rfl (expr_value.g_v r2) rfl rfl ?_
          refine rd_op (ov_bin (a := vu32 x1.v) (b := vu32 x2.v) rfl rfl w_or) ?_
          refine fL rfl (expr_value.g_w r1) rfl rfl ?_
          refine rd_op (v := .agg [vu32 (x1.v ||| x2.v), vi x1.w]) (ov_build (cs := [vu32 (x1.v ||| x2.v), vi x1.w]) rfl rfl) ?_
          refine rd_storeO (k := 0) (v := .agg [vu32 (x1.v ||| x2.v), vi x1.w]) a3 rfl rfl rfl rfl (fun c7 b0 => ?_)
          replace b0 : Mem c7 [⟨.op a1 a2 0, 301, 2, [.agg [vu32 (x1.v ||| x2.v), vi x1.w]]⟩] := b0
          refine nS ?_
          subst hres
          exact rc_retV (.cell rfl (load_whole (k := 0) b0 rfl rfl) .nil) (deep_closed (TR.clo expr_value.t (show expr_value.t.R ({ v := (x1.v ||| x2.v), w := x1.w } : expr_value) (.agg [vu32 (x1.v ||| x2.v), vi x1.w]) from rfl))) (show expr_value.t.R ({ v := (x1.v ||| x2.v), w := x1.w } : expr_value) (.agg [vu32 (x1.v ||| x2.v), vi x1.w]) from rfl)
        · refine sR ?_
          refine bN i_eql rfl rfl ?_
          refine mV rfl ?_
          refine nS ?_
          refine rc_br hres rfl ?_ ?_ <;> clear hres <;> intro c hres <;> try simp only [qa, qaD] at c
          · refine sR ?_
            refine fL rfl (expr_value.g_v r1) rfl rfl ?_
            refine fL rfl (expr_value.g_v r2) rfl rfl ?_
            refine rd_op (ov_bin (a := vu32 x1.v) (b := vu32 x2.v) rfl rfl w_xor) ?_
            refine fL rfl (expr_value.g_w r1) rfl rfl ?_
            refine rd_op (v := .agg [vu32 (x1.v ^^^ x2.v), vi x1.w]) (ov_build (cs := [vu32 (x1.v ^^^ x2.v), vi x1.w]) rfl rfl) ?_
            refine rd_storeO (k := 0) (v := .agg [vu32 (x1.v ^^^ x2.v), vi x1.w]) a3 rfl rfl rfl rfl (fun d3 b5 => ?_)
            replace b5 : Mem d3 [⟨.op a1 a2 0, 301, 2, [.agg [vu32 (x1.v ^^^ x2.v), vi x1.w]]⟩] := b5
            refine nS ?_
            subst hres
            exact rc_retV (.cell rfl (load_whole (k := 0) b5 rfl rfl) .nil) (deep_closed (TR.clo expr_value.t (show expr_value.t.R ({ v := (x1.v ^^^ x2.v), w := x1.w } : expr_value) (.agg [vu32 (x1.v ^^^ x2.v), vi x1.w]) from rfl))) (show expr_value.t.R ({ v := (x1.v ^^^ x2.v), w := x1.w } : expr_value) (.agg [vu32 (x1.v ^^^ x2.v), vi x1.w]) from rfl)
          · refine sR ?_
            refine bN i_eql rfl rfl ?_
            refine mV rfl ?_
            refine nS ?_
            refine rc_br hres rfl ?_ ?_ <;> clear hres <;> intro c hres <;> try simp only [qa, qaD] at c
            · refine sR ?_
              refine fL rfl (expr_value.g_v r1) rfl rfl ?_
              refine fL rfl (expr_value.g_w r1) rfl rfl ?_
              refine fL rfl (expr_value.g_v r2) rfl rfl ?_
              refine fL rfl (expr_value.g_w r2) rfl rfl ?_
              obtain ⟨a5, c5, hres⟩ := let_ex hres
              have c0 := f301_ok (x0 := x1.v) (x1 := x1.w) (x2 := x2.v) (x3 := x2.w)  
              rw [c5] at c0
              refine cL c0 rfl rfl (clL_cons rfl (clL_cons rfl (clL_cons rfl (clL_cons rfl clL_nil)))) ?_
              refine mV rfl ?_
              refine xT rfl rfl ?_
              refine xT rfl rfl ?_
              refine mV rfl ?_
              refine mV rfl ?_
              refine nR ?_
              refine mV rfl ?_
              refine fL rfl (expr_value.g_w r1) rfl rfl ?_
              refine fL rfl (expr_value.g_w r2) rfl rfl ?_
              refine bN i_add rfl rfl ?_
              refine rd_op (v := .agg [vu32 a5.1, vi (wr (x1.w + x2.w))]) (ov_build (cs := [vu32 a5.1, vi (wr (x1.w + x2.w))]) rfl rfl) ?_
              refine rd_storeO (k := 0) (v := .agg [vu32 a5.1, vi (wr (x1.w + x2.w))]) a3 rfl rfl rfl rfl (fun d5 b4 => ?_)
              replace b4 : Mem d5 [⟨.op a1 a2 0, 301, 2, [.agg [vu32 a5.1, vi (wr (x1.w + x2.w))]]⟩] := b4
              refine nS ?_
              subst hres
              exact rc_retV (.cell rfl (load_whole (k := 0) b4 rfl rfl) .nil) (deep_closed (TR.clo expr_value.t (show expr_value.t.R ({ v := a5.1, w := (wr (x1.w + x2.w)) } : expr_value) (.agg [vu32 a5.1, vi (wr (x1.w + x2.w))]) from rfl))) (show expr_value.t.R ({ v := a5.1, w := (wr (x1.w + x2.w)) } : expr_value) (.agg [vu32 a5.1, vi (wr (x1.w + x2.w))]) from rfl)
            · refine sR ?_
              refine bN i_eql rfl rfl ?_
              refine mV rfl ?_
              refine nS ?_
              refine rc_br hres rfl ?_ ?_ <;> clear hres <;> intro c hres <;> try simp only [qa, qaD] at c
              · refine sR ?_
                refine fL rfl (expr_value.g_v r1) rfl rfl ?_
                refine fL rfl (expr_value.g_v r2) rfl rfl ?_
                refine rd_op (ov_bin (a := vu32 x1.v) (b := vu32 x2.v) rfl rfl w_eql) ?_
                obtain ⟨d8, b8, hres⟩ := let_ex hres
                obtain ⟨c2, c9, a6⟩ := f302_ok (x0 := (decide (x1.v = x2.v)))  
                rw [b8] at a6
                refine cL c9 rfl rfl (clL_cons rfl clL_nil) ?_
                refine rd_storeO (k := 0) (v := c2) a3 rfl rfl rfl (TR.cnt expr_value.t a6) (fun d4 b1 => ?_)
                replace b1 : Mem d4 [⟨.op a1 a2 0, 301, 2, [c2]⟩] := b1
                refine nS ?_
                subst hres
                exact rc_retV (.cell rfl (load_whole (k := 0) b1 rfl (TR.agg expr_value.t a6)) .nil) (deep_closed (TR.clo expr_value.t a6)) a6
              · refine rc_skip ?_
                refine pn_blk ?_
                refine pn_seq ?_
                refine sR ?_
                refine fL rfl (expr_value.g_v r1) rfl rfl ?_
                refine fL rfl (expr_value.g_v r2) rfl rfl ?_
                refine rd_op (ov_bin (a := vu32 x1.v) (b := vu32 x2.v) rfl rfl w_lss) ?_
                obtain ⟨d6, b9, hres⟩ := let_ex hres
                obtain ⟨c4, d2, a7⟩ := f302_ok (x0 := (decide (x1.v < x2.v)))  
                rw [b9] at a7
                refine cL d2 rfl rfl (clL_cons rfl clL_nil) ?_
                refine rd_storeO (k := 0) (v := c4) a3 rfl rfl rfl (TR.cnt expr_value.t a7) (fun d1 a9 => ?_)
                replace a9 : Mem d1 [⟨.op a1 a2 0, 301, 2, [c4]⟩] := a9
                refine nS ?_
                subst hres
                exact rc_retV (.cell rfl (load_whole (k := 0) a9 rfl (TR.agg expr_value.t a7)) .nil) (deep_closed (TR.clo expr_value.t a7)) a7

def RF273 (i0_ w0_ : Nat) (R_ : List Ent) (res : expr_value × expr_machine) (r : PV) (h : Heap) : Prop := ∃ uF0 : PV, ∃ c0_ : PV, Mem h (⟨.op i0_ w0_ 0, 299, 17, [uF0]⟩ :: R_) ∧ (expr_machine.t.R res.2 uF0) ∧ r = c0_ ∧ expr_value.t.R res.1 c0_
theorem f273_okB {rec_ : expr_machine → (expr_value × expr_machine)} {mu_ : Nat} {x0 : expr_machine} {k7 : PV} {R_ : List Ent} {h_ : Heap} {b7 b8 : Nat} (g0 : expr_machine.t.R x0 k7) (M_ : Mem h_ (⟨.op b7 b8 0, 299, 17, [k7]⟩ :: R_)) (hv : VE x0) (hmu : mu_ = x0.nodes.length - x0.next.toNat) (hrec : HR rec_) (ihR : ∀ {z0 : expr_machine} {k7 : PV} {R_ : List Ent} {h_ : Heap} {b7 b8 : Nat} (g0 : expr_machine.t.R z0 k7) (M_ : Mem h_ (⟨.op b7 b8 0, 299, 17, [k7]⟩ :: R_)) (hv : VE z0), z0.nodes.length - z0.next.toNat < mu_ → ∃ r k8, FnX Tryz.prog 273 [.op b7 b8 0] h_ r k8 ∧ RF273 b7 b8 R_ (rec_ z0) r k8) : ∃ r k8, FnX Tryz.prog 273 [.op b7 b8 0] h_ r k8 ∧ RF273 b7 b8 R_ (m2_expr_machine__eval_B rec_ x0) r k8 := by
  refine fnXX (R := RF273 b7 b8 R_) text273 rfl fun res hres => ?_
  unfold m2_expr_machine__eval_B at hres
  refine sR ?_
  refine rd_allocO (x := .agg [vu32 0#32, vi 0]) M_ rfl rfl (fun b6 b5 u3 k4 => ?_)
  refine nR ?_
  refine mV rfl ?_
  refine rd_op (ov_nilCheck rfl rfl) ?_
  refine rd_op (ov_faddrO rfl) ?_
  obtain ⟨p0, q3, p4⟩ := expr_machine.g_nodes g0
  refine rd_op (ov_loadf (k := 1) k4 rfl rfl q3) ?_
  refine mV rfl ?_
  refine rd_op (ov_nilCheck rfl rfl) ?_
  refine rd_op (ov_faddrO rfl) ?_
  refine rd_op (ov_loadf (k := 1) k4 rfl rfl (expr_machine.g_next g0)) ?_
  obtain ⟨e8, o8, e0⟩ := sl_idx (i := x0.next) p4 (by first | omega | exact (ve_lt hv).1 | exact (ve_lt hv).2) (by first | omega | exact (ve_lt hv).1 | exact (ve_lt hv).2)
  refine rd_op (ov_iaddr rfl rfl o8) ?_
  refine lD e0 rfl rfl rfl ?_
  refine rd_allocO (x := .agg [vi 0, vi 0, vi 0]) k4 rfl rfl (fun l3 n4 s7 o7 => ?_)
  refine rd_storeO (k := 0) (v := e8) o7 rfl rfl rfl (TR.cnt api_ExprNode.t e0) (fun p8 i3 => ?_)
  replace i3 : Mem p8 (⟨.op l3 n4 0, 113, 3, [e8]⟩ :: ⟨.op b6 b5 0, 301, 2, [.agg [vu32 0#32, vi 0]]⟩ :: ⟨.op b7 b8 0, 299, 17, [k7]⟩ :: R_) := i3
  refine nS ?_
  refine rc_seq ?_
  refine rc_regionS ?_
  refine rs_step ?_
  refine mV rfl ?_
  refine rs_back ?_
  refine rs_step ?_
  refine rd_op (ov_nilCheck rfl rfl) ?_
  refine rs_back ?_
  refine rs_step ?_
  refine rd_op (ov_faddrO rfl) ?_
  refine rs_back ?_
  refine rs_step ?_
  refine rd_op (ov_loadf (k := 2) i3 rfl rfl (expr_machine.g_next g0)) ?_
  refine rs_back ?_
  refine rs_step ?_
  refine bN i_add rfl rfl ?_
  refine rs_back ?_
  refine rs_step ?_
  refine rd_op (ov_nilCheck rfl rfl) ?_
  refine rs_back ?_
  refine rs_step ?_
  refine rd_op (ov_faddrO rfl) ?_
  refine rs_back ?_
  refine rs_step ?_
  obtain ⟨a6, a8, b4, b2, a9, b3, b1, a7, b0, a0, a4, a5, a3, a1, a2, q1, d4, d3, c8, d5, d2, c7, d0, d1, c9, c5, c1, c4, c0, c3, c2⟩ := g0
  subst q1
  refine rd_storeF (k := 2) (v := vi (wr (x0.next + 1))) i3 rfl rfl rfl rfl rfl (by first | decide | (simp only [List.length_cons, List.length_nil]; omega) | simp) (fun o5 k3 => ?_)
  replace k3 : Mem o5 (⟨.op l3 n4 0, 113, 3, [e8]⟩ :: ⟨.op b6 b5 0, 301, 2, [.agg [vu32 0#32, vi 0]]⟩ :: ⟨.op b7 b8 0, 299, 17, [.agg [vs x0.scope.Program.Name, a6, a8, b4, b2, a9, b3, b1, a7, b0, a0, a4, a5, a3, a1, a2, vi (wr (x0.next + 1))]]⟩ :: R_) := k3
  refine rs_back ?_
  refine rs_freezeP (k := 0) (E' := [(25, .op b7 b8 (0 + 16)), (24, .op b7 b8 0), (23, vi (wr (x0.next + 1))), (22, vi x0.next), (21, .op b7 b8 (0 + 16)), (20, .op b7 b8 0), (19, .op b7 b8 0), (3, .fp e8), (18, e8), (17, .fp e8), (16, vi x0.next), (15, .op b7 b8 (0 + 16)), (14, .op b7 b8 0), (13, .op b7 b8 0), (12, p0), (11, .op b7 b8 (0 + 15)), (10, .op b7 b8 0), (9, .op b7 b8 0), (2, .op b6 b5 0), (0, .op b7 b8 0)]) k3 rfl (frz_keep rfl (frz_keep rfl (frz_keep rfl (frz_keep rfl (frz_keep rfl (frz_keep rfl (frz_keep rfl (frz_turn rfl (frz_keep rfl (frz_keep rfl (frz_keep rfl (frz_keep rfl (frz_keep rfl (frz_keep rfl (frz_keep rfl (frz_keep rfl (frz_keep rfl (frz_keep rfl (frz_keep rfl (frz_keep rfl frz_nil)))))))))))))))))))) (fun f5 f0 => ?_)
  replace f0 : Mem f5 (⟨.op b6 b5 0, 301, 2, [.agg [vu32 0#32, vi 0]]⟩ :: ⟨.op b7 b8 0, 299, 17, [.agg [vs x0.scope.Program.Name, a6, a8, b4, b2, a9, b3, b1, a7, b0, a0, a4, a5, a3, a1, a2, vi (wr (x0.next + 1))]]⟩ :: R_) := f0
  refine rs_nil ?_
  refine pn_seq ?_
  refine rc_seq ?_
  refine sR ?_
  refine fL rfl (api_ExprNode.g_Op e0) rfl rfl ?_
  obtain ⟨u2, n1, hres⟩ := let_ex hres
  have o4 := f267_ok (x0 := (ix x0.nodes x0.next).Op)  
  rw [n1] at o4
  refine cL o4 rfl rfl (clL_cons rfl clL_nil) ?_
  refine nS ?_
  refine rc_block ?_
  refine sR ?_
  refine bN i_eql rfl rfl ?_
  refine mV rfl ?_
  refine nS ?_
  refine rc_br hres rfl ?_ ?_ <;> clear hres <;> intro c hres <;> try simp only [qa, qaD] at c
  · refine rc_seq ?_
    refine rc_regionS ?_
    refine rs_step ?_
    refine mV rfl ?_
    refine rs_back ?_
    refine rs_step ?_
    refine lD e0 rfl rfl rfl ?_
    refine rs_back ?_
    have p5 : Mem f5 (⟨.op b7 b8 0, 299, 17, [.agg [vs x0.scope.Program.Name, a6, a8, b4, b2, a9, b3, b1, a7, b0, a0, a4, a5, a3, a1, a2, vi (wr (x0.next + 1))]]⟩ :: ⟨.op b6 b5 0, 301, 2, [.agg [vu32 0#32, vi 0]]⟩ :: R_) := (Mem.front (k := 1) f0 rfl)
    obtain ⟨u1, l0, hres⟩ := let_ex hres
    obtain ⟨s1, t6, l9, j0⟩ := f289_ok (x0 := ({ scope := x0.scope, env := x0.env, args := x0.args, nodes := x0.nodes, next := (wr (x0.next + 1)) } : expr_machine)) (x1 := (ix x0.nodes x0.next)) e0 (show expr_machine.t.R ({ scope := x0.scope, env := x0.env, args := x0.args, nodes := x0.nodes, next := (wr (x0.next + 1)) } : expr_machine) (.agg [vs x0.scope.Program.Name, a6, a8, b4, b2, a9, b3, b1, a7, b0, a0, a4, a5, a3, a1, a2, vi (wr (x0.next + 1))]) from ⟨a6, a8, b4, b2, a9, b3, b1, a7, b0, a0, a4, a5, a3, a1, a2, rfl, d4, d3, c8, d5, d2, c7, d0, d1, c9, c5, c1, c4, c0, c3, c2⟩) p5 (by exact evp hv (by assumption) (by assumption))
    rw [l0] at j0
    obtain ⟨e4, i8, q9, h2, g5, j8⟩ := j0
    replace g5 := g5.symm; subst g5
    refine rs_callXc rfl rfl l9 ?_
    refine rs_step ?_
    refine rd_storeO (k := 1) (v := i8) q9 rfl rfl rfl (TR.cnt expr_value.t j8) (fun l2 i7 => ?_)
    replace i7 : Mem l2 (⟨.op b7 b8 0, 299, 17, [e4]⟩ :: ⟨.op b6 b5 0, 301, 2, [i8]⟩ :: R_) := i7
    refine rs_back ?_
    refine rs_nil ?_
    refine pn_seq ?_
    have o0 : Mem l2 (⟨.op b7 b8 0, 299, 17, [e4]⟩ :: ⟨.op b6 b5 0, 301, 2, [i8]⟩ :: R_) := (Mem.front (k := 0) i7 rfl)
    subst hres
    exact rc_retX (.cell rfl (load_whole (k := 1) i7 rfl (TR.agg expr_value.t j8)) .nil) ⟨e4, i8, Mem.sub o0 (.cons_cons _ (.cons _ (List.Sublist.refl R_))), h2, rfl, j8⟩
  · refine sR ?_
    refine bN i_eql rfl rfl ?_
    refine mV rfl ?_
    refine nS ?_
    refine rc_br hres rfl ?_ ?_ <;> clear hres <;> intro c hres <;> try simp only [qa, qaD] at c
    · refine rc_seq ?_
      refine rc_regionU ?_
      refine rx_step ?_
      refine lD e0 rfl rfl rfl ?_
      refine rx_back ?_
      refine rx_step ?_
      refine mV rfl ?_
      refine rx_back ?_
      have r3 : Mem f5 (⟨.op b7 b8 0, 299, 17, [.agg [vs x0.scope.Program.Name, a6, a8, b4, b2, a9, b3, b1, a7, b0, a0, a4, a5, a3, a1, a2, vi (wr (x0.next + 1))]]⟩ :: ⟨.op b6 b5 0, 301, 2, [.agg [vu32 0#32, vi 0]]⟩ :: R_) := (Mem.front (k := 1) f0 rfl)
      obtain ⟨s9, n6, hres⟩ := let_ex hres
      obtain ⟨s4, t5, m0, j2⟩ := ihR (z0 := ({ scope := x0.scope, env := x0.env, args := x0.args, nodes := x0.nodes, next := (wr (x0.next + 1)) } : expr_machine)) (show expr_machine.t.R ({ scope := x0.scope, env := x0.env, args := x0.args, nodes := x0.nodes, next := (wr (x0.next + 1)) } : expr_machine) (.agg [vs x0.scope.Program.Name, a6, a8, b4, b2, a9, b3, b1, a7, b0, a0, a4, a5, a3, a1, a2, vi (wr (x0.next + 1))]) from ⟨a6, a8, b4, b2, a9, b3, b1, a7, b0, a0, a4, a5, a3, a1, a2, rfl, d4, d3, c8, d5, d2, c7, d0, d1, c9, c5, c1, c4, c0, c3, c2⟩) r3 (by first | exact ev1 hv (by assumption) (by assumption) | exact ev2 hv (by assumption) (by assumption) (by assumption) hrec (by assumption) | exact ev3 hv (by assumption) (by assumption) (by assumption) (by assumption) hrec (by assumption) (by assumption)) (by rw [hmu]; first | exact dv1 hv (by assumption) (by assumption) | exact dv2 hv (by assumption) (by assumption) (by assumption) hrec (by assumption) | exact dv3 hv (by assumption) (by assumption) (by assumption) (by assumption) hrec (by assumption) (by assumption))
      rw [n6] at j2
      obtain ⟨e5, u4, r1, i6, f3, n5⟩ := j2
      replace f3 := f3.symm; subst f3
      refine rx_callXc rfl rfl m0 ?_
      refine rx_step ?_
      obtain ⟨s5, n7, hres⟩ := let_ex hres
      obtain ⟨h3, r5, i9⟩ := f290_ok  e0 n5 
      rw [n7] at i9
      refine cL r5 rfl rfl (clL_cons (TR.clo api_ExprNode.t e0) (clL_cons (TR.clo expr_value.t n5) clL_nil)) ?_
      refine rx_back ?_
      refine rx_step ?_
      refine rd_storeO (k := 1) (v := h3) r1 rfl rfl rfl (TR.cnt expr_value.t i9) (fun m9 h6 => ?_)
      replace h6 : Mem m9 (⟨.op b7 b8 0, 299, 17, [e5]⟩ :: ⟨.op b6 b5 0, 301, 2, [h3]⟩ :: R_) := h6
      refine rx_back ?_
      refine rx_nil ?_
      refine pn_seq ?_
      have m2 : Mem m9 (⟨.op b7 b8 0, 299, 17, [e5]⟩ :: ⟨.op b6 b5 0, 301, 2, [h3]⟩ :: R_) := (Mem.front (k := 0) h6 rfl)
      subst hres
      exact rc_retX (.cell rfl (load_whole (k := 1) h6 rfl (TR.agg expr_value.t i9)) .nil) ⟨e5, h3, Mem.sub m2 (.cons_cons _ (.cons _ (List.Sublist.refl R_))), i6, rfl, i9⟩
    · refine sR ?_
      refine bN i_eql rfl rfl ?_
      refine mV rfl ?_
      refine nS ?_
      refine rc_br hres rfl ?_ ?_ <;> clear hres <;> intro c hres <;> try simp only [qa, qaD] at c
      · refine rc_seq ?_
        refine rc_regionS ?_
        refine rs_step ?_
        refine mV rfl ?_
        refine rs_back ?_
        have r4 : Mem f5 (⟨.op b7 b8 0, 299, 17, [.agg [vs x0.scope.Program.Name, a6, a8, b4, b2, a9, b3, b1, a7, b0, a0, a4, a5, a3, a1, a2, vi (wr (x0.next + 1))]]⟩ :: ⟨.op b6 b5 0, 301, 2, [.agg [vu32 0#32, vi 0]]⟩ :: R_) := (Mem.front (k := 1) f0 rfl)
        obtain ⟨r7, l4, hres⟩ := let_ex hres
        obtain ⟨s3, t9, l6, j1⟩ := ihR (z0 := ({ scope := x0.scope, env := x0.env, args := x0.args, nodes := x0.nodes, next := (wr (x0.next + 1)) } : expr_machine)) (show expr_machine.t.R ({ scope := x0.scope, env := x0.env, args := x0.args, nodes := x0.nodes, next := (wr (x0.next + 1)) } : expr_machine) (.agg [vs x0.scope.Program.Name, a6, a8, b4, b2, a9, b3, b1, a7, b0, a0, a4, a5, a3, a1, a2, vi (wr (x0.next + 1))]) from ⟨a6, a8, b4, b2, a9, b3, b1, a7, b0, a0, a4, a5, a3, a1, a2, rfl, d4, d3, c8, d5, d2, c7, d0, d1, c9, c5, c1, c4, c0, c3, c2⟩) r4 (by first | exact ev1 hv (by assumption) (by assumption) | exact ev2 hv (by assumption) (by assumption) (by assumption) hrec (by assumption) | exact ev3 hv (by assumption) (by assumption) (by assumption) (by assumption) hrec (by assumption) (by assumption)) (by rw [hmu]; first | exact dv1 hv (by assumption) (by assumption) | exact dv2 hv (by assumption) (by assumption) (by assumption) hrec (by assumption) | exact dv3 hv (by assumption) (by assumption) (by assumption) (by assumption) hrec (by assumption) (by assumption))
        rw [l4] at j1
        obtain ⟨g2, e9, q4, i0, f7, i2⟩ := j1
        replace f7 := f7.symm; subst f7
        refine rs_callXc rfl rfl l6 ?_
        refine rs_step ?_
        refine rd_allocO (x := .agg [vu32 0#32, vi 0]) q4 rfl rfl (fun f6 g6 u6 q6 => ?_)
        refine rs_back ?_
        refine rs_step ?_
        refine rd_storeO (k := 0) (v := e9) q6 rfl rfl rfl (TR.cnt expr_value.t i2) (fun m1 j9 => ?_)
        replace j9 : Mem m1 (⟨.op f6 g6 0, 301, 2, [e9]⟩ :: ⟨.op b7 b8 0, 299, 17, [g2]⟩ :: ⟨.op b6 b5 0, 301, 2, [.agg [vu32 0#32, vi 0]]⟩ :: R_) := j9
        refine rs_back ?_
        refine rs_nil ?_
        refine pn_seq ?_
        refine rc_seq ?_
        refine rc_regionS ?_
        refine rs_step ?_
        refine mV rfl ?_
        refine rs_back ?_
        have p1 : Mem m1 (⟨.op b7 b8 0, 299, 17, [g2]⟩ :: ⟨.op f6 g6 0, 301, 2, [e9]⟩ :: ⟨.op b6 b5 0, 301, 2, [.agg [vu32 0#32, vi 0]]⟩ :: R_) := (Mem.front (k := 1) j9 rfl)
        obtain ⟨u5, m5, hres⟩ := let_ex hres
        obtain ⟨s2, t8, m3, j6⟩ := ihR (z0 := r7.2) i0 p1 (by first | exact ev1 hv (by assumption) (by assumption) | exact ev2 hv (by assumption) (by assumption) (by assumption) hrec (by assumption) | exact ev3 hv (by assumption) (by assumption) (by assumption) (by assumption) hrec (by assumption) (by assumption)) (by rw [hmu]; first | exact dv1 hv (by assumption) (by assumption) | exact dv2 hv (by assumption) (by assumption) (by assumption) hrec (by assumption) | exact dv3 hv (by assumption) (by assumption) (by assumption) (by assumption) hrec (by assumption) (by assumption))
        rw [m5] at j6
        obtain ⟨d9, i4, q7, h4, f1, h9⟩ := j6
        replace f1 := f1.symm; subst f1
        refine rs_callXc rfl rfl m3 ?_
        refine rs_step ?_
        refine rd_allocO (x := .agg [vu32 0#32, vi 0]) q7 rfl rfl (fun k6 k5 t0 q5 => ?_)
        refine rs_back ?_
        refine rs_step ?_
        refine rd_storeO (k := 0) (v := i4) q5 rfl rfl rfl (TR.cnt expr_value.t h9) (fun p6 f4 => ?_)
        replace f4 : Mem p6 (⟨.op k6 k5 0, 301, 2, [i4]⟩ :: ⟨.op b7 b8 0, 299, 17, [d9]⟩ :: ⟨.op f6 g6 0, 301, 2, [e9]⟩ :: ⟨.op b6 b5 0, 301, 2, [.agg [vu32 0#32, vi 0]]⟩ :: R_) := f4
        refine rs_back ?_
        refine rs_nil ?_
        refine pn_seq ?_
        refine sR ?_
        refine fL rfl (api_ExprNode.g_Op e0) rfl rfl ?_
        refine rd_op (ov_load0 (k := 2) f4 rfl rfl (TR.agg expr_value.t i2)) ?_
        refine rd_op (ov_load0 (k := 0) f4 rfl rfl (TR.agg expr_value.t h9)) ?_
        obtain ⟨t4, n8, hres⟩ := let_ex hres
        obtain ⟨h8, p3, i5⟩ := f291_ok (x0 := (ix x0.nodes x0.next).Op) i2 h9 
        rw [n8] at i5
        refine cL p3 rfl rfl (clL_cons rfl (clL_cons (TR.clo expr_value.t i2) (clL_cons (TR.clo expr_value.t h9) clL_nil))) ?_
        refine rd_storeO (k := 3) (v := h8) f4 rfl rfl rfl (TR.cnt expr_value.t i5) (fun n2 h5 => ?_)
        replace h5 : Mem n2 (⟨.op k6 k5 0, 301, 2, [i4]⟩ :: ⟨.op b7 b8 0, 299, 17, [d9]⟩ :: ⟨.op f6 g6 0, 301, 2, [e9]⟩ :: ⟨.op b6 b5 0, 301, 2, [h8]⟩ :: R_) := h5
        refine nS ?_
        have m6 : Mem n2 (⟨.op b7 b8 0, 299, 17, [d9]⟩ :: ⟨.op k6 k5 0, 301, 2, [i4]⟩ :: ⟨.op f6 g6 0, 301, 2, [e9]⟩ :: ⟨.op b6 b5 0, 301, 2, [h8]⟩ :: R_) := (Mem.front (k := 1) h5 rfl)
        subst hres
        exact rc_retX (.cell rfl (load_whole (k := 3) h5 rfl (TR.agg expr_value.t i5)) .nil) ⟨d9, h8, Mem.sub m6 (.cons_cons _ (.cons _ (.cons _ (.cons _ (List.Sublist.refl R_))))), h4, rfl, i5⟩
      · refine rc_skip ?_
        refine pn_blk ?_
        refine pn_seq ?_
        refine rc_seq ?_
        refine rc_regionS ?_
        refine rs_step ?_
        refine mV rfl ?_
        refine rs_back ?_
        have r0 : Mem f5 (⟨.op b7 b8 0, 299, 17, [.agg [vs x0.scope.Program.Name, a6, a8, b4, b2, a9, b3, b1, a7, b0, a0, a4, a5, a3, a1, a2, vi (wr (x0.next + 1))]]⟩ :: ⟨.op b6 b5 0, 301, 2, [.agg [vu32 0#32, vi 0]]⟩ :: R_) := (Mem.front (k := 1) f0 rfl)
        obtain ⟨n3, o3, hres⟩ := let_ex hres
        obtain ⟨r8, s6, m4, j3⟩ := ihR (z0 := ({ scope := x0.scope, env := x0.env, args := x0.args, nodes := x0.nodes, next := (wr (x0.next + 1)) } : expr_machine)) (show expr_machine.t.R ({ scope := x0.scope, env := x0.env, args := x0.args, nodes := x0.nodes, next := (wr (x0.next + 1)) } : expr_machine) (.agg [vs x0.scope.Program.Name, a6, a8, b4, b2, a9, b3, b1, a7, b0, a0, a4, a5, a3, a1, a2, vi (wr (x0.next + 1))]) from ⟨a6, a8, b4, b2, a9, b3, b1, a7, b0, a0, a4, a5, a3, a1, a2, rfl, d4, d3, c8, d5, d2, c7, d0, d1, c9, c5, c1, c4, c0, c3, c2⟩) r0 (by first | exact ev1 hv (by assumption) (by assumption) | exact ev2 hv (by assumption) (by assumption) (by assumption) hrec (by assumption) | exact ev3 hv (by assumption) (by assumption) (by assumption) (by assumption) hrec (by assumption) (by assumption)) (by rw [hmu]; first | exact dv1 hv (by assumption) (by assumption) | exact dv2 hv (by assumption) (by assumption) (by assumption) hrec (by assumption) | exact dv3 hv (by assumption) (by assumption) (by assumption) (by assumption) hrec (by assumption) (by assumption))
        rw [o3] at j3
        obtain ⟨g3, d6, o6, i1, f9, o2⟩ := j3
        replace f9 := f9.symm; subst f9
        refine rs_callXc rfl rfl m4 ?_
        refine rs_step ?_
        refine rd_allocO (x := .agg [vu32 0#32, vi 0]) o6 rfl rfl (fun e1 d8 t1 p2 => ?_)
        refine rs_back ?_
        refine rs_step ?_
        refine rd_storeO (k := 0) (v := d6) p2 rfl rfl rfl (TR.cnt expr_value.t o2) (fun m8 k0 => ?_)
        replace k0 : Mem m8 (⟨.op e1 d8 0, 301, 2, [d6]⟩ :: ⟨.op b7 b8 0, 299, 17, [g3]⟩ :: ⟨.op b6 b5 0, 301, 2, [.agg [vu32 0#32, vi 0]]⟩ :: R_) := k0
        refine rs_back ?_
        refine rs_nil ?_
        refine pn_seq ?_
        refine rc_seq ?_
        refine rc_regionS ?_
        refine rs_step ?_
        refine mV rfl ?_
        refine rs_back ?_
        have q0 : Mem m8 (⟨.op b7 b8 0, 299, 17, [g3]⟩ :: ⟨.op e1 d8 0, 301, 2, [d6]⟩ :: ⟨.op b6 b5 0, 301, 2, [.agg [vu32 0#32, vi 0]]⟩ :: R_) := (Mem.front (k := 1) k0 rfl)
        obtain ⟨r6, m7, hres⟩ := let_ex hres
        obtain ⟨s0, u0, l8, j4⟩ := ihR (z0 := n3.2) i1 q0 (by first | exact ev1 hv (by assumption) (by assumption) | exact ev2 hv (by assumption) (by assumption) (by assumption) hrec (by assumption) | exact ev3 hv (by assumption) (by assumption) (by assumption) (by assumption) hrec (by assumption) (by assumption)) (by rw [hmu]; first | exact dv1 hv (by assumption) (by assumption) | exact dv2 hv (by assumption) (by assumption) (by assumption) hrec (by assumption) | exact dv3 hv (by assumption) (by assumption) (by assumption) (by assumption) hrec (by assumption) (by assumption))
        rw [m7] at j4
        obtain ⟨g7, c6, q8, h0, g8, f2⟩ := j4
        replace g8 := g8.symm; subst g8
        refine rs_callXc rfl rfl l8 ?_
        refine rs_step ?_
        refine rd_allocO (x := .agg [vu32 0#32, vi 0]) q8 rfl rfl (fun e2 e3 t3 q2 => ?_)
        refine rs_back ?_
        refine rs_step ?_
        refine rd_storeO (k := 0) (v := c6) q2 rfl rfl rfl (TR.cnt expr_value.t f2) (fun l5 j7 => ?_)
        replace j7 : Mem l5 (⟨.op e2 e3 0, 301, 2, [c6]⟩ :: ⟨.op b7 b8 0, 299, 17, [g7]⟩ :: ⟨.op e1 d8 0, 301, 2, [d6]⟩ :: ⟨.op b6 b5 0, 301, 2, [.agg [vu32 0#32, vi 0]]⟩ :: R_) := j7
        refine rs_back ?_
        refine rs_nil ?_
        refine pn_seq ?_
        refine rc_seq ?_
        refine rc_regionS ?_
        refine rs_step ?_
        refine mV rfl ?_
        refine rs_back ?_
        have o9 : Mem l5 (⟨.op b7 b8 0, 299, 17, [g7]⟩ :: ⟨.op e2 e3 0, 301, 2, [c6]⟩ :: ⟨.op e1 d8 0, 301, 2, [d6]⟩ :: ⟨.op b6 b5 0, 301, 2, [.agg [vu32 0#32, vi 0]]⟩ :: R_) := (Mem.front (k := 1) j7 rfl)
        obtain ⟨s8, n0, hres⟩ := let_ex hres
        obtain ⟨r9, t2, l1, j5⟩ := ihR (z0 := r6.2) h0 o9 (by first | exact ev1 hv (by assumption) (by assumption) | exact ev2 hv (by assumption) (by assumption) (by assumption) hrec (by assumption) | exact ev3 hv (by assumption) (by assumption) (by assumption) (by assumption) hrec (by assumption) (by assumption)) (by rw [hmu]; first | exact dv1 hv (by assumption) (by assumption) | exact dv2 hv (by assumption) (by assumption) (by assumption) hrec (by assumption) | exact dv3 hv (by assumption) (by assumption) (by assumption) (by assumption) hrec (by assumption) (by assumption))
        rw [n0] at j5
        obtain ⟨b9, d7, p7, e7, g1, g9⟩ := j5
        replace g1 := g1.symm; subst g1
        refine rs_callXc rfl rfl l1 ?_
        refine rs_step ?_
        refine rd_allocO (x := .agg [vu32 0#32, vi 0]) p7 rfl rfl (fun f8 g4 t7 r2 => ?_)
        refine rs_back ?_
        refine rs_step ?_
        refine rd_storeO (k := 0) (v := d7) r2 rfl rfl rfl (TR.cnt expr_value.t g9) (fun p9 e6 => ?_)
        replace e6 : Mem p9 (⟨.op f8 g4 0, 301, 2, [d7]⟩ :: ⟨.op b7 b8 0, 299, 17, [b9]⟩ :: ⟨.op e2 e3 0, 301, 2, [c6]⟩ :: ⟨.op e1 d8 0, 301, 2, [d6]⟩ :: ⟨.op b6 b5 0, 301, 2, [.agg [vu32 0#32, vi 0]]⟩ :: R_) := e6
        refine rs_back ?_
        refine rs_nil ?_
        refine pn_seq ?_
        refine rc_seq ?_
        refine sR ?_
        refine rd_op (ov_faddrO rfl) ?_
        refine rd_op (ov_loadf (k := 3) e6 rfl rfl (expr_value.g_v o2)) ?_
        refine rd_op (ov_bin (a := vu32 n3.1.v) (b := vu32 1#32) rfl rfl w_eql) ?_
        refine nS ?_
        refine rc_br hres rfl ?_ ?_ <;> clear hres <;> intro c hres <;> try simp only [qa, qaD] at c
        · refine sR ?_
          refine rd_op (ov_load0 (k := 2) e6 rfl rfl (TR.agg expr_value.t f2)) ?_
          refine rd_storeO (k := 4) (v := c6) e6 rfl rfl rfl (TR.cnt expr_value.t f2) (fun l7 h7 => ?_)
          replace h7 : Mem l7 (⟨.op f8 g4 0, 301, 2, [d7]⟩ :: ⟨.op b7 b8 0, 299, 17, [b9]⟩ :: ⟨.op e2 e3 0, 301, 2, [c6]⟩ :: ⟨.op e1 d8 0, 301, 2, [d6]⟩ :: ⟨.op b6 b5 0, 301, 2, [c6]⟩ :: R_) := h7
          refine nS ?_
          have n9 : Mem l7 (⟨.op b7 b8 0, 299, 17, [b9]⟩ :: ⟨.op f8 g4 0, 301, 2, [d7]⟩ :: ⟨.op e2 e3 0, 301, 2, [c6]⟩ :: ⟨.op e1 d8 0, 301, 2, [d6]⟩ :: ⟨.op b6 b5 0, 301, 2, [c6]⟩ :: R_) := (Mem.front (k := 1) h7 rfl)
          subst hres
          exact rc_retX (.cell rfl (load_whole (k := 4) h7 rfl (TR.agg expr_value.t f2)) .nil) ⟨b9, c6, Mem.sub n9 (.cons_cons _ (.cons _ (.cons _ (.cons _ (.cons _ (List.Sublist.refl R_)))))), e7, rfl, f2⟩
        · refine rc_skip ?_
          refine pn_seq ?_
          refine sR ?_
          refine rd_op (ov_load0 (k := 0) e6 rfl rfl (TR.agg expr_value.t g9)) ?_
          refine rd_storeO (k := 4) (v := d7) e6 rfl rfl rfl (TR.cnt expr_value.t g9) (fun o1 h1 => ?_)
          replace h1 : Mem o1 (⟨.op f8 g4 0, 301, 2, [d7]⟩ :: ⟨.op b7 b8 0, 299, 17, [b9]⟩ :: ⟨.op e2 e3 0, 301, 2, [c6]⟩ :: ⟨.op e1 d8 0, 301, 2, [d6]⟩ :: ⟨.op b6 b5 0, 301, 2, [d7]⟩ :: R_) := h1
          refine nS ?_
          have k9 : Mem o1 (⟨.op b7 b8 0, 299, 17, [b9]⟩ :: ⟨.op f8 g4 0, 301, 2, [d7]⟩ :: ⟨.op e2 e3 0, 301, 2, [c6]⟩ :: ⟨.op e1 d8 0, 301, 2, [d6]⟩ :: ⟨.op b6 b5 0, 301, 2, [d7]⟩ :: R_) := (Mem.front (k := 1) h1 rfl)
          subst hres
          exact rc_retX (.cell rfl (load_whole (k := 4) h1 rfl (TR.agg expr_value.t g9)) .nil) ⟨b9, d7, Mem.sub k9 (.cons_cons _ (.cons _ (.cons _ (.cons _ (.cons _ (List.Sublist.refl R_)))))), e7, rfl, g9⟩
theorem f273_okR : ∀ (n_ : Nat) {x0 : expr_machine} {a3 : PV} {R_ : List Ent} {h_ : Heap} {a2 a1 : Nat} (a0 : expr_machine.t.R x0 a3) (M_ : Mem h_ (⟨.op a2 a1 0, 299, 17, [a3]⟩ :: R_)) (hv : VE x0), x0.nodes.length - x0.next.toNat < n_ → ∃ r a4, FnX Tryz.prog 273 [.op a2 a1 0] h_ r a4 ∧ RF273 a2 a1 R_ (m2_expr_machine__eval_R n_ x0) r a4 := by
  intro n_
  induction n_ with
  | zero => intros; rename_i hlt; exact absurd hlt (Nat.not_lt_zero _)
  | succ n_ ihn =>
    intro x0 a3 R_ h_ a2 a1 a0 M_ hv hlt
    have e_ : m2_expr_machine__eval_R (n_ + 1) x0 = m2_expr_machine__eval_B (m2_expr_machine__eval_R n_) x0 := by rw [m2_expr_machine__eval_R]
    rw [e_]
    exact f273_okB a0 M_ hv rfl (eval_next n_) (fun {z0} {a3} {R_} {h_} {a2} {a1} a0 M_ hv hz => ihn a0 M_ hv (by omega))
theorem f273_ok {x0 : expr_machine} {a4 : PV} {R_ : List Ent} {h_ : Heap} {a2 a1 : Nat} (a0 : expr_machine.t.R x0 a4) (M_ : Mem h_ (⟨.op a2 a1 0, 299, 17, [a4]⟩ :: R_)) (hv : VE x0) : ∃ r a3, FnX Tryz.prog 273 [.op a2 a1 0] h_ r a3 ∧ RF273 a2 a1 R_ (m2_expr_machine__eval x0) r a3 := f273_okR _ a0 M_ hv (Nat.lt_succ_self _)

def RF228 (res : (BitVec 32)) (r : PV) : Prop := r = vu32 res
theorem f228_ok {x0 : List api_ExprNode} {x1 : expr_Scope} {x2 : api_Env} {x3 : List (BitVec 32)} {v0 v1 v2 v3 : PV} (r0 : (tSl api_ExprNode.t).R x0 v0) (r1 : expr_Scope.t.R x1 v1) (r2 : api_Env.t.R x2 v2) (r3 : (tSl tU32).R x3 v3) : FnR Tryz.prog 228 [v0, v1, v2, v3] (vu32 (expr_Eval x0 x1 x2 x3)) := by
  refine fnS (R := RF228) text228 (fun _ h => h) rfl fun res hres => ?_
  unfold expr_Eval at hres
  refine sR ?_
  refine rd_op (ov_box rfl (TR.cnt expr_Scope.t r1)) ?_
  refine rd_op (ov_box rfl (TR.cnt api_Env.t r2)) ?_
  refine rd_op (v := vu32 0#32) (ov_move rfl) ?_
  refine nS ?_
  refine rc_seq ?_
  refine sR ?_
  refine mV rfl ?_
  refine lD r1 rfl rfl rfl ?_
  obtain ⟨e8, d5, hres⟩ := let_ex hres
  have d2 := f174_ok  r0 r1 
  rw [d5] at d2
  refine cL d2 rfl rfl (clL_cons (TR.clo (tSl api_ExprNode.t) r0) (clL_cons (TR.clo expr_Scope.t r1) clL_nil)) ?_
  refine mV rfl ?_
  refine xT rfl rfl ?_
  refine xT rfl rfl ?_
  refine mV rfl ?_
  refine mV rfl ?_
  refine nR ?_
  refine mV rfl ?_
  refine bN i_neq rfl rfl ?_
  refine nS ?_
  refine rc_br hres rfl ?_ ?_ <;> clear hres <;> intro c hres <;> try simp only [qa, qaD] at c
  · refine sR ?_
    refine rd_op (v := vu32 0#32) (ov_move rfl) ?_
    refine nS ?_
    exact rR hres rfl rfl rfl
  · refine rc_skip ?_
    refine pn_seq ?_
    refine sR ?_
    refine lD r1 rfl rfl rfl ?_
    refine lD r2 rfl rfl rfl ?_
    refine mV rfl ?_
    refine mV rfl ?_
    obtain ⟨a1, b2, a9, a2, a6, b0, a4, a3, a5, d9, c3, b7, b8, c5, b4, c1, b9, c0, c2⟩ := r1
    subst d9
    obtain ⟨a8, a0, a7, b1, d8, c4, b5, b6, c6⟩ := r2
    subst d8
    refine rd_op (v := .agg [vs x1.Program.Name, a1, b2, a9, a2, a6, b0, a4, a3, a5, a8, a0, a7, b1, v3, v0, vi 0]) (ov_build (cs := [vs x1.Program.Name, a1, b2, a9, a2, a6, b0, a4, a3, a5, a8, a0, a7, b1, v3, v0, vi 0]) rfl (by simp only [buildV, cells_one (TR.cnt (tSl tU32) r3) (TR.agg (tSl tU32) r3), cells_one (TR.cnt (tSl api_ExprNode.t) r0) (TR.agg (tSl api_ExprNode.t) r0)]; rfl)) ?_
    refine rd_allocO (x := .agg [vs [], nilS, nilS, nilS, nilS, nilS, nilS, nilS, nilS, nilS, nilS, nilS, nilS, nilS, nilS, nilS, vi 0]) (Mem.nil ⟨0, []⟩) rfl rfl (fun d3 c9 e7 d7 => ?_)
    refine rd_storeO (k := 0) (v := .agg [vs x1.Program.Name, a1, b2, a9, a2, a6, b0, a4, a3, a5, a8, a0, a7, b1, v3, v0, vi 0]) d7 rfl rfl rfl rfl (fun d1 c8 => ?_)
    replace c8 : Mem d1 [⟨.op d3 c9 0, 299, 17, [.agg [vs x1.Program.Name, a1, b2, a9, a2, a6, b0, a4, a3, a5, a8, a0, a7, b1, v3, v0, vi 0]]⟩] := c8
    refine nS ?_
    refine rc_seq ?_
    refine rc_regionS ?_
    have e1 : Mem d1 [⟨.op d3 c9 0, 299, 17, [.agg [vs x1.Program.Name, a1, b2, a9, a2, a6, b0, a4, a3, a5, a8, a0, a7, b1, v3, v0, vi 0]]⟩] := (Mem.front (k := 0) c8 rfl)
    obtain ⟨e5, d4, hres⟩ := let_ex hres
    obtain ⟨e3, e6, d0, c7⟩ := f273_ok (x0 := ({ scope := x1, env := x2, args := x3, nodes := x0, next := 0 } : expr_machine)) (show expr_machine.t.R ({ scope := x1, env := x2, args := x3, nodes := x0, next := 0 } : expr_machine) (.agg [vs x1.Program.Name, a1, b2, a9, a2, a6, b0, a4, a3, a5, a8, a0, a7, b1, v3, v0, vi 0]) from ⟨a1, b2, a9, a2, a6, b0, a4, a3, a5, a8, a0, a7, b1, v3, v0, rfl, c3, b7, b8, c5, b4, c1, b9, c0, c2, c4, b5, b6, c6, r3, r0⟩) e1 (by exact ev0 (by assumption) (by assumption) _ _)
    rw [d4] at c7
    obtain ⟨e0, e4, e9, d6, b3, e2⟩ := c7
    replace b3 := b3.symm; subst b3
    refine rs_callXc rfl rfl d0 ?_
    refine rs_step ?_
    refine rd_op (ov_field rfl (expr_value.g_v e2)) ?_
    refine rs_back ?_
    refine rs_step ?_
    refine mV rfl ?_
    refine rs_back ?_
    refine rs_nil ?_
    refine pn_seq ?_
    exact rR hres rfl rfl rfl

def RF189 (res : (BitVec 32)) (r : PV) : Prop := r = vu32 res
theorem f189_ok {x0 : action_state} {x1 : List api_ExprNode} {v0 v1 : PV} (r0 : action_state.t.R x0 v0) (r1 : (tSl api_ExprNode.t).R x1 v1) : FnR Tryz.prog 189 [.fp v0, v1] (vu32 (m2_action_state__eval x0 x1)) := by
  refine fnS (R := RF189) text189 (fun _ h => h) rfl fun res hres => ?_
  unfold m2_action_state__eval at hres
  refine sR ?_
  refine rd_op (v := vu32 0#32) (ov_move rfl) ?_
  refine nR ?_
  refine mV rfl ?_
  refine mV rfl ?_
  refine rd_op (ov_nilCheck rfl rfl) ?_
  obtain ⟨a8, a7, a1⟩ := action_state.g_scope r0
  refine fA rfl a7 ?_
  refine lD a1 rfl rfl rfl ?_
  refine mV rfl ?_
  refine rd_op (ov_nilCheck rfl rfl) ?_
  obtain ⟨b0, a5, a2⟩ := action_state.g_env r0
  refine fA rfl a5 ?_
  refine lD a2 rfl rfl rfl ?_
  refine mV rfl ?_
  refine rd_op (ov_nilCheck rfl rfl) ?_
  obtain ⟨b1, a6, a0⟩ := action_state.g_args r0
  refine fA rfl a6 ?_
  refine lD a0 rfl rfl rfl ?_
  obtain ⟨a9, a3, hres⟩ := let_ex hres
  have a4 := f228_ok  r1 a1 a2 a0 
  rw [a3] at a4
  refine cL a4 rfl rfl (clL_cons (TR.clo (tSl api_ExprNode.t) r1) (clL_cons (TR.clo expr_Scope.t a1) (clL_cons (TR.clo api_Env.t a2) (clL_cons (TR.clo (tSl tU32) a0) clL_nil)))) ?_
  refine mV rfl ?_
  refine nS ?_
  exact rR hres rfl rfl rfl

def RF118 (i0_ w0_ : Nat) (R_ : List Ent) (res : action_state) (r : PV) (h : Heap) : Prop := ∃ uF0 : PV, Mem h (⟨.op i0_ w0_ 0, 171, 16, [uF0]⟩ :: R_) ∧ (action_state.t.R res uF0) ∧ r = .tup []
theorem f118_ok {x0 : action_state} {x1 : api_Statement} {v1 g3 : PV} {R_ : List Ent} {h_ : Heap} {d2 d3 : Nat} (r1 : api_Statement.t.R x1 v1) (b6 : action_state.t.R x0 g3) (M_ : Mem h_ (⟨.op d2 d3 0, 171, 16, [g3]⟩ :: R_)) (hE : EB x0.env) : ∃ r g2, FnX Tryz.prog 118 [.op d2 d3 0, v1] h_ r g2 ∧ RF118 d2 d3 R_ (m2_action_state__assign x0 x1) r g2 := by
  refine fnXX (R := RF118 d2 d3 R_) text118 rfl fun res hres => ?_
  unfold m2_action_state__assign at hres
  refine sR ?_
  refine rd_op (ov_box rfl (TR.cnt api_Statement.t r1)) ?_
  refine nS ?_
  refine rc_region ?_
  refine mV rfl ?_
  refine mV rfl ?_
  refine rd_op (ov_nilCheck rfl rfl) ?_
  refine rd_op (ov_faddrO rfl) ?_
  refine rd_op (ov_faddrO rfl) ?_
  obtain ⟨g9, g1, f9⟩ := action_state.g_scope b6
  obtain ⟨g6, f3, d8⟩ := expr_Scope.g_Program f9
  refine rd_op (ov_loadf (k := 0) M_ rfl rfl (field_field g1 f3)) ?_
  refine mV rfl ?_
  refine rd_op (ov_nilCheck rfl rfl) ?_
  refine rd_op (ov_faddrO rfl) ?_
  obtain ⟨g4, f6, d9⟩ := action_state.g_env b6
  refine rd_op (ov_loadf (k := 0) M_ rfl rfl f6) ?_
  refine gL (api_Statement.g_Dst r1) rfl rfl rfl fun g8 e7 => ?_
  refine mV rfl ?_
  refine gL (api_Statement.g_Value r1) rfl rfl rfl fun g5 f0 => ?_
  have f7 := own_ptr (P := Tryz.prog) (k := 0) M_ rfl (TR.clo action_state.t b6)
  obtain ⟨f5, e8, hres⟩ := let_ex hres
  have e5 := f189_ok  b6 f0 
  rw [e8] at e5
  refine rd_call (cv_lend rfl rfl (dl_cons f7 (dl_cons (deep_closed (TR.clo (tSl api_ExprNode.t) f0)) dl_nil)) e5 rfl) ?_
  obtain ⟨f8, d7, hres⟩ := let_ex hres
  obtain ⟨g7, f2, e4⟩ := f188_ok (x3 := f5) d8 d9 e7 (by first | assumption | omega | (rw [wr_of (by omega) (by omega)]; omega) | (have hk := rval rfl (And.right (And.left (by assumption))); omega) | (have hk := rval (by assumption) (by assumption); omega) | (have hk := rval (by assumption) (And.left (by assumption)); omega) | (have hk := rval (by assumption) (And.left (And.left (by assumption))); have hz := rslc (by assumption); omega) | (simp; done) | (simp only [List.length_append, List.length_nil, List.length_cons]; omega) | (have hk := (chk_ok (by assumption) (by assumption)).1; omega) | (simp only [List.length_cons, List.length_nil]; omega) | (simp only [List.length_append]; have hk := (chk_ok (by assumption) (by assumption)).1; omega) | (simp only [List.length_append, List.length_nil]; have hk := (chk_ok (by assumption) (by assumption)).1; omega))
  rw [d7] at e4
  refine cL f2 rfl rfl (clL_cons (TR.clo api_Program.t d8) (clL_cons (TR.clo api_Env.t d9) (clL_cons (TR.clo api_FieldRef.t e7) (clL_cons rfl clL_nil)))) ?_
  refine rd_op (ov_nilCheck rfl rfl) ?_
  refine rd_op (ov_faddrO rfl) ?_
  obtain ⟨a9, b4, a6, a7, a8, b0, b3, b1, b2, a0, e9, e3, e1, f1, a1, f4, c1, b9, c3, c0, c4, d0, c5, c8, c6, b5, d5, d6, e2, e6, b7⟩ := b6
  subst f4
  obtain ⟨a2, a3, a4, a5, g0, c2, c9, b8, c7⟩ := e4
  subst g0
  refine rd_storeF (k := 0) (v := .agg [a2, a3, a4, a5]) M_ rfl rfl rfl rfl rfl (by first | decide | (simp only [List.length_cons, List.length_nil]; omega) | simp) (fun e0 d1 => ?_)
  replace d1 : Mem e0 (⟨.op d2 d3 0, 171, 16, [.agg [vs x0.scope.Program.Name, a9, b4, a6, a7, a8, b0, b3, b1, b2, a0, a2, a3, a4, a5, a1]]⟩ :: R_) := d1
  refine rd_nil ?_
  have d4 : Mem e0 (⟨.op d2 d3 0, 171, 16, [.agg [vs x0.scope.Program.Name, a9, b4, a6, a7, a8, b0, b3, b1, b2, a0, a2, a3, a4, a5, a1]]⟩ :: R_) := (Mem.front (k := 0) d1 rfl)
  subst hres
  exact pn_endX .nil ⟨(.agg [vs x0.scope.Program.Name, a9, b4, a6, a7, a8, b0, b3, b1, b2, a0, a2, a3, a4, a5, a1]), Mem.sub d4 (.cons_cons _ (List.Sublist.refl R_)), (show action_state.t.R ({ scope := x0.scope, args := x0.args, env := f8, regs := x0.regs } : action_state) (.agg [vs x0.scope.Program.Name, a9, b4, a6, a7, a8, b0, b3, b1, b2, a0, a2, a3, a4, a5, a1]) from ⟨a9, b4, a6, a7, a8, b0, b3, b1, b2, a0, a2, a3, a4, a5, a1, rfl, c1, b9, c3, c0, c4, d0, c5, c8, c6, b5, c2, c9, b8, c7, b7⟩), rfl⟩

def RF274 (res : Bool) (r : PV) : Prop := r = vb res
theorem f274_ok {x0 : List api_Header} {x1 : Int} {v0 : PV} (r0 : (tSl api_Header.t).R x0 v0) : FnR Tryz.prog 274 [v0, vi x1] (vb (env_in_api_Header x0 x1)) := by
  refine fnS (R := RF274) text274 (fun _ h => h) rfl fun res hres => ?_
  unfold env_in_api_Header at hres
  refine sR ?_
  refine mB rfl ?_
  refine nR ?_
  refine mV rfl ?_
  refine bN i_geq rfl rfl ?_
  refine mV rfl ?_
  refine rd_cutn 5 (d := 12) (v := vb ((decide (0 ≤ x1)) && (decide (x1 < (x0.length : Int))))) ?_ ?_
  · intro S Q r
    cases a1 : (decide (0 ≤ x1))
    · exact gN 4 rfl rfl rfl rfl rfl rfl
    · intro k
      have a0 := a1
      try simp only [qa, qaD] at a0
      refine rd_yes rfl rfl (ov_move rfl) ?_
      refine rd_yes rfl rfl (ov_move rfl) ?_
      refine rd_yes rfl rfl (ov_bi rfl (sl_len r0 Tryz.underlying22 _)) ?_
      refine rd_yes rfl rfl (ov_bin rfl rfl i_lss) ?_
      exact gK rfl rfl rfl rfl rfl k
  refine mV rfl ?_
  refine nS ?_
  exact rR hres rfl rfl rfl

def RF275 (res : Bool) (r : PV) : Prop := r = vb res
theorem f275_ok {x0 : List Bool} {x1 : Int} {v0 : PV} (r0 : (tSl tB).R x0 v0) : FnR Tryz.prog 275 [v0, vi x1] (vb (env_in_bool x0 x1)) := by
  refine fnS (R := RF275) text275 (fun _ h => h) rfl fun res hres => ?_
  unfold env_in_bool at hres
  refine sR ?_
  refine mB rfl ?_
  refine nR ?_
  refine mV rfl ?_
  refine bN i_geq rfl rfl ?_
  refine mV rfl ?_
  refine rd_cutn 5 (d := 12) (v := vb ((decide (0 ≤ x1)) && (decide (x1 < (x0.length : Int))))) ?_ ?_
  · intro S Q r
    cases a1 : (decide (0 ≤ x1))
    · exact gN 4 rfl rfl rfl rfl rfl rfl
    · intro k
      have a0 := a1
      try simp only [qa, qaD] at a0
      refine rd_yes rfl rfl (ov_move rfl) ?_
      refine rd_yes rfl rfl (ov_move rfl) ?_
      refine rd_yes rfl rfl (ov_bi rfl (sl_len r0 Tryz.underlying41 _)) ?_
      refine rd_yes rfl rfl (ov_bin rfl rfl i_lss) ?_
      exact gK rfl rfl rfl rfl rfl k
  refine mV rfl ?_
  refine nS ?_
  exact rR hres rfl rfl rfl

theorem rd_clr1 {P : Program} {S : List Fr} {Q : Post} {E : TEnv} {h : Heap} {L : List Ent} {k : Nat} {ty : TypeId} {v zz : PV} {es : List PV} {z : Value} {x : Operand} {r : List AOper} {hf : Bool} (M : Mem h L) (ex : evE E x = some v) (hk : L[k]? = some ⟨v, ty, 1, es⟩) (hne : isL v = true) (hw : Wri v es) (hz : z.cells.toList.map PV.sc = [zz]) (hzc : zz.cellsOf = some [zz]) (hzn : cnt zz = some 1)
    (K : ∀ h', Mem h' (L.set k ⟨v, ty, 1, List.replicate es.length zz⟩) → RD P r S Q E h') : RD P (⟨none, .clr 1 z x, none, hf⟩ :: r) S Q E h := by
  obtain ⟨h', lv, M'⟩ := lv_clr1 (P := P) M ex hk hne hw hz hzc hzn
  exact rd_own0 lv (K h' M')
theorem inb_ok {l : List Bool} {i : Int} (h : env_in_bool l i = true) : 0 ≤ i ∧ i < l.length := by
  unfold env_in_bool at h
  simpa using h
theorem f229_ok {x0 : api_Program} {x1 : api_Env} {x2 : Int} {x3 x4 : Bool} {v0 v1 : PV} (r0 : api_Program.t.R x0 v0) (r1 : api_Env.t.R x1 v1) (hE : EB x1) : ∃ r, FnR Tryz.prog 229 [v0, v1, vi x2, vb x3, vb x4] r ∧ api_Env.t.R (env_switched x0 x1 x2 x3 x4) r := by
  refine fnE text229 (by simp) ?_
  refine rc_seq (rc_region ?_)
  refine rd_op (ov_box rfl (TR.cnt api_Program.t r0)) (rd_op (ov_box rfl (TR.cnt api_Env.t r1)) ?_)
  refine rd_allocO (x := .agg [nilS, nilS, nilS, nilS]) (Mem.nil _) rfl rfl (fun i8 w8 h8 M8 => ?_)
  refine rd_nil (pn_seq (rc_seq (rc_regionS ?_)))
  refine rs_step (rd_op (ov_load rfl (TR.cnt api_Env.t r1) (TR.agg api_Env.t r1)) (rs_back ?_))
  obtain ⟨rr, k, X, a, b, c, d, eb, ef, em, ep, I, rfl, H⟩ := f116o_ok r1 hE M8
  refine rs_callXc rfl rfl X ?_
  refine rs_step (rd_allocO (x := .agg [nilS, nilS, nilS, nilS]) H.M rfl rfl (fun i9 w9 h9 M9 => rs_back ?_))
  refine rs_step (rd_storeO (k := 0) (v := .agg [a, b, c, d]) M9 rfl rfl rfl rfl (fun a3 a1 => rs_back (rs_nil ?_)))
  replace H := H.push (g := ⟨.op i9 w9 0, 46, 4, [.agg [a, b, c, d]]⟩) a1
  clear M8 M9 a1 X
  obtain ⟨d0, a2, s0⟩ := own_sl (P := Tryz.prog) (t := tB) H.M (k := 0) rfl H.na H.v (by have := hE.v; omega)
  have g0 : fieldR 0 1 false (.agg [a, b, c, d]) = some a := mk1 (mem_one H.M (k := 0) rfl H.na).2
  have g1 : fieldR 1 1 false (.agg [a, b, c, d]) = some b := mk1 (mem_one H.M (k := 1) rfl H.nb).2
  have Mp := H.pull
  refine pn_seq (rc_seq (rc_seq (rc_region ?_)))
  refine gL (api_Program.g_Headers r0) rfl rfl rfl (fun vh rh => mV rfl ?_)
  refine cL (f274_ok (x1 := x2) rh) rfl rfl (clL_cons (TR.clo _ rh) (clL_cons rfl clL_nil)) ?_
  refine rd_op (ov_not rfl) (mV rfl ?_)
  refine rd_cutn 6 (d := 25) (v := vb (!env_in_api_Header x0.Headers x2 || !env_in_bool x1.Valid x2)) ?_ ?_
  · intro S Q r
    cases hb : env_in_api_Header x0.Headers x2
    · exact gN 5 rfl rfl rfl rfl rfl rfl
    · intro k
      refine rd_yes rfl rfl (ov_faddrO rfl) (rd_yes rfl rfl (ov_loadf (k := 0) Mp rfl rfl g0) (rd_yes rfl rfl (ov_move rfl) ?_))
      refine rd_ycall rfl rfl (cv_lend rfl rfl (dl_cons a2 (dl_cons (deep_closed rfl) dl_nil)) (f275_ok (x1 := x2) s0) rfl) ?_
      refine rd_yes rfl rfl (ov_not rfl) ?_
      exact gK rfl rfl rfl rfl rfl k
  refine mV rfl ?_
  refine rd_cutn 11 (d := 37) (v := vb ((!env_in_api_Header x0.Headers x2 || !env_in_bool x1.Valid x2) || (x4 && decide (ix x1.Valid x2 = x3)))) ?_ ?_
  · intro S Q r
    cases a0 : (!env_in_api_Header x0.Headers x2 || !env_in_bool x1.Valid x2)
    · intro k
      simp only [Bool.or_eq_false_iff, Bool.not_eq_false'] at a0
      have hi := inb_ok a0.2
      refine rd_yes rfl rfl (ov_move rfl) (rd_yes rfl rfl (ov_move rfl) ?_)
      cases x4
      · refine skips 7 rfl (rd_yes rfl rfl (ov_pick rfl rfl rfl rfl) ?_)
        exact gK rfl rfl rfl rfl rfl k
      · obtain ⟨xx, he, rx⟩ := elem_at (i := x2) H.v hi.1 hi.2
        have rx : xx = vb (ix x1.Valid x2) := rx
        subst rx
        obtain ⟨id, ver, n, rfl⟩ := wri_os H.wa H.v hi.1 hi.2
        have hn := mem_osn H.M (k := 0) rfl
        have hl := H.v.length
        refine rd_yes rfl rfl (ov_faddrO rfl) (rd_yes rfl rfl (ov_loadf (k := 0) Mp rfl rfl g0) (rd_yes rfl rfl (ov_move rfl) ?_))
        refine rd_yes rfl rfl (ov_iaddr rfl rfl (n_idx 1 (i := x2) hi.1 (by omega))) (rd_yes rfl rfl (ov_elem (k := 1) Mp rfl rfl he rfl) (rd_yes rfl rfl (ov_move rfl) ?_))
        refine rd_yes rfl rfl (ov_bin rfl rfl (bin_eqlb (by rw [Tryz.underlying4]; rfl))) (rd_yes rfl rfl (ov_pick rfl rfl rfl rfl) ?_)
        exact gK rfl rfl rfl rfl rfl k
    · exact gN 10 rfl rfl rfl rfl rfl rfl
  refine rd_nil (pn_seq (rc_seq (rc_cond rfl (fun hc => ?_) fun hc => ?_)))
  · have hs : env_switched x0 x1 x2 x3 x4 = x1 := by unfold env_switched; rw [if_pos hc]
    rw [hs]
    exact ret_env H hE rfl rfl rfl
  · have hs : env_switched x0 x1 x2 x3 x4 = swE x1 x2 x3 := by unfold env_switched; rw [if_neg (by rw [hc]; simp)]
    rw [hs]
    simp only [Bool.or_eq_false_iff, Bool.not_eq_false'] at hc
    have hi := inb_ok hc.1.2
    obtain ⟨id, ver, n, rfl⟩ := wri_os H.wa H.v hi.1 hi.2
    have hn := mem_osn H.M (k := 0) rfl
    have hl := H.v.length
    refine rc_skip (pn_seq (rc_seq (rc_region ?_)))
    refine rd_op (ov_faddrO rfl) (rd_op (ov_loadf (k := 0) Mp rfl rfl g0) (mV rfl (mV rfl ?_)))
    refine rd_op (ov_iaddr rfl rfl (n_idx 1 (i := x2) hi.1 (by omega))) ?_
    refine rd_setO (k := 0) (i := x2.toNat) H.M rfl rfl rfl (by omega) rfl (fun h' M' => ?_)
    replace H := H.setV M' ⟨_, _, _, rfl⟩
    replace hE := hE.setV (k := x2.toNat) (v := x3)
    clear M' Mp
    have Mp := H.pull
    refine rd_nil (pn_seq (rc_seq (rc_regionS ?_)))
    refine rs_step (rd_op (ov_faddrO rfl) (rs_back (rs_step (rd_op (ov_loadf (k := 0) Mp rfl rfl g1) (rs_back (rs_step (rd_op (ov_move rfl) (rs_back ?_))))))))
    refine rs_callXc rfl rfl (f271o H.M (k := 1) rfl H.nb H.wb H.aggs (i := x2)) ?_
    have hlf := H.f.len.1
    by_cases hf : x2 < (ef.length : Int)
    · obtain ⟨v, es, e1, e2, e3, e4, e5, e6, e7⟩ := H.inner (i := x2) hi.1 (by omega)
      have ev : (if 0 ≤ x2 ∧ x2 < (ef.length : Int) then ef.getD x2.toNat nilS else nilS) = v := by rw [if_pos ⟨hi.1, hf⟩, List.getD_eq_getElem?_getD, e1]; rfl
      rw [ev]
      refine rs_step (rd_clr1 (zz := vu32 0#32) H.M rfl e3 e5 e7 rfl rfl rfl (fun h2 M2 => rs_back (rs_nil ?_)))
      exact pn_seq (ret_env (H.clrF e1 e2 e4 e5 e6 e7 M2) (hE.setF (by rw [List.length_replicate]; exact hE.i _ (ix_mem hi.1 (by omega)))) rfl rfl rfl)
    · have ev : (if 0 ≤ x2 ∧ x2 < (ef.length : Int) then ef.getD x2.toNat nilS else nilS) = nilS := if_neg (by omega)
      rw [ev]
      refine rs_step (rd_own0 (v := .tup []) (h' := h') ⟨rfl, fun T hT => by simp only [opL, evE_ok hT (show evE ((47, nilS) :: _) (.tmp 47) = some nilS from rfl)]⟩ (rs_back (rs_nil ?_)))
      have es : swE x1 x2 x3 = { x1 with Valid := x1.Valid.set x2.toNat x3 } := by
        have : x1.Fields.set x2.toNat (List.replicate (ix x1.Fields x2).length 0#32) = x1.Fields := List.set_eq_of_length_le (by have hlf : ef.length = x1.Fields.length := hlf; omega)
        unfold swE
        rw [this]
      rw [es]
      exact pn_seq (ret_env H hE rfl rfl rfl)

end Go.Proofs.YtmonnlkagniolaaGreat
