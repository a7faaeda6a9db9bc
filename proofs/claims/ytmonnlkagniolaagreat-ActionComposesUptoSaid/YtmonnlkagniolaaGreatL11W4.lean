/-
  The code of each function does what its plain program says.
-/
import Derived.Test.YtmonnlkagniolaaGreatL11W3
set_option linter.unusedVariables false
set_option linter.unusedSimpArgs false
set_option maxRecDepth 100000
namespace Go.Proofs.YtmonnlkagniolaaGreat
open Go Go.Pb Go.RowKit
def RF295 (res : (BitVec 32)) (r : PV) : Prop := r = vu32 res
theorem f295_ok {x0 : BitVec 32} {x1 : Int} : FnR Tryz.prog 295 [vu32 x0, vi x1] (vu32 (bitvec_Not x0 x1)) := by
  refine fnS (R := RF295) text295 (fun _ h => h) rfl fun res hres => ?_
  unfold bitvec_Not at hres
  refine sR ?_
  refine rd_op (v := vu32 0#32) (ov_move rfl) ?_
  refine nR ?_
  refine mV rfl ?_
  refine rd_op (ov_un (a := vu32 x0) rfl w_not) ?_
  refine mV rfl ?_
  obtain ⟨a2, a1, hres⟩ := let_ex hres
  have a0 := f182_ok (x0 := x1)  
  rw [a1] at a0
  refine cL a0 rfl rfl (clL_cons rfl clL_nil) ?_
  refine rd_op (ov_bin (a := vu32 (~~~x0)) (b := vu32 a2) rfl rfl w_and) ?_
  refine mV rfl ?_
  refine nS ?_
  exact rR hres rfl rfl rfl

def RF296 (res : (BitVec 32)) (r : PV) : Prop := r = vu32 res
theorem f296_ok {x0 : BitVec 32} {x1 x2 : Int} : FnR Tryz.prog 296 [vu32 x0, vi x1, vi x2] (vu32 (bitvec_Shl x0 x1 x2)) := by
  refine fnS (R := RF296) text296 (fun _ h => h) rfl fun res hres => ?_
  unfold bitvec_Shl at hres
  refine sR ?_
  refine rd_op (v := vu32 0#32) (ov_move rfl) ?_
  refine nR ?_
  refine mV rfl ?_
  refine mV rfl ?_
  refine rd_op (ov_bi rfl (max_int _ _)) ?_
  refine rd_op (ov_bin (a := vu32 x0) (b := vi (max x1 0)) rfl rfl (w_shl (by first | omega | exact mask_sh (by assumption) (by assumption) | (rw [wr_of (by omega) (by omega)]; omega) | (have hk := two_sh (by assumption) (And.left (by assumption)); omega)))) ?_
  refine mV rfl ?_
  obtain ⟨a2, a1, hres⟩ := let_ex hres
  have a0 := f182_ok (x0 := x2)  
  rw [a1] at a0
  refine cL a0 rfl rfl (clL_cons rfl clL_nil) ?_
  refine rd_op (ov_bin (a := vu32 (x0 <<< (max x1 0).toNat)) (b := vu32 a2) rfl rfl w_and) ?_
  refine mV rfl ?_
  refine nS ?_
  exact rR hres rfl rfl rfl

def RF297 (res : (BitVec 32)) (r : PV) : Prop := r = vu32 res
theorem f297_ok {x0 : BitVec 32} {x1 x2 : Int} : FnR Tryz.prog 297 [vu32 x0, vi x1, vi x2] (vu32 (bitvec_Shr x0 x1 x2)) := by
  refine fnS (R := RF297) text297 (fun _ h => h) rfl fun res hres => ?_
  unfold bitvec_Shr at hres
  refine sR ?_
  refine rd_op (v := vu32 0#32) (ov_move rfl) ?_
  refine nR ?_
  refine mV rfl ?_
  refine mV rfl ?_
  obtain ⟨a2, a1, hres⟩ := let_ex hres
  have a0 := f182_ok (x0 := x2)  
  rw [a1] at a0
  refine cL a0 rfl rfl (clL_cons rfl clL_nil) ?_
  refine rd_op (ov_bin (a := vu32 x0) (b := vu32 a2) rfl rfl w_and) ?_
  refine mV rfl ?_
  refine rd_op (ov_bi rfl (max_int _ _)) ?_
  refine rd_op (ov_bin (a := vu32 (x0 &&& a2)) (b := vi (max x1 0)) rfl rfl (w_shr (by first | omega | exact mask_sh (by assumption) (by assumption) | (rw [wr_of (by omega) (by omega)]; omega) | (have hk := two_sh (by assumption) (And.left (by assumption)); omega)))) ?_
  refine mV rfl ?_
  refine nS ?_
  exact rR hres rfl rfl rfl

def RF298 (res : (BitVec 32)) (r : PV) : Prop := r = vu32 res
theorem f298_ok {x0 : BitVec 32} {x1 x2 : Int} : FnR Tryz.prog 298 [vu32 x0, vi x1, vi x2] (vu32 (bitvec_Slice x0 x1 x2)) := by
  refine fnS (R := RF298) text298 (fun _ h => h) rfl fun res hres => ?_
  unfold bitvec_Slice at hres
  refine sR ?_
  refine rd_op (v := vu32 0#32) (ov_move rfl) ?_
  refine nS ?_
  refine rc_seq ?_
  refine sR ?_
  refine mV rfl ?_
  refine rd_op (v := .fs true [vi x2]) (ov_bslice rfl (all_cons rfl all_nil)) ?_
  have a4 : (tSl tI).R ([x2] : List Int) (.fs true [vi x2]) := sl_fs ⟨rfl, trivial⟩ (by simp)
  obtain ⟨a0, a6, hres⟩ := let_ex hres
  have a9 := f181_ok  a4 
  rw [a6] at a9
  refine cL a9 rfl rfl (clL_cons (TR.clo (tSl tI) a4) clL_nil) ?_
  refine rd_op (ov_not rfl) ?_
  refine mV rfl ?_
  refine rd_cutn 3 (d := 14) (v := vb ((!a0) || (decide (x1 < 0)))) ?_ ?_
  · intro S Q r
    cases a7 : (!a0)
    · intro k
      have a1 := a7
      try simp only [qa, qaD] at a1
      refine rd_yes rfl rfl (ov_move rfl) ?_
      refine rd_yes rfl rfl (ov_bin rfl rfl i_lss) ?_
      exact gK rfl rfl rfl rfl rfl k
    · exact gN 2 rfl rfl rfl rfl rfl rfl
  refine mV rfl ?_
  refine rd_cutn 5 (d := 20) (v := vb (((!a0) || (decide (x1 < 0))) || (decide ((wr (32 - x2)) < x1)))) ?_ ?_
  · intro S Q r
    cases a8 : ((!a0) || (decide (x1 < 0)))
    · intro k
      have a2 := a8
      try simp only [qa, qaD] at a2
      refine rd_yes rfl rfl (ov_move rfl) ?_
      refine rd_yes rfl rfl (ov_move rfl) ?_
      refine rd_yes rfl rfl (ov_bin rfl rfl i_sub) ?_
      refine rd_yes rfl rfl (ov_bin rfl rfl i_gtr) ?_
      exact gK rfl rfl rfl rfl rfl k
    · exact gN 4 rfl rfl rfl rfl rfl rfl
  refine nS ?_
  refine rc_br hres rfl ?_ ?_ <;> clear hres <;> intro c hres <;> try simp only [qa, qaD] at c
  · refine sR ?_
    refine rd_op (v := vu32 0#32) (ov_move rfl) ?_
    refine nS ?_
    exact rR hres rfl rfl rfl
  · refine rc_skip ?_
    refine pn_seq ?_
    refine sR ?_
    refine mV rfl ?_
    refine mV rfl ?_
    refine rd_op (ov_bin (a := vu32 x0) (b := vi x1) rfl rfl (w_shr (by first | omega | exact mask_sh (by assumption) (by assumption) | (rw [wr_of (by omega) (by omega)]; omega) | (have hk := two_sh (by assumption) (And.left (by assumption)); omega)))) ?_
    refine mV rfl ?_
    obtain ⟨b0, a3, hres⟩ := let_ex hres
    have a5 := f182_ok (x0 := x2)  
    rw [a3] at a5
    refine cL a5 rfl rfl (clL_cons rfl clL_nil) ?_
    refine rd_op (ov_bin (a := vu32 (x0 >>> x1.toNat)) (b := vu32 b0) rfl rfl w_and) ?_
    refine mV rfl ?_
    refine nS ?_
    exact rR hres rfl rfl rfl

def RF290 (res : expr_value) (r : PV) : Prop := expr_value.t.R res r
theorem f290_ok {x0 : api_ExprNode} {x1 : expr_value} {v0 v1 : PV} (r0 : api_ExprNode.t.R x0 v0) (r1 : expr_value.t.R x1 v1) : ∃ r, FnR Tryz.prog 290 [v0, v1] r ∧ expr_value.t.R (expr_unary x0 x1) r := by
  refine fnT (R := RF290) text290 rfl fun res hres => ?_
  unfold expr_unary at hres
  refine sR ?_
  refine rd_op (ov_box rfl (TR.cnt api_ExprNode.t r0)) ?_
  refine rd_op (ov_box rfl (TR.cnt expr_value.t r1)) ?_
  refine rd_allocO (x := .agg [vu32 0#32, vi 0]) (Mem.nil ⟨0, []⟩) rfl rfl (fun a4 a5 c3 a6 => ?_)
  refine nS ?_
  refine rc_seq ?_
  refine sR ?_
  refine fL rfl (api_ExprNode.g_Op r0) rfl rfl ?_
  refine nS ?_
  refine rc_block ?_
  refine sR ?_
  refine bN i_eql rfl rfl ?_
  refine mV rfl ?_
  refine nS ?_
  refine rc_br hres rfl ?_ ?_ <;> clear hres <;> intro c hres <;> try simp only [qa, qaD] at c
  · refine sR ?_
    refine fL rfl (expr_value.g_v r1) rfl rfl ?_
    refine fL rfl (expr_value.g_w r1) rfl rfl ?_
    obtain ⟨a1, b6, hres⟩ := let_ex hres
    have b8 := f295_ok (x0 := x1.v) (x1 := x1.w)  
    rw [b6] at b8
    refine cL b8 rfl rfl (clL_cons rfl (clL_cons rfl clL_nil)) ?_
    refine fL rfl (expr_value.g_w r1) rfl rfl ?_
    refine rd_op (v := .agg [vu32 a1, vi x1.w]) (ov_build (cs := [vu32 a1, vi x1.w]) rfl rfl) ?_
    refine rd_storeO (k := 0) (v := .agg [vu32 a1, vi x1.w]) a6 rfl rfl rfl rfl (fun c1 a8 => ?_)
    replace a8 : Mem c1 [⟨.op a4 a5 0, 301, 2, [.agg [vu32 a1, vi x1.w]]⟩] := a8
    refine nS ?_
    subst hres
    exact rc_retV (.cell rfl (load_whole (k := 0) a8 rfl rfl) .nil) (deep_closed (TR.clo expr_value.t (show expr_value.t.R ({ v := a1, w := x1.w } : expr_value) (.agg [vu32 a1, vi x1.w]) from rfl))) (show expr_value.t.R ({ v := a1, w := x1.w } : expr_value) (.agg [vu32 a1, vi x1.w]) from rfl)
  · refine sR ?_
    refine bN i_eql rfl rfl ?_
    refine mV rfl ?_
    refine nS ?_
    refine rc_br hres rfl ?_ ?_ <;> clear hres <;> intro c hres <;> try simp only [qa, qaD] at c
    · refine sR ?_
      refine fL rfl (expr_value.g_v r1) rfl rfl ?_
      refine fL rfl (api_ExprNode.g_N r0) rfl rfl ?_
      refine fL rfl (expr_value.g_w r1) rfl rfl ?_
      obtain ⟨a0, b3, hres⟩ := let_ex hres
      have b1 := f296_ok (x0 := x1.v) (x1 := x0.N) (x2 := x1.w)  
      rw [b3] at b1
      refine cL b1 rfl rfl (clL_cons rfl (clL_cons rfl (clL_cons rfl clL_nil))) ?_
      refine fL rfl (expr_value.g_w r1) rfl rfl ?_
      refine rd_op (v := .agg [vu32 a0, vi x1.w]) (ov_build (cs := [vu32 a0, vi x1.w]) rfl rfl) ?_
      refine rd_storeO (k := 0) (v := .agg [vu32 a0, vi x1.w]) a6 rfl rfl rfl rfl (fun c0 a9 => ?_)
      replace a9 : Mem c0 [⟨.op a4 a5 0, 301, 2, [.agg [vu32 a0, vi x1.w]]⟩] := a9
      refine nS ?_
      subst hres
      exact rc_retV (.cell rfl (load_whole (k := 0) a9 rfl rfl) .nil) (deep_closed (TR.clo expr_value.t (show expr_value.t.R ({ v := a0, w := x1.w } : expr_value) (.agg [vu32 a0, vi x1.w]) from rfl))) (show expr_value.t.R ({ v := a0, w := x1.w } : expr_value) (.agg [vu32 a0, vi x1.w]) from rfl)
    · refine sR ?_
      refine bN i_eql rfl rfl ?_
      refine mV rfl ?_
      refine nS ?_
      refine rc_br hres rfl ?_ ?_ <;> clear hres <;> intro c hres <;> try simp only [qa, qaD] at c
      · refine sR ?_
        refine fL rfl (expr_value.g_v r1) rfl rfl ?_
        refine fL rfl (api_ExprNode.g_N r0) rfl rfl ?_
        refine fL rfl (expr_value.g_w r1) rfl rfl ?_
        obtain ⟨a2, b5, hres⟩ := let_ex hres
        have b4 := f297_ok (x0 := x1.v) (x1 := x0.N) (x2 := x1.w)  
        rw [b5] at b4
        refine cL b4 rfl rfl (clL_cons rfl (clL_cons rfl (clL_cons rfl clL_nil))) ?_
        refine fL rfl (expr_value.g_w r1) rfl rfl ?_
        refine rd_op (v := .agg [vu32 a2, vi x1.w]) (ov_build (cs := [vu32 a2, vi x1.w]) rfl rfl) ?_
        refine rd_storeO (k := 0) (v := .agg [vu32 a2, vi x1.w]) a6 rfl rfl rfl rfl (fun b9 b0 => ?_)
        replace b0 : Mem b9 [⟨.op a4 a5 0, 301, 2, [.agg [vu32 a2, vi x1.w]]⟩] := b0
        refine nS ?_
        subst hres
        exact rc_retV (.cell rfl (load_whole (k := 0) b0 rfl rfl) .nil) (deep_closed (TR.clo expr_value.t (show expr_value.t.R ({ v := a2, w := x1.w } : expr_value) (.agg [vu32 a2, vi x1.w]) from rfl))) (show expr_value.t.R ({ v := a2, w := x1.w } : expr_value) (.agg [vu32 a2, vi x1.w]) from rfl)
      · refine rc_skip ?_
        refine pn_blk ?_
        refine pn_seq ?_
        refine sR ?_
        refine fL rfl (expr_value.g_v r1) rfl rfl ?_
        refine fL rfl (api_ExprNode.g_N r0) rfl rfl ?_
        refine fL rfl (api_ExprNode.g_W r0) rfl rfl ?_
        obtain ⟨a3, b2, hres⟩ := let_ex hres
        have b7 := f298_ok (x0 := x1.v) (x1 := x0.N) (x2 := x0.W)  
        rw [b2] at b7
        refine cL b7 rfl rfl (clL_cons rfl (clL_cons rfl (clL_cons rfl clL_nil))) ?_
        refine fL rfl (api_ExprNode.g_W r0) rfl rfl ?_
        refine rd_op (v := .agg [vu32 a3, vi x0.W]) (ov_build (cs := [vu32 a3, vi x0.W]) rfl rfl) ?_
        refine rd_storeO (k := 0) (v := .agg [vu32 a3, vi x0.W]) a6 rfl rfl rfl rfl (fun c2 a7 => ?_)
        replace a7 : Mem c2 [⟨.op a4 a5 0, 301, 2, [.agg [vu32 a3, vi x0.W]]⟩] := a7
        refine nS ?_
        subst hres
        exact rc_retV (.cell rfl (load_whole (k := 0) a7 rfl rfl) .nil) (deep_closed (TR.clo expr_value.t (show expr_value.t.R ({ v := a3, w := x0.W } : expr_value) (.agg [vu32 a3, vi x0.W]) from rfl))) (show expr_value.t.R ({ v := a3, w := x0.W } : expr_value) (.agg [vu32 a3, vi x0.W]) from rfl)

def RF299 (res : (BitVec 32)) (r : PV) : Prop := r = vu32 res
theorem f299_ok {x0 : BitVec 32} {x1 : BitVec 32} {x2 : Int} : FnR Tryz.prog 299 [vu32 x0, vu32 x1, vi x2] (vu32 (bitvec_Add x0 x1 x2)) := by
  refine fnS (R := RF299) text299 (fun _ h => h) rfl fun res hres => ?_
  unfold bitvec_Add at hres
  refine sR ?_
  refine rd_op (v := vu32 0#32) (ov_move rfl) ?_
  refine nR ?_
  refine mV rfl ?_
  refine mV rfl ?_
  refine rd_op (ov_bin (a := vu32 x0) (b := vu32 x1) rfl rfl w_add) ?_
  refine mV rfl ?_
  obtain ⟨a2, a1, hres⟩ := let_ex hres
  have a0 := f182_ok (x0 := x2)  
  rw [a1] at a0
  refine cL a0 rfl rfl (clL_cons rfl clL_nil) ?_
  refine rd_op (ov_bin (a := vu32 (x0 + x1)) (b := vu32 a2) rfl rfl w_and) ?_
  refine mV rfl ?_
  refine nS ?_
  exact rR hres rfl rfl rfl

def RF300 (res : (BitVec 32)) (r : PV) : Prop := r = vu32 res
theorem f300_ok {x0 : BitVec 32} {x1 : BitVec 32} {x2 : Int} : FnR Tryz.prog 300 [vu32 x0, vu32 x1, vi x2] (vu32 (bitvec_Sub x0 x1 x2)) := by
  refine fnS (R := RF300) text300 (fun _ h => h) rfl fun res hres => ?_
  unfold bitvec_Sub at hres
  refine sR ?_
  refine rd_op (v := vu32 0#32) (ov_move rfl) ?_
  refine nR ?_
  refine mV rfl ?_
  refine mV rfl ?_
  refine rd_op (ov_bin (a := vu32 x0) (b := vu32 x1) rfl rfl w_sub) ?_
  refine mV rfl ?_
  obtain ⟨a2, a1, hres⟩ := let_ex hres
  have a0 := f182_ok (x0 := x2)  
  rw [a1] at a0
  refine cL a0 rfl rfl (clL_cons rfl clL_nil) ?_
  refine rd_op (ov_bin (a := vu32 (x0 - x1)) (b := vu32 a2) rfl rfl w_and) ?_
  refine mV rfl ?_
  refine nS ?_
  exact rR hres rfl rfl rfl

def RF301 (res : (BitVec 32) × Bool) (r : PV) : Prop := r = .tup [vu32 res.1, vb res.2]
theorem f301_ok {x0 : BitVec 32} {x1 : Int} {x2 : BitVec 32} {x3 : Int} : FnR Tryz.prog 301 [vu32 x0, vi x1, vu32 x2, vi x3] (.tup [vu32 ((bitvec_Concat x0 x1 x2 x3).1), vb ((bitvec_Concat x0 x1 x2 x3).2)]) := by
  refine fnS (R := RF301) text301 (fun _ h => h) rfl fun res hres => ?_
  unfold bitvec_Concat at hres
  refine sR ?_
  refine rd_op (v := vu32 0#32) (ov_move rfl) ?_
  refine mB rfl ?_
  refine nS ?_
  refine rc_seq ?_
  refine sR ?_
  refine mV rfl ?_
  refine mV rfl ?_
  refine rd_op (v := .fs true [vi x1, vi x3]) (ov_bslice rfl (all_cons rfl (all_cons rfl all_nil))) ?_
  have a3 : (tSl tI).R ([x1, x3] : List Int) (.fs true [vi x1, vi x3]) := sl_fs ⟨rfl, ⟨rfl, trivial⟩⟩ (by simp)
  obtain ⟨a4, a7, hres⟩ := let_ex hres
  have b1 := f181_ok  a3 
  rw [a7] at b1
  refine cL b1 rfl rfl (clL_cons (TR.clo (tSl tI) a3) clL_nil) ?_
  refine rd_op (ov_not rfl) ?_
  refine mV rfl ?_
  refine rd_cutn 5 (d := 20) (v := vb ((!a4) || (decide (32 < (wr (x1 + x3)))))) ?_ ?_
  · intro S Q r
    cases b0 : (!a4)
    · intro k
      have a0 := b0
      try simp only [qa, qaD] at a0
      refine rd_yes rfl rfl (ov_move rfl) ?_
      refine rd_yes rfl rfl (ov_move rfl) ?_
      refine rd_yes rfl rfl (ov_bin rfl rfl i_add) ?_
      refine rd_yes rfl rfl (ov_bin rfl rfl i_gtr) ?_
      exact gK rfl rfl rfl rfl rfl k
    · exact gN 4 rfl rfl rfl rfl rfl rfl
  refine nS ?_
  refine rc_br hres rfl ?_ ?_ <;> clear hres <;> intro c hres <;> try simp only [qa, qaD] at c
  · refine sR ?_
    refine rd_op (v := vu32 0#32) (ov_move rfl) ?_
    refine mB rfl ?_
    refine nS ?_
    exact rT hres rfl rfl rfl rfl rfl
  · refine rc_skip ?_
    refine pn_seq ?_
    refine sR ?_
    refine mV rfl ?_
    refine mV rfl ?_
    obtain ⟨a1, a9, hres⟩ := let_ex hres
    have a8 := f182_ok (x0 := x1)  
    rw [a9] at a8
    refine cL a8 rfl rfl (clL_cons rfl clL_nil) ?_
    refine rd_op (ov_bin (a := vu32 x0) (b := vu32 a1) rfl rfl w_and) ?_
    refine mV rfl ?_
    refine rd_op (ov_bin (a := vu32 (x0 &&& a1)) (b := vi x3) rfl rfl (w_shl (by first | omega | exact mask_sh (by assumption) (by assumption) | (rw [wr_of (by omega) (by omega)]; omega) | (have hk := two_sh (by assumption) (And.left (by assumption)); omega)))) ?_
    refine mV rfl ?_
    refine mV rfl ?_
    obtain ⟨a6, a2, hres⟩ := let_ex hres
    have a5 := f182_ok (x0 := x3)  
    rw [a2] at a5
    refine cL a5 rfl rfl (clL_cons rfl clL_nil) ?_
    refine rd_op (ov_bin (a := vu32 x2) (b := vu32 a6) rfl rfl w_and) ?_
    refine rd_op (ov_bin (a := vu32 ((x0 &&& a1) <<< x3.toNat)) (b := vu32 (x2 &&& a6)) rfl rfl w_or) ?_
    refine mV rfl ?_
    refine mB rfl ?_
    refine nS ?_
    exact rT hres rfl rfl rfl rfl rfl

def RF302 (res : expr_value) (r : PV) : Prop := expr_value.t.R res r
theorem f302_ok {x0 : Bool} : ∃ r, FnR Tryz.prog 302 [vb x0] r ∧ expr_value.t.R (expr_truth x0) r := by
  refine fnT (R := RF302) text302 rfl fun res hres => ?_
  unfold expr_truth at hres
  refine sR ?_
  refine rd_allocO (x := .agg [vu32 0#32, vi 0]) (Mem.nil ⟨0, []⟩) rfl rfl (fun a4 a2 a7 a3 => ?_)
  refine nS ?_
  refine rc_seq ?_
  refine sR ?_
  refine mV rfl ?_
  refine nS ?_
  refine rc_br hres rfl ?_ ?_ <;> clear hres <;> intro c hres <;> try simp only [qa, qaD] at c
  · refine sR ?_
    refine rd_op (v := .agg [vu32 1#32, vi 1]) (ov_build (cs := [vu32 1#32, vi 1]) rfl rfl) ?_
    refine rd_storeO (k := 0) (v := .agg [vu32 1#32, vi 1]) a3 rfl rfl rfl rfl (fun a5 a0 => ?_)
    replace a0 : Mem a5 [⟨.op a4 a2 0, 301, 2, [.agg [vu32 1#32, vi 1]]⟩] := a0
    refine nS ?_
    subst hres
    exact rc_retV (.cell rfl (load_whole (k := 0) a0 rfl rfl) .nil) (deep_closed (TR.clo expr_value.t (show expr_value.t.R ({ v := 1#32, w := 1 } : expr_value) (.agg [vu32 1#32, vi 1]) from rfl))) (show expr_value.t.R ({ v := 1#32, w := 1 } : expr_value) (.agg [vu32 1#32, vi 1]) from rfl)
  · refine rc_skip ?_
    refine pn_seq ?_
    refine sR ?_
    refine rd_op (v := .agg [vu32 0#32, vi 1]) (ov_build (cs := [vu32 0#32, vi 1]) rfl rfl) ?_
    refine rd_storeO (k := 0) (v := .agg [vu32 0#32, vi 1]) a3 rfl rfl rfl rfl (fun a6 a1 => ?_)
    replace a1 : Mem a6 [⟨.op a4 a2 0, 301, 2, [.agg [vu32 0#32, vi 1]]⟩] := a1
    refine nS ?_
    subst hres
    exact rc_retV (.cell rfl (load_whole (k := 0) a1 rfl rfl) .nil) (deep_closed (TR.clo expr_value.t (show expr_value.t.R ({ v := 0#32, w := 1 } : expr_value) (.agg [vu32 0#32, vi 1]) from rfl))) (show expr_value.t.R ({ v := 0#32, w := 1 } : expr_value) (.agg [vu32 0#32, vi 1]) from rfl)

def RF291 (res : expr_value) (r : PV) : Prop := expr_value.t.R res r
theorem f291_ok {x0 : Int} {x1 : expr_value} {x2 : expr_value} {v1 v2 : PV} (r1 : expr_value.t.R x1 v1) (r2 : expr_value.t.R x2 v2) : ∃ r, FnR Tryz.prog 291 [vi x0, v1, v2] r ∧ expr_value.t.R (expr_binary x0 x1 x2) r := by
  refine fnT (R := RF291) text291 rfl fun res hres => ?_
  unfold expr_binary at hres
  refine sR ?_
  refine rd_op (ov_box rfl (TR.cnt expr_value.t r1)) ?_
  refine rd_op (ov_box rfl (TR.cnt expr_value.t r2)) ?_
  refine rd_allocO (x := .agg [vu32 0#32, vi 0]) (Mem.nil ⟨0, []⟩) rfl rfl (fun a2 a3 d7 a4 => ?_)
  refine nS ?_
  refine rc_seq ?_
  refine sR ?_
  refine mV rfl ?_
  refine nS ?_
  refine rc_block ?_
  refine sR ?_
  refine bN i_eql rfl rfl ?_
  refine mV rfl ?_
  refine nS ?_
  refine rc_br hres rfl ?_ ?_ <;> clear hres <;> intro c hres <;> try simp only [qa, qaD] at c
  · refine sR ?_
    refine fL rfl (expr_value.g_v r1) rfl rfl ?_
    refine fL rfl (expr_value.g_v r2) rfl rfl ?_
    refine fL rfl (expr_value.g_w r1) rfl rfl ?_
    obtain ⟨a1, c3, hres⟩ := let_ex hres
    have c5 := f299_ok (x0 := x1.v) (x1 := x2.v) (x2 := x1.w)  
    rw [c3] at c5
    refine cL c5 rfl rfl (clL_cons rfl (clL_cons rfl (clL_cons rfl clL_nil))) ?_
    refine fL rfl (expr_value.g_w r1) rfl rfl ?_
    refine rd_op (v := .agg [vu32 a1, vi x1.w]) (ov_build (cs := [vu32 a1, vi x1.w]) rfl rfl) ?_
    refine rd_storeO (k := 0) (v := .agg [vu32 a1, vi x1.w]) a4 rfl rfl rfl rfl (fun d3 b1 => ?_)
    replace b1 : Mem d3 [⟨.op a2 a3 0, 301, 2, [.agg [vu32 a1, vi x1.w]]⟩] := b1
    refine nS ?_
    subst hres
    exact rc_retV (.cell rfl (load_whole (k := 0) b1 rfl rfl) .nil) (deep_closed (TR.clo expr_value.t (show expr_value.t.R ({ v := a1, w := x1.w } : expr_value) (.agg [vu32 a1, vi x1.w]) from rfl))) (show expr_value.t.R ({ v := a1, w := x1.w } : expr_value) (.agg [vu32 a1, vi x1.w]) from rfl)
  · refine sR ?_
    refine bN i_eql rfl rfl ?_
    refine mV rfl ?_
    refine nS ?_
    refine rc_br hres rfl ?_ ?_ <;> clear hres <;> intro c hres <;> try simp only [qa, qaD] at c
    · refine sR ?_
      refine fL rfl (expr_value.g_v r1) rfl rfl ?_
      refine fL rfl (expr_value.g_v r2) rfl rfl ?_
      refine fL rfl (expr_value.g_w r1) rfl rfl ?_
      obtain ⟨a0, c0, hres⟩ := let_ex hres
      have b6 := f300_ok (x0 := x1.v) (x1 := x2.v) (x2 := x1.w)  
      rw [c0] at b6
      refine cL b6 rfl rfl (clL_cons rfl (clL_cons rfl (clL_cons rfl clL_nil))) ?_
      refine fL rfl (expr_value.g_w r1) rfl rfl ?_
      refine rd_op (v := .agg [vu32 a0, vi x1.w]) (ov_build (cs := [vu32 a0, vi x1.w]) rfl rfl) ?_
      refine rd_storeO (k := 0) (v := .agg [vu32 a0, vi x1.w]) a4 rfl rfl rfl rfl (fun d2 b4 => ?_)
      replace b4 : Mem d2 [⟨.op a2 a3 0, 301, 2, [.agg [vu32 a0, vi x1.w]]⟩] := b4
      refine nS ?_
      subst hres
      exact rc_retV (.cell rfl (load_whole (k := 0) b4 rfl rfl) .nil) (deep_closed (TR.clo expr_value.t (show expr_value.t.R ({ v := a0, w := x1.w } : expr_value) (.agg [vu32 a0, vi x1.w]) from rfl))) (show expr_value.t.R ({ v := a0, w := x1.w } : expr_value) (.agg [vu32 a0, vi x1.w]) from rfl)
    · refine sR ?_
      refine bN i_eql rfl rfl ?_
      refine mV rfl ?_
      refine nS ?_
      refine rc_br hres rfl ?_ ?_ <;> clear hres <;> intro c hres <;> try simp only [qa, qaD] at c
      · refine sR ?_
        refine fL rfl (expr_value.g_v r1) rfl rfl ?_
        refine fL rfl (expr_value.g_v r2) rfl rfl ?_
        refine rd_op (ov_bin (a := vu32 x1.v) (b := vu32 x2.v) rfl rfl w_and) ?_
        refine fL rfl (expr_value.g_w r1) rfl rfl ?_
        refine rd_op (v := .agg [vu32 (x1.v &&& x2.v), vi x1.w]) (ov_build (cs := [vu32 (x1.v &&& x2.v), vi x1.w]) rfl rfl) ?_
        refine rd_storeO (k := 0) (v := .agg [vu32 (x1.v &&& x2.v), vi x1.w]) a4 rfl rfl rfl rfl (fun d1 a9 => ?_)
        replace a9 : Mem d1 [⟨.op a2 a3 0, 301, 2, [.agg [vu32 (x1.v &&& x2.v), vi x1.w]]⟩] := a9
        refine nS ?_
        subst hres
        exact rc_retV (.cell rfl (load_whole (k := 0) a9 rfl rfl) .nil) (deep_closed (TR.clo expr_value.t (show expr_value.t.R ({ v := (x1.v &&& x2.v), w := x1.w } : expr_value) (.agg [vu32 (x1.v &&& x2.v), vi x1.w]) from rfl))) (show expr_value.t.R ({ v := (x1.v &&& x2.v), w := x1.w } : expr_value) (.agg [vu32 (x1.v &&& x2.v), vi x1.w]) from rfl)
      · refine sR ?_
        refine bN i_eql rfl rfl ?_
        refine mV rfl ?_
        refine nS ?_
        refine rc_br hres rfl ?_ ?_ <;> clear hres <;> intro c hres <;> try simp only [qa, qaD] at c
        · refine sR ?_
          refine fL rfl (expr_value.g_v r1) rfl rfl ?_
          refine fL rfl (expr_value.g_v r2) rfl rfl ?_
          refine rd_op (ov_bin (a := vu32 x1.v) (b := vu32 x2.v) rfl rfl w_or) ?_
          refine fL rfl (expr_value.g_w r1) rfl rfl ?_
          refine rd_op (v := .agg [vu32 (x1.v ||| x2.v), vi x1.w]) (ov_build (cs := [vu32 (x1.v ||| x2.v), vi x1.w]) rfl rfl) ?_
          refine rd_storeO (k := 0) (v := .agg [vu32 (x1.v ||| x2.v), vi x1.w]) a4 rfl rfl rfl rfl (fun c7 a8 => ?_)
          replace a8 : Mem c7 [⟨.op a2 a3 0, 301, 2, [.agg [vu32 (x1.v ||| x2.v), vi x1.w]]⟩] := a8
          refine nS ?_
          subst hres
          exact rc_retV (.cell rfl (load_whole (k := 0) a8 rfl rfl) .nil) (deep_closed (TR.clo expr_value.t (show expr_value.t.R ({ v := (x1.v ||| x2.v), w := x1.w } : expr_value) (.agg [vu32 (x1.v ||| x2.v), vi x1.w]) from rfl))) (show expr_value.t.R ({ v := (x1.v ||| x2.v), w := x1.w } : expr_value) (.agg [vu32 (x1.v ||| x2.v), vi x1.w]) from rfl)
        · refine sR ?_
          refine bN i_eql rfl rfl ?_
          refine mV rfl ?_
          refine nS ?_
          refine rc_br hres rfl ?_ ?_ <;> clear hres <;> intro c hres <;> try simp only [qa, qaD] at c
          · refine sR ?_
            refine fL rfl (expr_value.g_v r1) rfl rfl ?_
            refine fL rfl (expr_value.g_v r2) rfl rfl ?_
            refine rd_op (ov_bin (a := vu32 x1.v) (b := vu32 x2.v) rfl rfl w_xor) ?_
            refine fL rfl (expr_value.g_w r1) rfl rfl ?_
            refine rd_op (v := .agg [vu32 (x1.v ^^^ x2.v), vi x1.w]) (ov_build (cs := [vu32 (x1.v ^^^ x2.v), vi x1.w]) rfl rfl) ?_
            refine rd_storeO (k := 0) (v := .agg [vu32 (x1.v ^^^ x2.v), vi x1.w]) a4 rfl rfl rfl rfl (fun d4 b0 => ?_)
            replace b0 : Mem d4 [⟨.op a2 a3 0, 301, 2, [.agg [vu32 (x1.v ^^^ x2.v), vi x1.w]]⟩] := b0
            refine nS ?_
            subst hres
            exact rc_retV (.cell rfl (load_whole (k := 0) b0 rfl rfl) .nil) (deep_closed (TR.clo expr_value.t (show expr_value.t.R ({ v := (x1.v ^^^ x2.v), w := x1.w } : expr_value) (.agg [vu32 (x1.v ^^^ x2.v), vi x1.w]) from rfl))) (show expr_value.t.R ({ v := (x1.v ^^^ x2.v), w := x1.w } : expr_value) (.agg [vu32 (x1.v ^^^ x2.v), vi x1.w]) from rfl)
          · refine sR ?_
            refine bN i_eql rfl rfl ?_
            refine mV rfl ?_
            refine nS ?_
            refine rc_br hres rfl ?_ ?_ <;> clear hres <;> intro c hres <;> try simp only [qa, qaD] at c
            · refine sR ?_
              refine fL rfl (expr_value.g_v r1) rfl rfl ?_
              refine fL rfl (expr_value.g_w r1) rfl rfl ?_
              refine fL rfl (expr_value.g_v r2) rfl rfl ?_
              refine fL rfl (expr_value.g_w r2) rfl rfl ?_
              obtain ⟨a5, b8, hres⟩ := let_ex hres
              have b7 := f301_ok (x0 := x1.v) (x1 := x1.w) (x2 := x2.v) (x3 := x2.w)  
              rw [b8] at b7
              refine cL b7 rfl rfl (clL_cons rfl (clL_cons rfl (clL_cons rfl (clL_cons rfl clL_nil)))) ?_
              refine mV rfl ?_
              refine xT rfl rfl ?_
              refine xT rfl rfl ?_
              refine mV rfl ?_
              refine mV rfl ?_
              refine nR ?_
              refine mV rfl ?_
              refine fL rfl (expr_value.g_w r1) rfl rfl ?_
              refine fL rfl (expr_value.g_w r2) rfl rfl ?_
              refine bN i_add rfl rfl ?_
              refine rd_op (v := .agg [vu32 a5.1, vi (wr (x1.w + x2.w))]) (ov_build (cs := [vu32 a5.1, vi (wr (x1.w + x2.w))]) rfl rfl) ?_
              refine rd_storeO (k := 0) (v := .agg [vu32 a5.1, vi (wr (x1.w + x2.w))]) a4 rfl rfl rfl rfl (fun d0 b3 => ?_)
              replace b3 : Mem d0 [⟨.op a2 a3 0, 301, 2, [.agg [vu32 a5.1, vi (wr (x1.w + x2.w))]]⟩] := b3
              refine nS ?_
              subst hres
              exact rc_retV (.cell rfl (load_whole (k := 0) b3 rfl rfl) .nil) (deep_closed (TR.clo expr_value.t (show expr_value.t.R ({ v := a5.1, w := (wr (x1.w + x2.w)) } : expr_value) (.agg [vu32 a5.1, vi (wr (x1.w + x2.w))]) from rfl))) (show expr_value.t.R ({ v := a5.1, w := (wr (x1.w + x2.w)) } : expr_value) (.agg [vu32 a5.1, vi (wr (x1.w + x2.w))]) from rfl)
            · refine sR ?_
              refine bN i_eql rfl rfl ?_
              refine mV rfl ?_
              refine nS ?_
              refine rc_br hres rfl ?_ ?_ <;> clear hres <;> intro c hres <;> try simp only [qa, qaD] at c
              · refine sR ?_
                refine fL rfl (expr_value.g_v r1) rfl rfl ?_
                refine fL rfl (expr_value.g_v r2) rfl rfl ?_
                refine rd_op (ov_bin (a := vu32 x1.v) (b := vu32 x2.v) rfl rfl w_eql) ?_
                obtain ⟨d6, c4, hres⟩ := let_ex hres
                obtain ⟨b9, d5, a7⟩ := f302_ok (x0 := (decide (x1.v = x2.v)))  
                rw [c4] at a7
                refine cL d5 rfl rfl (clL_cons rfl clL_nil) ?_
                refine rd_storeO (k := 0) (v := b9) a4 rfl rfl rfl (TR.cnt expr_value.t a7) (fun c9 b2 => ?_)
                replace b2 : Mem c9 [⟨.op a2 a3 0, 301, 2, [b9]⟩] := b2
                refine nS ?_
                subst hres
                exact rc_retV (.cell rfl (load_whole (k := 0) b2 rfl (TR.agg expr_value.t a7)) .nil) (deep_closed (TR.clo expr_value.t a7)) a7
              · refine rc_skip ?_
                refine pn_blk ?_
                refine pn_seq ?_
                refine sR ?_
                refine fL rfl (expr_value.g_v r1) rfl rfl ?_
                refine fL rfl (expr_value.g_v r2) rfl rfl ?_
                refine rd_op (ov_bin (a := vu32 x1.v) (b := vu32 x2.v) rfl rfl w_lss) ?_
                obtain ⟨d8, c1, hres⟩ := let_ex hres
                obtain ⟨c2, c8, a6⟩ := f302_ok (x0 := (decide (x1.v < x2.v)))  
                rw [c1] at a6
                refine cL c8 rfl rfl (clL_cons rfl clL_nil) ?_
                refine rd_storeO (k := 0) (v := c2) a4 rfl rfl rfl (TR.cnt expr_value.t a6) (fun c6 b5 => ?_)
                replace b5 : Mem c6 [⟨.op a2 a3 0, 301, 2, [c2]⟩] := b5
                refine nS ?_
                subst hres
                exact rc_retV (.cell rfl (load_whole (k := 0) b5 rfl (TR.agg expr_value.t a6)) .nil) (deep_closed (TR.clo expr_value.t a6)) a6

def RF273 (i0_ w0_ : Nat) (R_ : List Ent) (res : expr_value × expr_machine) (r : PV) (h : Heap) : Prop := ∃ uF0 : PV, ∃ c0_ : PV, Mem h (⟨.op i0_ w0_ 0, 299, 17, [uF0]⟩ :: R_) ∧ (expr_machine.t.R res.2 uF0) ∧ r = c0_ ∧ expr_value.t.R res.1 c0_
theorem f273_okB {rec_ : expr_machine → (expr_value × expr_machine)} {mu_ : Nat} {x0 : expr_machine} {k7 : PV} {R_ : List Ent} {h_ : Heap} {b7 b8 : Nat} (g7 : expr_machine.t.R x0 k7) (M_ : Mem h_ (⟨.op b7 b8 0, 299, 17, [k7]⟩ :: R_)) (hv : VE x0) (hmu : mu_ = x0.nodes.length - x0.next.toNat) (hrec : HR rec_) (ihR : ∀ {z0 : expr_machine} {k7 : PV} {R_ : List Ent} {h_ : Heap} {b7 b8 : Nat} (g7 : expr_machine.t.R z0 k7) (M_ : Mem h_ (⟨.op b7 b8 0, 299, 17, [k7]⟩ :: R_)) (hv : VE z0), z0.nodes.length - z0.next.toNat < mu_ → ∃ r l6, FnX Tryz.prog 273 [.op b7 b8 0] h_ r l6 ∧ RF273 b7 b8 R_ (rec_ z0) r l6) : ∃ r l6, FnX Tryz.prog 273 [.op b7 b8 0] h_ r l6 ∧ RF273 b7 b8 R_ (m2_expr_machine__eval_B rec_ x0) r l6 := by
  refine fnXX (R := RF273 b7 b8 R_) text273 rfl fun res hres => ?_
  unfold m2_expr_machine__eval_B at hres
  refine sR ?_
  refine rd_allocO (x := .agg [vu32 0#32, vi 0]) M_ rfl rfl (fun b5 b6 s8 j9 => ?_)
  refine nR ?_
  refine mV rfl ?_
  refine rd_op (ov_nilCheck rfl rfl) ?_
  refine rd_op (ov_faddrO rfl) ?_
  obtain ⟨r1, p7, p6⟩ := expr_machine.g_nodes g7
  refine rd_op (ov_loadf (k := 1) j9 rfl rfl p7) ?_
  refine mV rfl ?_
  refine rd_op (ov_nilCheck rfl rfl) ?_
  refine rd_op (ov_faddrO rfl) ?_
  refine rd_op (ov_loadf (k := 1) j9 rfl rfl (expr_machine.g_next g7)) ?_
  obtain ⟨e9, q2, e0⟩ := sl_idx (i := x0.next) p6 (by first | omega | exact (ve_lt hv).1 | exact (ve_lt hv).2) (by first | omega | exact (ve_lt hv).1 | exact (ve_lt hv).2)
  refine rd_op (ov_iaddr rfl rfl q2) ?_
  refine lD e0 rfl rfl rfl ?_
  refine rd_allocO (x := .agg [vi 0, vi 0, vi 0]) j9 rfl rfl (fun o1 o3 u6 o7 => ?_)
  refine rd_storeO (k := 0) (v := e9) o7 rfl rfl rfl (TR.cnt api_ExprNode.t e0) (fun o9 i9 => ?_)
  replace i9 : Mem o9 (⟨.op o1 o3 0, 113, 3, [e9]⟩ :: ⟨.op b5 b6 0, 301, 2, [.agg [vu32 0#32, vi 0]]⟩ :: ⟨.op b7 b8 0, 299, 17, [k7]⟩ :: R_) := i9
  refine nS ?_
  refine rc_seq ?_
  refine rc_regionS ?_
  refine rs_step ?_
  refine mV rfl ?_
  refine rs_back ?_
  refine rs_step ?_
  refine rd_op (ov_nilCheck rfl rfl) ?_
  refine rs_back ?_
  refine rs_step ?_
  refine rd_op (ov_faddrO rfl) ?_
  refine rs_back ?_
  refine rs_step ?_
  refine rd_op (ov_loadf (k := 2) i9 rfl rfl (expr_machine.g_next g7)) ?_
  refine rs_back ?_
  refine rs_step ?_
  refine bN i_add rfl rfl ?_
  refine rs_back ?_
  refine rs_step ?_
  refine rd_op (ov_nilCheck rfl rfl) ?_
  refine rs_back ?_
  refine rs_step ?_
  refine rd_op (ov_faddrO rfl) ?_
  refine rs_back ?_
  refine rs_step ?_
  obtain ⟨a9, b1, a7, b4, b0, a8, b3, b2, a6, a3, a1, a2, a0, a5, a4, p3, c9, c7, d5, d3, d0, d2, c8, d1, d4, c1, c5, c4, c3, c0, c2⟩ := g7
  subst p3
  refine rd_storeF (k := 2) (v := vi (wr (x0.next + 1))) i9 rfl rfl rfl rfl rfl (by first | decide | (simp only [List.length_cons, List.length_nil]; omega) | simp) (fun p1 k4 => ?_)
  replace k4 : Mem p1 (⟨.op o1 o3 0, 113, 3, [e9]⟩ :: ⟨.op b5 b6 0, 301, 2, [.agg [vu32 0#32, vi 0]]⟩ :: ⟨.op b7 b8 0, 299, 17, [.agg [vs x0.scope.Program.Name, a9, b1, a7, b4, b0, a8, b3, b2, a6, a3, a1, a2, a0, a5, a4, vi (wr (x0.next + 1))]]⟩ :: R_) := k4
  refine rs_back ?_
  refine rs_freezeP (k := 0) (E' := [(25, .op b7 b8 (0 + 16)), (24, .op b7 b8 0), (23, vi (wr (x0.next + 1))), (22, vi x0.next), (21, .op b7 b8 (0 + 16)), (20, .op b7 b8 0), (19, .op b7 b8 0), (3, .fp e9), (18, e9), (17, .fp e9), (16, vi x0.next), (15, .op b7 b8 (0 + 16)), (14, .op b7 b8 0), (13, .op b7 b8 0), (12, r1), (11, .op b7 b8 (0 + 15)), (10, .op b7 b8 0), (9, .op b7 b8 0), (2, .op b5 b6 0), (0, .op b7 b8 0)]) k4 rfl (frz_keep rfl (frz_keep rfl (frz_keep rfl (frz_keep rfl (frz_keep rfl (frz_keep rfl (frz_keep rfl (frz_turn rfl (frz_keep rfl (frz_keep rfl (frz_keep rfl (frz_keep rfl (frz_keep rfl (frz_keep rfl (frz_keep rfl (frz_keep rfl (frz_keep rfl (frz_keep rfl (frz_keep rfl (frz_keep rfl frz_nil)))))))))))))))))))) (fun f4 e8 => ?_)
  replace e8 : Mem f4 (⟨.op b5 b6 0, 301, 2, [.agg [vu32 0#32, vi 0]]⟩ :: ⟨.op b7 b8 0, 299, 17, [.agg [vs x0.scope.Program.Name, a9, b1, a7, b4, b0, a8, b3, b2, a6, a3, a1, a2, a0, a5, a4, vi (wr (x0.next + 1))]]⟩ :: R_) := e8
  refine rs_nil ?_
  refine pn_seq ?_
  refine rc_seq ?_
  refine sR ?_
  refine fL rfl (api_ExprNode.g_Op e0) rfl rfl ?_
  obtain ⟨u3, m0, hres⟩ := let_ex hres
  have l8 := f267_ok (x0 := (ix x0.nodes x0.next).Op)  
  rw [m0] at l8
  refine cL l8 rfl rfl (clL_cons rfl clL_nil) ?_
  refine nS ?_
  refine rc_block ?_
  refine sR ?_
  refine bN i_eql rfl rfl ?_
  refine mV rfl ?_
  refine nS ?_
  refine rc_br hres rfl ?_ ?_ <;> clear hres <;> intro c hres <;> try simp only [qa, qaD] at c
  · refine rc_seq ?_
    refine rc_regionS ?_
    refine rs_step ?_
    refine mV rfl ?_
    refine rs_back ?_
    refine rs_step ?_
    refine lD e0 rfl rfl rfl ?_
    refine rs_back ?_
    have q1 : Mem f4 (⟨.op b7 b8 0, 299, 17, [.agg [vs x0.scope.Program.Name, a9, b1, a7, b4, b0, a8, b3, b2, a6, a3, a1, a2, a0, a5, a4, vi (wr (x0.next + 1))]]⟩ :: ⟨.op b5 b6 0, 301, 2, [.agg [vu32 0#32, vi 0]]⟩ :: R_) := (Mem.front (k := 1) e8 rfl)
    obtain ⟨t1, n8, hres⟩ := let_ex hres
    obtain ⟨r9, s5, n9, j3⟩ := f289_ok (x0 := ({ scope := x0.scope, env := x0.env, args := x0.args, nodes := x0.nodes, next := (wr (x0.next + 1)) } : expr_machine)) (x1 := (ix x0.nodes x0.next)) e0 (show expr_machine.t.R ({ scope := x0.scope, env := x0.env, args := x0.args, nodes := x0.nodes, next := (wr (x0.next + 1)) } : expr_machine) (.agg [vs x0.scope.Program.Name, a9, b1, a7, b4, b0, a8, b3, b2, a6, a3, a1, a2, a0, a5, a4, vi (wr (x0.next + 1))]) from ⟨a9, b1, a7, b4, b0, a8, b3, b2, a6, a3, a1, a2, a0, a5, a4, rfl, c9, c7, d5, d3, d0, d2, c8, d1, d4, c1, c5, c4, c3, c0, c2⟩) q1 (by exact evp hv (by assumption) (by assumption))
    rw [n8] at j3
    obtain ⟨e3, i6, q4, i8, f5, k5⟩ := j3
    replace f5 := f5.symm; subst f5
    refine rs_callXc rfl rfl n9 ?_
    refine rs_step ?_
    refine rd_storeO (k := 1) (v := i6) q4 rfl rfl rfl (TR.cnt expr_value.t k5) (fun k8 h3 => ?_)
    replace h3 : Mem k8 (⟨.op b7 b8 0, 299, 17, [e3]⟩ :: ⟨.op b5 b6 0, 301, 2, [i6]⟩ :: R_) := h3
    refine rs_back ?_
    refine rs_nil ?_
    refine pn_seq ?_
    have m1 : Mem k8 (⟨.op b7 b8 0, 299, 17, [e3]⟩ :: ⟨.op b5 b6 0, 301, 2, [i6]⟩ :: R_) := (Mem.front (k := 0) h3 rfl)
    subst hres
    exact rc_retX (.cell rfl (load_whole (k := 1) h3 rfl (TR.agg expr_value.t k5)) .nil) ⟨e3, i6, Mem.sub m1 (.cons_cons _ (.cons _ (List.Sublist.refl R_))), i8, rfl, k5⟩
  · refine sR ?_
    refine bN i_eql rfl rfl ?_
    refine mV rfl ?_
    refine nS ?_
    refine rc_br hres rfl ?_ ?_ <;> clear hres <;> intro c hres <;> try simp only [qa, qaD] at c
    · refine rc_seq ?_
      refine rc_regionU ?_
      refine rx_step ?_
      refine lD e0 rfl rfl rfl ?_
      refine rx_back ?_
      refine rx_step ?_
      refine mV rfl ?_
      refine rx_back ?_
      have r2 : Mem f4 (⟨.op b7 b8 0, 299, 17, [.agg [vs x0.scope.Program.Name, a9, b1, a7, b4, b0, a8, b3, b2, a6, a3, a1, a2, a0, a5, a4, vi (wr (x0.next + 1))]]⟩ :: ⟨.op b5 b6 0, 301, 2, [.agg [vu32 0#32, vi 0]]⟩ :: R_) := (Mem.front (k := 1) e8 rfl)
      obtain ⟨s6, l7, hres⟩ := let_ex hres
      obtain ⟨s0, t7, m3, j2⟩ := ihR (z0 := ({ scope := x0.scope, env := x0.env, args := x0.args, nodes := x0.nodes, next := (wr (x0.next + 1)) } : expr_machine)) (show expr_machine.t.R ({ scope := x0.scope, env := x0.env, args := x0.args, nodes := x0.nodes, next := (wr (x0.next + 1)) } : expr_machine) (.agg [vs x0.scope.Program.Name, a9, b1, a7, b4, b0, a8, b3, b2, a6, a3, a1, a2, a0, a5, a4, vi (wr (x0.next + 1))]) from ⟨a9, b1, a7, b4, b0, a8, b3, b2, a6, a3, a1, a2, a0, a5, a4, rfl, c9, c7, d5, d3, d0, d2, c8, d1, d4, c1, c5, c4, c3, c0, c2⟩) r2 (by first | exact ev1 hv (by assumption) (by assumption) | exact ev2 hv (by assumption) (by assumption) (by assumption) hrec (by assumption) | exact ev3 hv (by assumption) (by assumption) (by assumption) (by assumption) hrec (by assumption) (by assumption)) (by rw [hmu]; first | exact dv1 hv (by assumption) (by assumption) | exact dv2 hv (by assumption) (by assumption) (by assumption) hrec (by assumption) | exact dv3 hv (by assumption) (by assumption) (by assumption) (by assumption) hrec (by assumption) (by assumption))
      rw [l7] at j2
      obtain ⟨e4, s7, p0, i3, g5, l2⟩ := j2
      replace g5 := g5.symm; subst g5
      refine rx_callXc rfl rfl m3 ?_
      refine rx_step ?_
      obtain ⟨t8, l1, hres⟩ := let_ex hres
      obtain ⟨h6, q3, h0⟩ := f290_ok  e0 l2 
      rw [l1] at h0
      refine cL q3 rfl rfl (clL_cons (TR.clo api_ExprNode.t e0) (clL_cons (TR.clo expr_value.t l2) clL_nil)) ?_
      refine rx_back ?_
      refine rx_step ?_
      refine rd_storeO (k := 1) (v := h6) p0 rfl rfl rfl (TR.cnt expr_value.t h0) (fun m5 i0 => ?_)
      replace i0 : Mem m5 (⟨.op b7 b8 0, 299, 17, [e4]⟩ :: ⟨.op b5 b6 0, 301, 2, [h6]⟩ :: R_) := i0
      refine rx_back ?_
      refine rx_nil ?_
      refine pn_seq ?_
      have m9 : Mem m5 (⟨.op b7 b8 0, 299, 17, [e4]⟩ :: ⟨.op b5 b6 0, 301, 2, [h6]⟩ :: R_) := (Mem.front (k := 0) i0 rfl)
      subst hres
      exact rc_retX (.cell rfl (load_whole (k := 1) i0 rfl (TR.agg expr_value.t h0)) .nil) ⟨e4, h6, Mem.sub m9 (.cons_cons _ (.cons _ (List.Sublist.refl R_))), i3, rfl, h0⟩
    · refine sR ?_
      refine bN i_eql rfl rfl ?_
      refine mV rfl ?_
      refine nS ?_
      refine rc_br hres rfl ?_ ?_ <;> clear hres <;> intro c hres <;> try simp only [qa, qaD] at c
      · refine rc_seq ?_
        refine rc_regionS ?_
        refine rs_step ?_
        refine mV rfl ?_
        refine rs_back ?_
        have p2 : Mem f4 (⟨.op b7 b8 0, 299, 17, [.agg [vs x0.scope.Program.Name, a9, b1, a7, b4, b0, a8, b3, b2, a6, a3, a1, a2, a0, a5, a4, vi (wr (x0.next + 1))]]⟩ :: ⟨.op b5 b6 0, 301, 2, [.agg [vu32 0#32, vi 0]]⟩ :: R_) := (Mem.front (k := 1) e8 rfl)
        obtain ⟨r3, n7, hres⟩ := let_ex hres
        obtain ⟨s1, t3, n5, j6⟩ := ihR (z0 := ({ scope := x0.scope, env := x0.env, args := x0.args, nodes := x0.nodes, next := (wr (x0.next + 1)) } : expr_machine)) (show expr_machine.t.R ({ scope := x0.scope, env := x0.env, args := x0.args, nodes := x0.nodes, next := (wr (x0.next + 1)) } : expr_machine) (.agg [vs x0.scope.Program.Name, a9, b1, a7, b4, b0, a8, b3, b2, a6, a3, a1, a2, a0, a5, a4, vi (wr (x0.next + 1))]) from ⟨a9, b1, a7, b4, b0, a8, b3, b2, a6, a3, a1, a2, a0, a5, a4, rfl, c9, c7, d5, d3, d0, d2, c8, d1, d4, c1, c5, c4, c3, c0, c2⟩) p2 (by first | exact ev1 hv (by assumption) (by assumption) | exact ev2 hv (by assumption) (by assumption) (by assumption) hrec (by assumption) | exact ev3 hv (by assumption) (by assumption) (by assumption) (by assumption) hrec (by assumption) (by assumption)) (by rw [hmu]; first | exact dv1 hv (by assumption) (by assumption) | exact dv2 hv (by assumption) (by assumption) (by assumption) hrec (by assumption) | exact dv3 hv (by assumption) (by assumption) (by assumption) (by assumption) hrec (by assumption) (by assumption))
        rw [n7] at j6
        obtain ⟨f8, f0, o5, i7, f3, i2⟩ := j6
        replace f3 := f3.symm; subst f3
        refine rs_callXc rfl rfl n5 ?_
        refine rs_step ?_
        refine rd_allocO (x := .agg [vu32 0#32, vi 0]) o5 rfl rfl (fun g9 f1 u1 r5 => ?_)
        refine rs_back ?_
        refine rs_step ?_
        refine rd_storeO (k := 0) (v := f0) r5 rfl rfl rfl (TR.cnt expr_value.t i2) (fun l4 j8 => ?_)
        replace j8 : Mem l4 (⟨.op g9 f1 0, 301, 2, [f0]⟩ :: ⟨.op b7 b8 0, 299, 17, [f8]⟩ :: ⟨.op b5 b6 0, 301, 2, [.agg [vu32 0#32, vi 0]]⟩ :: R_) := j8
        refine rs_back ?_
        refine rs_nil ?_
        refine pn_seq ?_
        refine rc_seq ?_
        refine rc_regionS ?_
        refine rs_step ?_
        refine mV rfl ?_
        refine rs_back ?_
        have p5 : Mem l4 (⟨.op b7 b8 0, 299, 17, [f8]⟩ :: ⟨.op g9 f1 0, 301, 2, [f0]⟩ :: ⟨.op b5 b6 0, 301, 2, [.agg [vu32 0#32, vi 0]]⟩ :: R_) := (Mem.front (k := 1) j8 rfl)
        obtain ⟨t9, n3, hres⟩ := let_ex hres
        obtain ⟨r8, s9, o4, j4⟩ := ihR (z0 := r3.2) i7 p5 (by first | exact ev1 hv (by assumption) (by assumption) | exact ev2 hv (by assumption) (by assumption) (by assumption) hrec (by assumption) | exact ev3 hv (by assumption) (by assumption) (by assumption) (by assumption) hrec (by assumption) (by assumption)) (by rw [hmu]; first | exact dv1 hv (by assumption) (by assumption) | exact dv2 hv (by assumption) (by assumption) (by assumption) hrec (by assumption) | exact dv3 hv (by assumption) (by assumption) (by assumption) (by assumption) hrec (by assumption) (by assumption))
        rw [n3] at j4
        obtain ⟨e1, h2, p9, h7, g6, h5⟩ := j4
        replace g6 := g6.symm; subst g6
        refine rs_callXc rfl rfl o4 ?_
        refine rs_step ?_
        refine rd_allocO (x := .agg [vu32 0#32, vi 0]) p9 rfl rfl (fun j7 k3 t6 o8 => ?_)
        refine rs_back ?_
        refine rs_step ?_
        refine rd_storeO (k := 0) (v := h2) o8 rfl rfl rfl (TR.cnt expr_value.t h5) (fun r4 g3 => ?_)
        replace g3 : Mem r4 (⟨.op j7 k3 0, 301, 2, [h2]⟩ :: ⟨.op b7 b8 0, 299, 17, [e1]⟩ :: ⟨.op g9 f1 0, 301, 2, [f0]⟩ :: ⟨.op b5 b6 0, 301, 2, [.agg [vu32 0#32, vi 0]]⟩ :: R_) := g3
        refine rs_back ?_
        refine rs_nil ?_
        refine pn_seq ?_
        refine sR ?_
        refine fL rfl (api_ExprNode.g_Op e0) rfl rfl ?_
        refine rd_op (ov_load0 (k := 2) g3 rfl rfl (TR.agg expr_value.t i2)) ?_
        refine rd_op (ov_load0 (k := 0) g3 rfl rfl (TR.agg expr_value.t h5)) ?_
        obtain ⟨t5, m7, hres⟩ := let_ex hres
        obtain ⟨h9, q8, h4⟩ := f291_ok (x0 := (ix x0.nodes x0.next).Op) i2 h5 
        rw [m7] at h4
        refine cL q8 rfl rfl (clL_cons rfl (clL_cons (TR.clo expr_value.t i2) (clL_cons (TR.clo expr_value.t h5) clL_nil))) ?_
        refine rd_storeO (k := 3) (v := h9) g3 rfl rfl rfl (TR.cnt expr_value.t h4) (fun m2 i4 => ?_)
        replace i4 : Mem m2 (⟨.op j7 k3 0, 301, 2, [h2]⟩ :: ⟨.op b7 b8 0, 299, 17, [e1]⟩ :: ⟨.op g9 f1 0, 301, 2, [f0]⟩ :: ⟨.op b5 b6 0, 301, 2, [h9]⟩ :: R_) := i4
        refine nS ?_
        have m8 : Mem m2 (⟨.op b7 b8 0, 299, 17, [e1]⟩ :: ⟨.op j7 k3 0, 301, 2, [h2]⟩ :: ⟨.op g9 f1 0, 301, 2, [f0]⟩ :: ⟨.op b5 b6 0, 301, 2, [h9]⟩ :: R_) := (Mem.front (k := 1) i4 rfl)
        subst hres
        exact rc_retX (.cell rfl (load_whole (k := 3) i4 rfl (TR.agg expr_value.t h4)) .nil) ⟨e1, h9, Mem.sub m8 (.cons_cons _ (.cons _ (.cons _ (.cons _ (List.Sublist.refl R_))))), h7, rfl, h4⟩
      · refine rc_skip ?_
        refine pn_blk ?_
        refine pn_seq ?_
        refine rc_seq ?_
        refine rc_regionS ?_
        refine rs_step ?_
        refine mV rfl ?_
        refine rs_back ?_
        have q9 : Mem f4 (⟨.op b7 b8 0, 299, 17, [.agg [vs x0.scope.Program.Name, a9, b1, a7, b4, b0, a8, b3, b2, a6, a3, a1, a2, a0, a5, a4, vi (wr (x0.next + 1))]]⟩ :: ⟨.op b5 b6 0, 301, 2, [.agg [vu32 0#32, vi 0]]⟩ :: R_) := (Mem.front (k := 1) e8 rfl)
        obtain ⟨n0, o2, hres⟩ := let_ex hres
        obtain ⟨s4, t0, m4, j5⟩ := ihR (z0 := ({ scope := x0.scope, env := x0.env, args := x0.args, nodes := x0.nodes, next := (wr (x0.next + 1)) } : expr_machine)) (show expr_machine.t.R ({ scope := x0.scope, env := x0.env, args := x0.args, nodes := x0.nodes, next := (wr (x0.next + 1)) } : expr_machine) (.agg [vs x0.scope.Program.Name, a9, b1, a7, b4, b0, a8, b3, b2, a6, a3, a1, a2, a0, a5, a4, vi (wr (x0.next + 1))]) from ⟨a9, b1, a7, b4, b0, a8, b3, b2, a6, a3, a1, a2, a0, a5, a4, rfl, c9, c7, d5, d3, d0, d2, c8, d1, d4, c1, c5, c4, c3, c0, c2⟩) q9 (by first | exact ev1 hv (by assumption) (by assumption) | exact ev2 hv (by assumption) (by assumption) (by assumption) hrec (by assumption) | exact ev3 hv (by assumption) (by assumption) (by assumption) (by assumption) hrec (by assumption) (by assumption)) (by rw [hmu]; first | exact dv1 hv (by assumption) (by assumption) | exact dv2 hv (by assumption) (by assumption) (by assumption) hrec (by assumption) | exact dv3 hv (by assumption) (by assumption) (by assumption) (by assumption) hrec (by assumption) (by assumption))
        rw [o2] at j5
        obtain ⟨g1, d7, p4, i5, f7, n4⟩ := j5
        replace f7 := f7.symm; subst f7
        refine rs_callXc rfl rfl m4 ?_
        refine rs_step ?_
        refine rd_allocO (x := .agg [vu32 0#32, vi 0]) p4 rfl rfl (fun d8 d9 t4 q6 => ?_)
        refine rs_back ?_
        refine rs_step ?_
        refine rd_storeO (k := 0) (v := d7) q6 rfl rfl rfl (TR.cnt expr_value.t n4) (fun o0 k0 => ?_)
        replace k0 : Mem o0 (⟨.op d8 d9 0, 301, 2, [d7]⟩ :: ⟨.op b7 b8 0, 299, 17, [g1]⟩ :: ⟨.op b5 b6 0, 301, 2, [.agg [vu32 0#32, vi 0]]⟩ :: R_) := k0
        refine rs_back ?_
        refine rs_nil ?_
        refine pn_seq ?_
        refine rc_seq ?_
        refine rc_regionS ?_
        refine rs_step ?_
        refine mV rfl ?_
        refine rs_back ?_
        have q7 : Mem o0 (⟨.op b7 b8 0, 299, 17, [g1]⟩ :: ⟨.op d8 d9 0, 301, 2, [d7]⟩ :: ⟨.op b5 b6 0, 301, 2, [.agg [vu32 0#32, vi 0]]⟩ :: R_) := (Mem.front (k := 1) k0 rfl)
        obtain ⟨q5, l9, hres⟩ := let_ex hres
        obtain ⟨s3, u0, m6, j1⟩ := ihR (z0 := n0.2) i5 q7 (by first | exact ev1 hv (by assumption) (by assumption) | exact ev2 hv (by assumption) (by assumption) (by assumption) hrec (by assumption) | exact ev3 hv (by assumption) (by assumption) (by assumption) (by assumption) hrec (by assumption) (by assumption)) (by rw [hmu]; first | exact dv1 hv (by assumption) (by assumption) | exact dv2 hv (by assumption) (by assumption) (by assumption) hrec (by assumption) | exact dv3 hv (by assumption) (by assumption) (by assumption) (by assumption) hrec (by assumption) (by assumption))
        rw [l9] at j1
        obtain ⟨g8, c6, r6, h8, f2, g4⟩ := j1
        replace f2 := f2.symm; subst f2
        refine rs_callXc rfl rfl m6 ?_
        refine rs_step ?_
        refine rd_allocO (x := .agg [vu32 0#32, vi 0]) r6 rfl rfl (fun e2 e5 u4 q0 => ?_)
        refine rs_back ?_
        refine rs_step ?_
        refine rd_storeO (k := 0) (v := c6) q0 rfl rfl rfl (TR.cnt expr_value.t g4) (fun l0 k6 => ?_)
        replace k6 : Mem l0 (⟨.op e2 e5 0, 301, 2, [c6]⟩ :: ⟨.op b7 b8 0, 299, 17, [g8]⟩ :: ⟨.op d8 d9 0, 301, 2, [d7]⟩ :: ⟨.op b5 b6 0, 301, 2, [.agg [vu32 0#32, vi 0]]⟩ :: R_) := k6
        refine rs_back ?_
        refine rs_nil ?_
        refine pn_seq ?_
        refine rc_seq ?_
        refine rc_regionS ?_
        refine rs_step ?_
        refine mV rfl ?_
        refine rs_back ?_
        have r0 : Mem l0 (⟨.op b7 b8 0, 299, 17, [g8]⟩ :: ⟨.op e2 e5 0, 301, 2, [c6]⟩ :: ⟨.op d8 d9 0, 301, 2, [d7]⟩ :: ⟨.op b5 b6 0, 301, 2, [.agg [vu32 0#32, vi 0]]⟩ :: R_) := (Mem.front (k := 1) k6 rfl)
        obtain ⟨u5, n2, hres⟩ := let_ex hres
        obtain ⟨s2, u2, l3, j0⟩ := ihR (z0 := q5.2) h8 r0 (by first | exact ev1 hv (by assumption) (by assumption) | exact ev2 hv (by assumption) (by assumption) (by assumption) hrec (by assumption) | exact ev3 hv (by assumption) (by assumption) (by assumption) (by assumption) hrec (by assumption) (by assumption)) (by rw [hmu]; first | exact dv1 hv (by assumption) (by assumption) | exact dv2 hv (by assumption) (by assumption) (by assumption) hrec (by assumption) | exact dv3 hv (by assumption) (by assumption) (by assumption) (by assumption) hrec (by assumption) (by assumption))
        rw [n2] at j0
        obtain ⟨b9, d6, o6, e7, f6, g2⟩ := j0
        replace f6 := f6.symm; subst f6
        refine rs_callXc rfl rfl l3 ?_
        refine rs_step ?_
        refine rd_allocO (x := .agg [vu32 0#32, vi 0]) o6 rfl rfl (fun g0 f9 t2 r7 => ?_)
        refine rs_back ?_
        refine rs_step ?_
        refine rd_storeO (k := 0) (v := d6) r7 rfl rfl rfl (TR.cnt expr_value.t g2) (fun p8 e6 => ?_)
        replace e6 : Mem p8 (⟨.op g0 f9 0, 301, 2, [d6]⟩ :: ⟨.op b7 b8 0, 299, 17, [b9]⟩ :: ⟨.op e2 e5 0, 301, 2, [c6]⟩ :: ⟨.op d8 d9 0, 301, 2, [d7]⟩ :: ⟨.op b5 b6 0, 301, 2, [.agg [vu32 0#32, vi 0]]⟩ :: R_) := e6
        refine rs_back ?_
        refine rs_nil ?_
        refine pn_seq ?_
        refine rc_seq ?_
        refine sR ?_
        refine rd_op (ov_faddrO rfl) ?_
        refine rd_op (ov_loadf (k := 3) e6 rfl rfl (expr_value.g_v n4)) ?_
        refine rd_op (ov_bin (a := vu32 n0.1.v) (b := vu32 1#32) rfl rfl w_eql) ?_
        refine nS ?_
        refine rc_br hres rfl ?_ ?_ <;> clear hres <;> intro c hres <;> try simp only [qa, qaD] at c
        · refine sR ?_
          refine rd_op (ov_load0 (k := 2) e6 rfl rfl (TR.agg expr_value.t g4)) ?_
          refine rd_storeO (k := 4) (v := c6) e6 rfl rfl rfl (TR.cnt expr_value.t g4) (fun n6 h1 => ?_)
          replace h1 : Mem n6 (⟨.op g0 f9 0, 301, 2, [d6]⟩ :: ⟨.op b7 b8 0, 299, 17, [b9]⟩ :: ⟨.op e2 e5 0, 301, 2, [c6]⟩ :: ⟨.op d8 d9 0, 301, 2, [d7]⟩ :: ⟨.op b5 b6 0, 301, 2, [c6]⟩ :: R_) := h1
          refine nS ?_
          have n1 : Mem n6 (⟨.op b7 b8 0, 299, 17, [b9]⟩ :: ⟨.op g0 f9 0, 301, 2, [d6]⟩ :: ⟨.op e2 e5 0, 301, 2, [c6]⟩ :: ⟨.op d8 d9 0, 301, 2, [d7]⟩ :: ⟨.op b5 b6 0, 301, 2, [c6]⟩ :: R_) := (Mem.front (k := 1) h1 rfl)
          subst hres
          exact rc_retX (.cell rfl (load_whole (k := 4) h1 rfl (TR.agg expr_value.t g4)) .nil) ⟨b9, c6, Mem.sub n1 (.cons_cons _ (.cons _ (.cons _ (.cons _ (.cons _ (List.Sublist.refl R_)))))), e7, rfl, g4⟩
        · refine rc_skip ?_
          refine pn_seq ?_
          refine sR ?_
          refine rd_op (ov_load0 (k := 0) e6 rfl rfl (TR.agg expr_value.t g2)) ?_
          refine rd_storeO (k := 4) (v := d6) e6 rfl rfl rfl (TR.cnt expr_value.t g2) (fun k9 i1 => ?_)
          replace i1 : Mem k9 (⟨.op g0 f9 0, 301, 2, [d6]⟩ :: ⟨.op b7 b8 0, 299, 17, [b9]⟩ :: ⟨.op e2 e5 0, 301, 2, [c6]⟩ :: ⟨.op d8 d9 0, 301, 2, [d7]⟩ :: ⟨.op b5 b6 0, 301, 2, [d6]⟩ :: R_) := i1
          refine nS ?_
          have l5 : Mem k9 (⟨.op b7 b8 0, 299, 17, [b9]⟩ :: ⟨.op g0 f9 0, 301, 2, [d6]⟩ :: ⟨.op e2 e5 0, 301, 2, [c6]⟩ :: ⟨.op d8 d9 0, 301, 2, [d7]⟩ :: ⟨.op b5 b6 0, 301, 2, [d6]⟩ :: R_) := (Mem.front (k := 1) i1 rfl)
          subst hres
          exact rc_retX (.cell rfl (load_whole (k := 4) i1 rfl (TR.agg expr_value.t g2)) .nil) ⟨b9, d6, Mem.sub l5 (.cons_cons _ (.cons _ (.cons _ (.cons _ (.cons _ (List.Sublist.refl R_)))))), e7, rfl, g2⟩
theorem f273_okR : ∀ (n_ : Nat) {x0 : expr_machine} {a3 : PV} {R_ : List Ent} {h_ : Heap} {a2 a1 : Nat} (a0 : expr_machine.t.R x0 a3) (M_ : Mem h_ (⟨.op a2 a1 0, 299, 17, [a3]⟩ :: R_)) (hv : VE x0), x0.nodes.length - x0.next.toNat < n_ → ∃ r a4, FnX Tryz.prog 273 [.op a2 a1 0] h_ r a4 ∧ RF273 a2 a1 R_ (m2_expr_machine__eval_R n_ x0) r a4 := by
  intro n_
  induction n_ with
  | zero => intros; rename_i hlt; exact absurd hlt (Nat.not_lt_zero _)
  | succ n_ ihn =>
    intro x0 a3 R_ h_ a2 a1 a0 M_ hv hlt
    have e_ : m2_expr_machine__eval_R (n_ + 1) x0 = m2_expr_machine__eval_B (m2_expr_machine__eval_R n_) x0 := by rw [m2_expr_machine__eval_R]
    rw [e_]
    exact f273_okB a0 M_ hv rfl (eval_next n_) (fun {z0} {a3} {R_} {h_} {a2} {a1} a0 M_ hv hz => ihn a0 M_ hv (by omega))
theorem f273_ok {x0 : expr_machine} {a3 : PV} {R_ : List Ent} {h_ : Heap} {a1 a0 : Nat} (a2 : expr_machine.t.R x0 a3) (M_ : Mem h_ (⟨.op a1 a0 0, 299, 17, [a3]⟩ :: R_)) (hv : VE x0) : ∃ r a4, FnX Tryz.prog 273 [.op a1 a0 0] h_ r a4 ∧ RF273 a1 a0 R_ (m2_expr_machine__eval x0) r a4 := f273_okR _ a2 M_ hv (Nat.lt_succ_self _)

def RF228 (res : (BitVec 32)) (r : PV) : Prop := r = vu32 res
theorem f228_ok {x0 : List api_ExprNode} {x1 : expr_Scope} {x2 : api_Env} {x3 : List (BitVec 32)} {v0 v1 v2 v3 : PV} (r0 : (tSl api_ExprNode.t).R x0 v0) (r1 : expr_Scope.t.R x1 v1) (r2 : api_Env.t.R x2 v2) (r3 : (tSl tU32).R x3 v3) : FnR Tryz.prog 228 [v0, v1, v2, v3] (vu32 (expr_Eval x0 x1 x2 x3)) := by
  refine fnS (R := RF228) text228 (fun _ h => h) rfl fun res hres => ?_
  unfold expr_Eval at hres
  refine sR ?_
  refine rd_op (ov_box rfl (TR.cnt expr_Scope.t r1)) ?_
  refine rd_op (ov_box rfl (TR.cnt api_Env.t r2)) ?_
  refine rd_op (v := vu32 0#32) (ov_move rfl) ?_
  refine nS ?_
  refine rc_seq ?_
  refine sR ?_
  refine mV rfl ?_
  refine lD r1 rfl rfl rfl ?_
  obtain ⟨e9, d0, hres⟩ := let_ex hres
  have d4 := f174_ok  r0 r1 
  rw [d0] at d4
  refine cL d4 rfl rfl (clL_cons (TR.clo (tSl api_ExprNode.t) r0) (clL_cons (TR.clo expr_Scope.t r1) clL_nil)) ?_
  refine mV rfl ?_
  refine xT rfl rfl ?_
  refine xT rfl rfl ?_
  refine mV rfl ?_
  refine mV rfl ?_
  refine nR ?_
  refine mV rfl ?_
  refine bN i_neq rfl rfl ?_
  refine nS ?_
  refine rc_br hres rfl ?_ ?_ <;> clear hres <;> intro c hres <;> try simp only [qa, qaD] at c
  · refine sR ?_
    refine rd_op (v := vu32 0#32) (ov_move rfl) ?_
    refine nS ?_
    exact rR hres rfl rfl rfl
  · refine rc_skip ?_
    refine pn_seq ?_
    refine sR ?_
    refine lD r1 rfl rfl rfl ?_
    refine lD r2 rfl rfl rfl ?_
    refine mV rfl ?_
    refine mV rfl ?_
    obtain ⟨a7, a1, a9, b2, a0, a4, a5, a8, b0, e0, b5, c1, b4, c4, c5, b8, c3, c2, c0⟩ := r1
    subst e0
    obtain ⟨a2, b1, a6, a3, d7, b7, b9, c6, b6⟩ := r2
    subst d7
    refine rd_op (v := .agg [vs x1.Program.Name, a7, a1, a9, b2, a0, a4, a5, a8, b0, a2, b1, a6, a3, v3, v0, vi 0]) (ov_build (cs := [vs x1.Program.Name, a7, a1, a9, b2, a0, a4, a5, a8, b0, a2, b1, a6, a3, v3, v0, vi 0]) rfl (by simp only [buildV, cells_one (TR.cnt (tSl tU32) r3) (TR.agg (tSl tU32) r3), cells_one (TR.cnt (tSl api_ExprNode.t) r0) (TR.agg (tSl api_ExprNode.t) r0)]; rfl)) ?_
    refine rd_allocO (x := .agg [vs [], nilS, nilS, nilS, nilS, nilS, nilS, nilS, nilS, nilS, nilS, nilS, nilS, nilS, nilS, nilS, vi 0]) (Mem.nil ⟨0, []⟩) rfl rfl (fun d3 d5 e8 d9 => ?_)
    refine rd_storeO (k := 0) (v := .agg [vs x1.Program.Name, a7, a1, a9, b2, a0, a4, a5, a8, b0, a2, b1, a6, a3, v3, v0, vi 0]) d9 rfl rfl rfl rfl (fun d2 c8 => ?_)
    replace c8 : Mem d2 [⟨.op d3 d5 0, 299, 17, [.agg [vs x1.Program.Name, a7, a1, a9, b2, a0, a4, a5, a8, b0, a2, b1, a6, a3, v3, v0, vi 0]]⟩] := c8
    refine nS ?_
    refine rc_seq ?_
    refine rc_regionS ?_
    have e1 : Mem d2 [⟨.op d3 d5 0, 299, 17, [.agg [vs x1.Program.Name, a7, a1, a9, b2, a0, a4, a5, a8, b0, a2, b1, a6, a3, v3, v0, vi 0]]⟩] := (Mem.front (k := 0) c8 rfl)
    obtain ⟨e6, c9, hres⟩ := let_ex hres
    obtain ⟨e3, e5, d1, c7⟩ := f273_ok (x0 := ({ scope := x1, env := x2, args := x3, nodes := x0, next := 0 } : expr_machine)) (show expr_machine.t.R ({ scope := x1, env := x2, args := x3, nodes := x0, next := 0 } : expr_machine) (.agg [vs x1.Program.Name, a7, a1, a9, b2, a0, a4, a5, a8, b0, a2, b1, a6, a3, v3, v0, vi 0]) from ⟨a7, a1, a9, b2, a0, a4, a5, a8, b0, a2, b1, a6, a3, v3, v0, rfl, b5, c1, b4, c4, c5, b8, c3, c2, c0, b7, b9, c6, b6, r3, r0⟩) e1 (by exact ev0 (by assumption) (by assumption) _ _)
    rw [c9] at c7
    obtain ⟨d8, e7, e4, d6, b3, e2⟩ := c7
    replace b3 := b3.symm; subst b3
    refine rs_callXc rfl rfl d1 ?_
    refine rs_step ?_
    refine rd_op (ov_field rfl (expr_value.g_v e2)) ?_
    refine rs_back ?_
    refine rs_step ?_
    refine mV rfl ?_
    refine rs_back ?_
    refine rs_nil ?_
    refine pn_seq ?_
    exact rR hres rfl rfl rfl

def RF189 (res : (BitVec 32)) (r : PV) : Prop := r = vu32 res
theorem f189_ok {x0 : action_state} {x1 : List api_ExprNode} {v0 v1 : PV} (r0 : action_state.t.R x0 v0) (r1 : (tSl api_ExprNode.t).R x1 v1) : FnR Tryz.prog 189 [.fp v0, v1] (vu32 (m2_action_state__eval x0 x1)) := by
  refine fnS (R := RF189) text189 (fun _ h => h) rfl fun res hres => ?_
  unfold m2_action_state__eval at hres
  refine sR ?_
  refine rd_op (v := vu32 0#32) (ov_move rfl) ?_
  refine nR ?_
  refine mV rfl ?_
  refine mV rfl ?_
  refine rd_op (ov_nilCheck rfl rfl) ?_
  obtain ⟨a9, a5, a2⟩ := action_state.g_scope r0
  refine fA rfl a5 ?_
  refine lD a2 rfl rfl rfl ?_
  refine mV rfl ?_
  refine rd_op (ov_nilCheck rfl rfl) ?_
  obtain ⟨b0, a7, a0⟩ := action_state.g_env r0
  refine fA rfl a7 ?_
  refine lD a0 rfl rfl rfl ?_
  refine mV rfl ?_
  refine rd_op (ov_nilCheck rfl rfl) ?_
  obtain ⟨b1, a6, a1⟩ := action_state.g_args r0
  refine fA rfl a6 ?_
  refine lD a1 rfl rfl rfl ?_
  obtain ⟨a8, a3, hres⟩ := let_ex hres
  have a4 := f228_ok  r1 a2 a0 a1 
  rw [a3] at a4
  refine cL a4 rfl rfl (clL_cons (TR.clo (tSl api_ExprNode.t) r1) (clL_cons (TR.clo expr_Scope.t a2) (clL_cons (TR.clo api_Env.t a0) (clL_cons (TR.clo (tSl tU32) a1) clL_nil)))) ?_
  refine mV rfl ?_
  refine nS ?_
  exact rR hres rfl rfl rfl

def RF118 (i0_ w0_ : Nat) (R_ : List Ent) (res : action_state) (r : PV) (h : Heap) : Prop := ∃ uF0 : PV, Mem h (⟨.op i0_ w0_ 0, 171, 16, [uF0]⟩ :: R_) ∧ (action_state.t.R res uF0) ∧ r = .tup []
theorem f118_ok {x0 : action_state} {x1 : api_Statement} {v1 g3 : PV} {R_ : List Ent} {h_ : Heap} {d2 d3 : Nat} (r1 : api_Statement.t.R x1 v1) (b7 : action_state.t.R x0 g3) (M_ : Mem h_ (⟨.op d2 d3 0, 171, 16, [g3]⟩ :: R_)) (hE : EB x0.env) : ∃ r g2, FnX Tryz.prog 118 [.op d2 d3 0, v1] h_ r g2 ∧ RF118 d2 d3 R_ (m2_action_state__assign x0 x1) r g2 := by
  refine fnXX (R := RF118 d2 d3 R_) text118 rfl fun res hres => ?_
  unfold m2_action_state__assign at hres
  refine sR ?_
  refine rd_op (ov_box rfl (TR.cnt api_Statement.t r1)) ?_
  refine nS ?_
  refine rc_region ?_
  refine mV rfl ?_
  refine mV rfl ?_
  refine rd_op (ov_nilCheck rfl rfl) ?_
  refine rd_op (ov_faddrO rfl) ?_
  refine rd_op (ov_faddrO rfl) ?_
  obtain ⟨g9, f8, g0⟩ := action_state.g_scope b7
  obtain ⟨g7, f3, e0⟩ := expr_Scope.g_Program g0
  refine rd_op (ov_loadf (k := 0) M_ rfl rfl (field_field f8 f3)) ?_
  refine mV rfl ?_
  refine rd_op (ov_nilCheck rfl rfl) ?_
  refine rd_op (ov_faddrO rfl) ?_
  obtain ⟨g8, f4, e1⟩ := action_state.g_env b7
  refine rd_op (ov_loadf (k := 0) M_ rfl rfl f4) ?_
  refine gL (api_Statement.g_Dst r1) rfl rfl rfl fun g6 e7 => ?_
  refine mV rfl ?_
  refine gL (api_Statement.g_Value r1) rfl rfl rfl fun g4 f0 => ?_
  have g1 := own_ptr (P := Tryz.prog) (k := 0) M_ rfl (TR.clo action_state.t b7)
  obtain ⟨f5, d4, hres⟩ := let_ex hres
  have d6 := f189_ok  b7 f0 
  rw [d4] at d6
  refine rd_call (cv_lend rfl rfl (dl_cons g1 (dl_cons (deep_closed (TR.clo (tSl api_ExprNode.t) f0)) dl_nil)) d6 rfl) ?_
  obtain ⟨f9, d8, hres⟩ := let_ex hres
  obtain ⟨g5, f6, d7⟩ := f188_ok (x3 := f5) e0 e1 e7 (by first | assumption | omega | (rw [wr_of (by omega) (by omega)]; omega) | (have hk := rval rfl (And.right (And.left (by assumption))); omega) | (have hk := rval (by assumption) (by assumption); omega) | (have hk := rval (by assumption) (And.left (by assumption)); omega) | (have hk := rval (by assumption) (And.left (And.left (by assumption))); have hz := rslc (by assumption); omega) | (simp; done) | (simp only [List.length_append, List.length_nil, List.length_cons]; omega) | (have hk := (chk_ok (by assumption) (by assumption)).1; omega) | (simp only [List.length_cons, List.length_nil]; omega) | (simp only [List.length_append]; have hk := (chk_ok (by assumption) (by assumption)).1; omega) | (simp only [List.length_append, List.length_nil]; have hk := (chk_ok (by assumption) (by assumption)).1; omega))
  rw [d8] at d7
  refine cL f6 rfl rfl (clL_cons (TR.clo api_Program.t e0) (clL_cons (TR.clo api_Env.t e1) (clL_cons (TR.clo api_FieldRef.t e7) (clL_cons rfl clL_nil)))) ?_
  refine rd_op (ov_nilCheck rfl rfl) ?_
  refine rd_op (ov_faddrO rfl) ?_
  obtain ⟨b0, b4, b3, a7, a6, b2, a8, a9, b1, a0, f1, e9, e5, e8, a1, f2, c6, c7, c5, c0, c2, c8, d0, c4, c3, b5, e2, e6, d9, e3, b6⟩ := b7
  subst f2
  obtain ⟨a2, a4, a3, a5, f7, c9, b8, b9, c1⟩ := d7
  subst f7
  refine rd_storeF (k := 0) (v := .agg [a2, a4, a3, a5]) M_ rfl rfl rfl rfl rfl (by first | decide | (simp only [List.length_cons, List.length_nil]; omega) | simp) (fun d5 d1 => ?_)
  replace d1 : Mem d5 (⟨.op d2 d3 0, 171, 16, [.agg [vs x0.scope.Program.Name, b0, b4, b3, a7, a6, b2, a8, a9, b1, a0, a2, a4, a3, a5, a1]]⟩ :: R_) := d1
  refine rd_nil ?_
  have e4 : Mem d5 (⟨.op d2 d3 0, 171, 16, [.agg [vs x0.scope.Program.Name, b0, b4, b3, a7, a6, b2, a8, a9, b1, a0, a2, a4, a3, a5, a1]]⟩ :: R_) := (Mem.front (k := 0) d1 rfl)
  subst hres
  exact pn_endX .nil ⟨(.agg [vs x0.scope.Program.Name, b0, b4, b3, a7, a6, b2, a8, a9, b1, a0, a2, a4, a3, a5, a1]), Mem.sub e4 (.cons_cons _ (List.Sublist.refl R_)), (show action_state.t.R ({ scope := x0.scope, args := x0.args, env := f9, regs := x0.regs } : action_state) (.agg [vs x0.scope.Program.Name, b0, b4, b3, a7, a6, b2, a8, a9, b1, a0, a2, a4, a3, a5, a1]) from ⟨b0, b4, b3, a7, a6, b2, a8, a9, b1, a0, a2, a4, a3, a5, a1, rfl, c6, c7, c5, c0, c2, c8, d0, c4, c3, b5, c9, b8, b9, c1, b6⟩), rfl⟩

def RF274 (res : Bool) (r : PV) : Prop := r = vb res
theorem f274_ok {x0 : List api_Header} {x1 : Int} {v0 : PV} (r0 : (tSl api_Header.t).R x0 v0) : FnR Tryz.prog 274 [v0, vi x1] (vb (env_in_api_Header x0 x1)) := by
  refine fnS (R := RF274) text274 (fun _ h => h) rfl fun res hres => ?_
  unfold env_in_api_Header at hres
  refine sR ?_
  refine mB rfl ?_
  refine nR ?_
  refine mV rfl ?_
  refine bN i_geq rfl rfl ?_
  refine mV rfl ?_
  refine rd_cutn 5 (d := 12) (v := vb ((decide (0 ≤ x1)) && (decide (x1 < (x0.length : Int))))) ?_ ?_
  · intro S Q r
    cases a1 : (decide (0 ≤ x1))
    · exact gN 4 rfl rfl rfl rfl rfl rfl
    · intro k
      have a0 := a1
      try simp only [qa, qaD] at a0
      refine rd_yes rfl rfl (ov_move rfl) ?_
      refine rd_yes rfl rfl (ov_move rfl) ?_
      refine rd_yes rfl rfl (ov_bi rfl (sl_len r0 Tryz.underlying22 _)) ?_
      refine rd_yes rfl rfl (ov_bin rfl rfl i_lss) ?_
      exact gK rfl rfl rfl rfl rfl k
  refine mV rfl ?_
  refine nS ?_
  exact rR hres rfl rfl rfl

def RF275 (res : Bool) (r : PV) : Prop := r = vb res
theorem f275_ok {x0 : List Bool} {x1 : Int} {v0 : PV} (r0 : (tSl tB).R x0 v0) : FnR Tryz.prog 275 [v0, vi x1] (vb (env_in_bool x0 x1)) := by
  refine fnS (R := RF275) text275 (fun _ h => h) rfl fun res hres => ?_
  unfold env_in_bool at hres
  refine sR ?_
  refine mB rfl ?_
  refine nR ?_
  refine mV rfl ?_
  refine bN i_geq rfl rfl ?_
  refine mV rfl ?_
  refine rd_cutn 5 (d := 12) (v := vb ((decide (0 ≤ x1)) && (decide (x1 < (x0.length : Int))))) ?_ ?_
  · intro S Q r
    cases a1 : (decide (0 ≤ x1))
    · exact gN 4 rfl rfl rfl rfl rfl rfl
    · intro k
      have a0 := a1
      try simp only [qa, qaD] at a0
      refine rd_yes rfl rfl (ov_move rfl) ?_
      refine rd_yes rfl rfl (ov_move rfl) ?_
      refine rd_yes rfl rfl (ov_bi rfl (sl_len r0 Tryz.underlying41 _)) ?_
      refine rd_yes rfl rfl (ov_bin rfl rfl i_lss) ?_
      exact gK rfl rfl rfl rfl rfl k
  refine mV rfl ?_
  refine nS ?_
  exact rR hres rfl rfl rfl

theorem rd_clr1 {P : Program} {S : List Fr} {Q : Post} {E : TEnv} {h : Heap} {L : List Ent} {k : Nat} {ty : TypeId} {v zz : PV} {es : List PV} {z : Value} {x : Operand} {r : List AOper} {hf : Bool} (M : Mem h L) (ex : evE E x = some v) (hk : L[k]? = some ⟨v, ty, 1, es⟩) (hne : isL v = true) (hw : Wri v es) (hz : z.cells.toList.map PV.sc = [zz]) (hzc : zz.cellsOf = some [zz]) (hzn : cnt zz = some 1)
    (K : ∀ h', Mem h' (L.set k ⟨v, ty, 1, List.replicate es.length zz⟩) → RD P r S Q E h') : RD P (⟨none, .clr 1 z x, none, hf⟩ :: r) S Q E h := by
  obtain ⟨h', lv, M'⟩ := lv_clr1 (P := P) M ex hk hne hw hz hzc hzn
  exact rd_own0 lv (K h' M')
theorem inb_ok {l : List Bool} {i : Int} (h : env_in_bool l i = true) : 0 ≤ i ∧ i < l.length := by
  unfold env_in_bool at h
  simpa using h
theorem f229_ok {x0 : api_Program} {x1 : api_Env} {x2 : Int} {x3 x4 : Bool} {v0 v1 : PV} (r0 : api_Program.t.R x0 v0) (r1 : api_Env.t.R x1 v1) (hE : EB x1) : ∃ r, FnR Tryz.prog 229 [v0, v1, vi x2, vb x3, vb x4] r ∧ api_Env.t.R (env_switched x0 x1 x2 x3 x4) r := by
  refine fnE text229 (by simp) ?_
  refine rc_seq (rc_region ?_)
  refine rd_op (ov_box rfl (TR.cnt api_Program.t r0)) (rd_op (ov_box rfl (TR.cnt api_Env.t r1)) ?_)
  refine rd_allocO (x := .agg [nilS, nilS, nilS, nilS]) (Mem.nil _) rfl rfl (fun i8 w8 h8 M8 => ?_)
  refine rd_nil (pn_seq (rc_seq (rc_regionS ?_)))
  refine rs_step (rd_op (ov_load rfl (TR.cnt api_Env.t r1) (TR.agg api_Env.t r1)) (rs_back ?_))
  obtain ⟨rr, k, X, a, b, c, d, eb, ef, em, ep, I, rfl, H⟩ := f116o_ok r1 hE M8
  refine rs_callXc rfl rfl X ?_
  refine rs_step (rd_allocO (x := .agg [nilS, nilS, nilS, nilS]) H.M rfl rfl (fun i9 w9 h9 M9 => rs_back ?_))
  refine rs_step (rd_storeO (k := 0) (v := .agg [a, b, c, d]) M9 rfl rfl rfl rfl (fun a3 a1 => rs_back (rs_nil ?_)))
  replace H := H.push (g := ⟨.op i9 w9 0, 46, 4, [.agg [a, b, c, d]]⟩) a1
  clear M8 M9 a1 X
  obtain ⟨d0, a2, s0⟩ := own_sl (P := Tryz.prog) (t := tB) H.M (k := 0) rfl H.na H.v (by have := hE.v; omega)
  have g0 : fieldR 0 1 false (.agg [a, b, c, d]) = some a := mk1 (mem_one H.M (k := 0) rfl H.na).2
  have g1 : fieldR 1 1 false (.agg [a, b, c, d]) = some b := mk1 (mem_one H.M (k := 1) rfl H.nb).2
  have Mp := H.pull
  refine pn_seq (rc_seq (rc_seq (rc_region ?_)))
  refine gL (api_Program.g_Headers r0) rfl rfl rfl (fun vh rh => mV rfl ?_)
  refine cL (f274_ok (x1 := x2) rh) rfl rfl (clL_cons (TR.clo _ rh) (clL_cons rfl clL_nil)) ?_
  refine rd_op (ov_not rfl) (mV rfl ?_)
  refine rd_cutn 6 (d := 25) (v := vb (!env_in_api_Header x0.Headers x2 || !env_in_bool x1.Valid x2)) ?_ ?_
  · intro S Q r
    cases hb : env_in_api_Header x0.Headers x2
    · exact gN 5 rfl rfl rfl rfl rfl rfl
    · intro k
      refine rd_yes rfl rfl (ov_faddrO rfl) (rd_yes rfl rfl (ov_loadf (k := 0) Mp rfl rfl g0) (rd_yes rfl rfl (ov_move rfl) ?_))
      refine rd_ycall rfl rfl (cv_lend rfl rfl (dl_cons a2 (dl_cons (deep_closed rfl) dl_nil)) (f275_ok (x1 := x2) s0) rfl) ?_
      refine rd_yes rfl rfl (ov_not rfl) ?_
      exact gK rfl rfl rfl rfl rfl k
  refine mV rfl ?_
  refine rd_cutn 11 (d := 37) (v := vb ((!env_in_api_Header x0.Headers x2 || !env_in_bool x1.Valid x2) || (x4 && decide (ix x1.Valid x2 = x3)))) ?_ ?_
  · intro S Q r
    cases a0 : (!env_in_api_Header x0.Headers x2 || !env_in_bool x1.Valid x2)
    · intro k
      simp only [Bool.or_eq_false_iff, Bool.not_eq_false'] at a0
      have hi := inb_ok a0.2
      refine rd_yes rfl rfl (ov_move rfl) (rd_yes rfl rfl (ov_move rfl) ?_)
      cases x4
      · refine skips 7 rfl (rd_yes rfl rfl (ov_pick rfl rfl rfl rfl) ?_)
        exact gK rfl rfl rfl rfl rfl k
      · obtain ⟨xx, he, rx⟩ := elem_at (i := x2) H.v hi.1 hi.2
        have rx : xx = vb (ix x1.Valid x2) := rx
        subst rx
        obtain ⟨id, ver, n, rfl⟩ := wri_os H.wa H.v hi.1 hi.2
        have hn := mem_osn H.M (k := 0) rfl
        have hl := H.v.length
        refine rd_yes rfl rfl (ov_faddrO rfl) (rd_yes rfl rfl (ov_loadf (k := 0) Mp rfl rfl g0) (rd_yes rfl rfl (ov_move rfl) ?_))
        refine rd_yes rfl rfl (ov_iaddr rfl rfl (n_idx 1 (i := x2) hi.1 (by omega))) (rd_yes rfl rfl (ov_elem (k := 1) Mp rfl rfl he rfl) (rd_yes rfl rfl (ov_move rfl) ?_))
        refine rd_yes rfl rfl (ov_bin rfl rfl (bin_eqlb (by rw [Tryz.underlying4]; rfl))) (rd_yes rfl rfl (ov_pick rfl rfl rfl rfl) ?_)
        exact gK rfl rfl rfl rfl rfl k
    · exact gN 10 rfl rfl rfl rfl rfl rfl
  refine rd_nil (pn_seq (rc_seq (rc_cond rfl (fun hc => ?_) fun hc => ?_)))
  · have hs : env_switched x0 x1 x2 x3 x4 = x1 := by unfold env_switched; rw [if_pos hc]
    rw [hs]
    exact ret_env H hE rfl rfl rfl
  · have hs : env_switched x0 x1 x2 x3 x4 = swE x1 x2 x3 := by unfold env_switched; rw [if_neg (by rw [hc]; simp)]
    rw [hs]
    simp only [Bool.or_eq_false_iff, Bool.not_eq_false'] at hc
    have hi := inb_ok hc.1.2
    obtain ⟨id, ver, n, rfl⟩ := wri_os H.wa H.v hi.1 hi.2
    have hn := mem_osn H.M (k := 0) rfl
    have hl := H.v.length
    refine rc_skip (pn_seq (rc_seq (rc_region ?_)))
    refine rd_op (ov_faddrO rfl) (rd_op (ov_loadf (k := 0) Mp rfl rfl g0) (mV rfl (mV rfl ?_)))
    refine rd_op (ov_iaddr rfl rfl (n_idx 1 (i := x2) hi.1 (by omega))) ?_
    refine rd_setO (k := 0) (i := x2.toNat) H.M rfl rfl rfl (by omega) rfl (fun h' M' => ?_)
    replace H := H.setV M' ⟨_, _, _, rfl⟩
    replace hE := hE.setV (k := x2.toNat) (v := x3)
    clear M' Mp
    have Mp := H.pull
    refine rd_nil (pn_seq (rc_seq (rc_regionS ?_)))
    refine rs_step (rd_op (ov_faddrO rfl) (rs_back (rs_step (rd_op (ov_loadf (k := 0) Mp rfl rfl g1) (rs_back (rs_step (rd_op (ov_move rfl) (rs_back ?_))))))))
    refine rs_callXc rfl rfl (f271o H.M (k := 1) rfl H.nb H.wb H.aggs (i := x2)) ?_
    have hlf := H.f.len.1
    by_cases hf : x2 < (ef.length : Int)
    · obtain ⟨v, es, e1, e2, e3, e4, e5, e6, e7⟩ := H.inner (i := x2) hi.1 (by omega)
      have ev : (if 0 ≤ x2 ∧ x2 < (ef.length : Int) then ef.getD x2.toNat nilS else nilS) = v := by rw [if_pos ⟨hi.1, hf⟩, List.getD_eq_getElem?_getD, e1]; rfl
      rw [ev]
      refine rs_step (rd_clr1 (zz := vu32 0#32) H.M rfl e3 e5 e7 rfl rfl rfl (fun h2 M2 => rs_back (rs_nil ?_)))
      exact pn_seq (ret_env (H.clrF e1 e2 e4 e5 e6 e7 M2) (hE.setF (by rw [List.length_replicate]; exact hE.i _ (ix_mem hi.1 (by omega)))) rfl rfl rfl)
    · have ev : (if 0 ≤ x2 ∧ x2 < (ef.length : Int) then ef.getD x2.toNat nilS else nilS) = nilS := if_neg (by omega)
      rw [ev]
      refine rs_step (rd_own0 (v := .tup []) (h' := h') ⟨rfl, fun T hT => by simp only [opL, evE_ok hT (show evE ((47, nilS) :: _) (.tmp 47) = some nilS from rfl)]⟩ (rs_back (rs_nil ?_)))
      have es : swE x1 x2 x3 = { x1 with Valid := x1.Valid.set x2.toNat x3 } := by
        have : x1.Fields.set x2.toNat (List.replicate (ix x1.Fields x2).length 0#32) = x1.Fields := List.set_eq_of_length_le (by have hlf : ef.length = x1.Fields.length := hlf; omega)
        unfold swE
        rw [this]
      rw [es]
      exact pn_seq (ret_env H hE rfl rfl rfl)

end Go.Proofs.YtmonnlkagniolaaGreat
