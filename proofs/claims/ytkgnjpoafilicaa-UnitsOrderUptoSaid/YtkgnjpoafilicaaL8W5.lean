/-
  The code of each function does what its plain program says.
-/
import Derived.Test.YtkgnjpoafilicaaL8W4
set_option linter.unusedVariables false
set_option linter.unusedSimpArgs false
set_option maxRecDepth 100000
namespace Go.Proofs.Ytkgnjpoafilicaa
open Go Go.Pb Go.RowKit
def RF32 (res : (List api_Unit)) (r : PV) : Prop := (tSl api_Unit.t).R res r
theorem f32_ok {x0 : api_Program} {v0 : PV} (r0 : api_Program.t.R x0 v0) (hs : csl x0.Control ≤ 1000) : ∃ r, FnR Try.prog 32 [v0] r ∧ (tSl api_Unit.t).R (ref32_Build x0) r := by
  refine fnT (R := RF32) text32 rfl fun res hres => ?_
  unfold ref32_Build at hres
  refine sR ?_
  refine rd_op (ov_box rfl (TR.cnt api_Program.t r0)) ?_
  refine rd_op (v := nilS) (ov_move rfl) ?_
  refine nR ?_
  refine lD r0 rfl rfl rfl ?_
  obtain ⟨c4, a6, hres⟩ := let_ex hres
  have a7 := f17_ok  r0 (by omega)
  rw [a6] at a7
  refine cL a7 rfl rfl (clL_cons (TR.clo api_Program.t r0) clL_nil) ?_
  refine mV rfl ?_
  refine xT rfl rfl ?_
  refine xT rfl rfl ?_
  refine mV rfl ?_
  refine mV rfl ?_
  refine nS ?_
  refine rc_seq ?_
  refine sR ?_
  refine mV rfl ?_
  refine bN i_neq rfl rfl ?_
  refine nS ?_
  refine rc_br hres rfl ?_ ?_ <;> clear hres <;> intro c hres <;> try simp only [qa, qaD] at c
  · refine sR ?_
    refine rd_op (v := nilS) (ov_move rfl) ?_
    refine nS ?_
    exact rR hres rfl (TR.clo (tSl api_Unit.t) sl_nil) sl_nil
  · refine rc_skip ?_
    refine pn_seq ?_
    refine rc_seq ?_
    refine rc_regionS ?_
    refine rs_step ?_
    obtain ⟨c7, b8, a8⟩ := api_Program.g_Control r0
    refine fA rfl b8 ?_
    refine rs_back ?_
    refine rs_step ?_
    refine lD a8 rfl rfl rfl ?_
    refine rs_back ?_
    have b6 := mem_acc (sz := 3) (es := []) (Mem.nil ⟨0, []⟩) 58 (.inl ⟨none, rfl, rfl⟩) (by simp)
    have b3 : Mem ⟨0, []⟩ [⟨nilS, 58, 3, ([] : List PV)⟩] := (Mem.front (k := 0) b6 rfl)
    obtain ⟨c5, a5, hres⟩ := let_ex hres
    obtain ⟨b9, c8, a9, a4⟩ := f67_ok (x0 := ([] : List api_Unit)) (x1 := x0.Control) (x2 := ([] : List api_Guard)) a8 sl_nil (show All2 api_Unit.t.R ([] : List api_Unit) [] from trivial) rfl (by first | decide | simp) (.inl rfl) b3 (by first | omega | (simp only [List.length_nil]; omega)) (by first | omega | (simp only [List.length_nil]; omega))
    rw [a5] at a4
    obtain ⟨b1, b2, b7, a3, a2, a1, b0, a0⟩ := a4
    replace a0 := a0.symm; subst a0
    refine rs_callXc rfl rfl a9 ?_
    refine rs_step ?_
    refine mV rfl ?_
    refine rs_back ?_
    refine rs_nil ?_
    refine pn_seq ?_
    obtain ⟨c6, b4, b5⟩ := own_sl (P := Try.prog) (k := 0) (t := api_Unit.t) b7 rfl a2 a3 (Nat.le_trans a1 (by decide))
    subst hres
    exact rc_retV (.tmp rfl .nil) b4 b5

def RF79 (res : api_ExprNode) (r : PV) : Prop := api_ExprNode.t.R res r
theorem f79_ok {x0 : api_ExprNode} {v0 : PV} (r0 : api_ExprNode.t.R x0 v0) : ∃ r, FnR Try.prog 79 [v0] r ∧ api_ExprNode.t.R (ref13_used x0) r := by
  refine fnT (R := RF79) text79 rfl fun res hres => ?_
  unfold ref13_used at hres
  refine sR ?_
  refine rd_op (ov_box rfl (TR.cnt api_ExprNode.t r0)) ?_
  refine rd_allocO (x := .agg [vi 0, vi 0, vi 0]) (Mem.nil ⟨0, []⟩) rfl rfl (fun a2 a3 b9 a8 => ?_)
  refine nS ?_
  refine rc_seq ?_
  refine sR ?_
  refine fL rfl (api_ExprNode.g_Op r0) rfl rfl ?_
  refine nS ?_
  refine rc_block ?_
  refine rc_seq ?_
  refine sR ?_
  refine bN i_eql rfl rfl ?_
  refine mV rfl ?_
  refine nS ?_
  obtain ⟨b7, b2, hres⟩ := let_ex hres
  refine rc_join (F := fun b S Q => ∀ (a4 : Bool) (a7 : Heap) (a0 : Mem a7 [⟨.op a2 a3 0, 106, 3, [.agg [vi 0, vi 0, vi 0]]⟩]), b7 a4 = res → RC Try.prog b S Q [(5, vb a4), (4, vi x0.Op), (2, .op a2 a3 0), (1, .fp v0)] a7) ?_ ?_
  · intro a4 a7 a0 hres
    rw [← b2] at hres
    refine rc_br hres rfl ?_ ?_ <;> clear hres <;> intro c hres <;> try simp only [qa, qaD] at c
    · refine sR ?_
      refine lD r0 rfl rfl rfl ?_
      refine rd_storeO (k := 0) (v := v0) a0 rfl rfl rfl (TR.cnt api_ExprNode.t r0) (fun b5 b1 => ?_)
      replace b1 : Mem b5 [⟨.op a2 a3 0, 106, 3, [v0]⟩] := b1
      refine nS ?_
      subst hres
      exact rc_retV (.cell rfl (load_whole (k := 0) b1 rfl (TR.agg api_ExprNode.t r0)) .nil) (deep_closed (TR.clo api_ExprNode.t r0)) r0
    · refine rc_seq ?_
      refine sR ?_
      refine bN i_eql rfl rfl ?_
      refine mV rfl ?_
      refine nS ?_
      obtain ⟨b6, b3, hres⟩ := let_ex hres
      refine rc_join (F := fun b S Q => ∀ (a1 : Bool) (a6 : Heap) (a5 : Mem a6 [⟨.op a2 a3 0, 106, 3, [.agg [vi 0, vi 0, vi 0]]⟩]), b6 a1 = res → RC Try.prog b S Q [(10, vb a1), (2, .op a2 a3 0), (1, .fp v0)] a6) ?_ ?_
      · intro a1 a6 a5 hres
        rw [← b3] at hres
        refine rc_br hres rfl ?_ ?_ <;> clear hres <;> intro c hres <;> try simp only [qa, qaD] at c
        · refine sR ?_
          refine fL rfl (api_ExprNode.g_Op r0) rfl rfl ?_
          refine fL rfl (api_ExprNode.g_N r0) rfl rfl ?_
          refine rd_op (v := .agg [vi x0.Op, vi x0.N, vi 0]) (ov_build (cs := [vi x0.Op, vi x0.N, vi 0]) rfl rfl) ?_
          refine rd_storeO (k := 0) (v := .agg [vi x0.Op, vi x0.N, vi 0]) a5 rfl rfl rfl rfl (fun b8 b0 => ?_)
          replace b0 : Mem b8 [⟨.op a2 a3 0, 106, 3, [.agg [vi x0.Op, vi x0.N, vi 0]]⟩] := b0
          refine nS ?_
          subst hres
          exact rc_retV (.cell rfl (load_whole (k := 0) b0 rfl rfl) .nil) (deep_closed (TR.clo api_ExprNode.t (show api_ExprNode.t.R ({ Op := x0.Op, N := x0.N, W := 0 } : api_ExprNode) (.agg [vi x0.Op, vi x0.N, vi 0]) from rfl))) (show api_ExprNode.t.R ({ Op := x0.Op, N := x0.N, W := 0 } : api_ExprNode) (.agg [vi x0.Op, vi x0.N, vi 0]) from rfl)
        · refine rc_skip ?_
          refine pn_blk ?_
          refine pn_seq ?_
          refine sR ?_
          refine fL rfl (api_ExprNode.g_Op r0) rfl rfl ?_
          refine rd_op (v := .agg [vi x0.Op, vi 0, vi 0]) (ov_build (cs := [vi x0.Op, vi 0, vi 0]) rfl rfl) ?_
          refine rd_storeO (k := 0) (v := .agg [vi x0.Op, vi 0, vi 0]) a5 rfl rfl rfl rfl (fun b4 a9 => ?_)
          replace a9 : Mem b4 [⟨.op a2 a3 0, 106, 3, [.agg [vi x0.Op, vi 0, vi 0]]⟩] := a9
          refine nS ?_
          subst hres
          exact rc_retV (.cell rfl (load_whole (k := 0) a9 rfl rfl) .nil) (deep_closed (TR.clo api_ExprNode.t (show api_ExprNode.t.R ({ Op := x0.Op, N := 0, W := 0 } : api_ExprNode) (.agg [vi x0.Op, vi 0, vi 0]) from rfl))) (show api_ExprNode.t.R ({ Op := x0.Op, N := 0, W := 0 } : api_ExprNode) (.agg [vi x0.Op, vi 0, vi 0]) from rfl)
      · intro J
        refine rc_br hres rfl ?_ ?_ <;> clear hres <;> intro c hres <;> try simp only [qa, qaD] at c
        · refine rc_skip ?_
          refine pn_seq (wC (J _ _ (Mem.sub a0 (.cons_cons _ .slnil)) hres) rfl)
        · refine sR ?_
          refine bN i_eql rfl rfl ?_
          refine mV rfl ?_
          refine nS ?_
          refine rc_br hres rfl ?_ ?_ <;> clear hres <;> intro c hres <;> try simp only [qa, qaD] at c
          · refine rc_skip ?_
            refine pn_seq (wC (J _ _ (Mem.sub a0 (.cons_cons _ .slnil)) hres) rfl)
          · refine sR ?_
            refine bN i_eql rfl rfl ?_
            refine mV rfl ?_
            refine nS ?_
            refine rc_br hres rfl ?_ ?_ <;> clear hres <;> intro c hres <;> try simp only [qa, qaD] at c
            · refine rc_skip ?_
              refine pn_seq (wC (J _ _ (Mem.sub a0 (.cons_cons _ .slnil)) hres) rfl)
            · refine rc_region ?_
              refine bN i_eql rfl rfl ?_
              refine mV rfl ?_
              refine rd_nil ?_
              refine pn_seq (wC (J _ _ (Mem.sub a0 (.cons_cons _ .slnil)) hres) rfl)
  · intro J
    refine rc_br hres rfl ?_ ?_ <;> clear hres <;> intro c hres <;> try simp only [qa, qaD] at c
    · refine rc_skip ?_
      refine pn_seq (wC (J _ _ (Mem.sub a8 (.cons_cons _ .slnil)) hres) rfl)
    · refine sR ?_
      refine bN i_eql rfl rfl ?_
      refine mV rfl ?_
      refine nS ?_
      refine rc_br hres rfl ?_ ?_ <;> clear hres <;> intro c hres <;> try simp only [qa, qaD] at c
      · refine rc_skip ?_
        refine pn_seq (wC (J _ _ (Mem.sub a8 (.cons_cons _ .slnil)) hres) rfl)
      · refine rc_region ?_
        refine bN i_eql rfl rfl ?_
        refine mV rfl ?_
        refine rd_nil ?_
        refine pn_seq (wC (J _ _ (Mem.sub a8 (.cons_cons _ .slnil)) hres) rfl)

def RF59 (res : Bool) (r : PV) : Prop := r = vb res
theorem ref13_EqualNodes_L1_ok {S : List Fr} {res : Bool} {x0 : List api_ExprNode} {x1 : List api_ExprNode} {v0 v1 : PV} (r0 : (tSl api_ExprNode.t).R x0 v0) (r1 : (tSl api_ExprNode.t).R x1 v1) (a5 : (!decide ((x0.length : Int) = (x1.length : Int))) = false) {K0 : Unit → Bool}
    (c5 : K0 () = res → PX Try.prog 0 S (QR Try.prog [(4, none)] (RF59 res)) [] ⟨0, []⟩) :
    ∀ {m : Nat} {a0 : Int} (b4 : m = Int.toNat ((x0.length : Int) - a0)) (a6 : 0 ≤ a0), ref13_EqualNodes_L1 x0 x1 K0 m a0 = res → RC Try.prog (.loop ac59_L1) S (QR Try.prog [(4, none)] (RF59 res)) [(5, vi a0), (1, v1), (0, v0)] ⟨0, []⟩ := by
  have a2 := a5
  try simp only [qa, qaD] at a2
  intro m
  induction m with
  | zero =>
    intro a0 b4 a6 hres
    rw [ref13_EqualNodes_L1] at hres
    refine rc_loop ?_
    refine rc_seq ?_
    refine sR ?_
    refine mV rfl ?_
    refine mV rfl ?_
    refine rd_op (ov_bi rfl (sl_len r0 Try.underlying38 _)) ?_
    refine bN i_lss rfl rfl ?_
    refine nS ?_
    refine rc_cond rfl ?_ ?_ <;> intro c <;> try simp only [qa, qaD] at c
    · omega
    refine rc_exit ?_
    refine px_seq ?_
    refine px_again ?_
    exact wP (c5  hres) rfl
  | succ m ih =>
    intro a0 b4 a6 hres
    rw [ref13_EqualNodes_L1] at hres
    refine rc_loop ?_
    refine rc_seq ?_
    refine sR ?_
    refine mV rfl ?_
    refine mV rfl ?_
    refine rd_op (ov_bi rfl (sl_len r0 Try.underlying38 _)) ?_
    refine bN i_lss rfl rfl ?_
    refine nS ?_
    refine rc_cond rfl ?_ ?_ <;> intro c <;> try simp only [qa, qaD] at c
    rotate_left
    · omega
    refine rc_skip ?_
    refine pn_seq ?_
    refine rc_seq ?_
    refine rc_block ?_
    refine sR ?_
    refine mV rfl ?_
    refine mV rfl ?_
    obtain ⟨c4, b3, a3⟩ := sl_idx (i := a0) r0 (by omega) (by omega)
    refine rd_op (ov_iaddr rfl rfl b3) ?_
    refine lD a3 rfl rfl rfl ?_
    obtain ⟨b7, a4, hres⟩ := let_ex hres
    obtain ⟨b9, b0, a9⟩ := f79_ok  a3 
    rw [a4] at a9
    refine cL b0 rfl rfl (clL_cons (TR.clo api_ExprNode.t a3) clL_nil) ?_
    refine mV rfl ?_
    refine mV rfl ?_
    obtain ⟨b5, b1, a1⟩ := sl_idx (i := a0) r1 (by omega) (by omega)
    refine rd_op (ov_iaddr rfl rfl b1) ?_
    refine lD a1 rfl rfl rfl ?_
    obtain ⟨b8, a7, hres⟩ := let_ex hres
    obtain ⟨b6, b2, a8⟩ := f79_ok  a1 
    rw [a7] at a8
    refine cL b2 rfl rfl (clL_cons (TR.clo api_ExprNode.t a1) clL_nil) ?_
    refine bN (api_ExprNode.neq_106 a9 a8) rfl rfl ?_
    refine nS ?_
    refine rc_br hres rfl ?_ ?_ <;> clear hres <;> intro c hres <;> try simp only [qa, qaD] at c
    · refine sR ?_
      refine mB rfl ?_
      refine nS ?_
      exact rR hres rfl rfl rfl
    · refine rc_skip ?_
      refine pn_blk ?_
      refine pn_seq ?_
      refine rc_region ?_
      refine mV rfl ?_
      refine bN i_add rfl rfl ?_
      refine mV rfl ?_
      refine rd_nil ?_
      refine pn_again ?_
      have hbd := sl_bound r0
      have hinc : wr (a0 + 1) = a0 + 1 := wr_of (by omega) (by omega)
      erw [hinc]
      exact wC (ih   (by omega) (by omega) hres) rfl

theorem f59_ok {x0 : List api_ExprNode} {x1 : List api_ExprNode} {v0 v1 : PV} (r0 : (tSl api_ExprNode.t).R x0 v0) (r1 : (tSl api_ExprNode.t).R x1 v1) : FnR Try.prog 59 [v0, v1] (vb (ref13_EqualNodes x0 x1)) := by
  refine fnS (R := RF59) text59 (fun _ h => h) rfl fun res hres => ?_
  unfold ref13_EqualNodes at hres
  refine sR ?_
  refine mB rfl ?_
  refine nS ?_
  refine rc_seq ?_
  refine sR ?_
  refine mV rfl ?_
  refine rd_op (ov_bi rfl (sl_len r0 Try.underlying38 _)) ?_
  refine mV rfl ?_
  refine rd_op (ov_bi rfl (sl_len r1 Try.underlying38 _)) ?_
  refine bN i_neq rfl rfl ?_
  refine nS ?_
  refine rc_br hres rfl ?_ ?_ <;> clear hres <;> intro a0 hres <;> have a1 := a0 <;> try simp only [qa, qaD] at a1
  · refine sR ?_
    refine mB rfl ?_
    refine nS ?_
    exact rR hres rfl rfl rfl
  · refine rc_skip ?_
    refine pn_seq ?_
    refine rc_seq ?_
    refine sR ?_
    refine mI rfl ?_
    refine nS ?_
    refine rc_block ?_
    refine wC (ref13_EqualNodes_L1_ok r0 r1 a0 ?_  rfl (by omega) hres) rfl
    · intro  hres
      refine px_blk ?_
      refine pn_seq ?_
      refine sR ?_
      refine mB rfl ?_
      refine nS ?_
      exact rR hres rfl rfl rfl

def RF30 (res : Bool) (r : PV) : Prop := r = vb res
theorem ref32_EqualUnits_L2_ok {S : List Fr} {res : Bool} {x0 : List api_Unit} {x1 : List api_Unit} {a0 : Int} {v0 v1 : PV} (r0 : (tSl api_Unit.t).R x0 v0) (r1 : (tSl api_Unit.t).R x1 v1) (a6 : (!decide ((x0.length : Int) = (x1.length : Int))) = false) (d5 : 0 ≤ a0) (a9 : (decide (a0 < (x0.length : Int))) = true) (a8 : (((!decide (((ix x0 a0).Table) = ((ix x1 a0).Table))) || (!(ref13_EqualNodes ((ix x0 a0).Cond) ((ix x1 a0).Cond)))) || (!decide ((((ix x0 a0).Guards).length : Int) = (((ix x1 a0).Guards).length : Int)))) = false) {K2 : Unit → Bool}
    (e0 : K2 () = res → PX Try.prog 2 S (QR Try.prog [(4, none)] (RF30 res)) [(0, v0), (1, v1), (5, vi a0)] ⟨0, []⟩) :
    ∀ {m : Nat} {a1 : Int} (c9 : m = Int.toNat ((((ix x0 a0).Guards).length : Int) - a1)) (a5 : 0 ≤ a1), ref32_EqualUnits_L2 x0 x1 a0 K2 m a1 = res → RC Try.prog (.loop ac30_L2) S (QR Try.prog [(4, none)] (RF30 res)) [(6, vi a1), (5, vi a0), (1, v1), (0, v0)] ⟨0, []⟩ := by
  have a2 := a6
  try simp only [qa, qaD] at a2
  have a4 := a9
  try simp only [qa, qaD] at a4
  have a3 := a8
  try simp only [qa, qaD] at a3
  intro m
  induction m with
  | zero =>
    intro a1 c9 a5 hres
    rw [ref32_EqualUnits_L2] at hres
    refine rc_loop ?_
    refine rc_seq ?_
    refine sR ?_
    refine mV rfl ?_
    refine mV rfl ?_
    refine mV rfl ?_
    obtain ⟨d6, b5, b6⟩ := sl_idx (i := a0) r0 (by omega) (by omega)
    refine rd_op (ov_iaddr rfl rfl b5) ?_
    refine gL (api_Unit.g_Guards b6) rfl rfl rfl fun d9 c7 => ?_
    refine rd_op (ov_bi rfl (sl_len c7 Try.underlying56 _)) ?_
    refine bN i_lss rfl rfl ?_
    refine nS ?_
    refine rc_cond rfl ?_ ?_ <;> intro c <;> try simp only [qa, qaD] at c
    · omega
    refine rc_exit ?_
    refine px_seq ?_
    refine px_again ?_
    exact wP (e0  hres) rfl
  | succ m ih =>
    intro a1 c9 a5 hres
    rw [ref32_EqualUnits_L2] at hres
    refine rc_loop ?_
    refine rc_seq ?_
    refine sR ?_
    refine mV rfl ?_
    refine mV rfl ?_
    refine mV rfl ?_
    obtain ⟨d1, b4, b7⟩ := sl_idx (i := a0) r0 (by omega) (by omega)
    refine rd_op (ov_iaddr rfl rfl b4) ?_
    refine gL (api_Unit.g_Guards b7) rfl rfl rfl fun d2 b1 => ?_
    refine rd_op (ov_bi rfl (sl_len b1 Try.underlying56 _)) ?_
    refine bN i_lss rfl rfl ?_
    refine nS ?_
    refine rc_cond rfl ?_ ?_ <;> intro c <;> try simp only [qa, qaD] at c
    rotate_left
    · omega
    refine rc_skip ?_
    refine pn_seq ?_
    refine rc_seq ?_
    refine rc_block ?_
    refine sR ?_
    refine mV rfl ?_
    refine mV rfl ?_
    obtain ⟨d3, c8, c6⟩ := sl_idx (i := a0) r0 (by omega) (by omega)
    refine rd_op (ov_iaddr rfl rfl c8) ?_
    refine gL (api_Unit.g_Guards c6) rfl rfl rfl fun e1 c5 => ?_
    refine mV rfl ?_
    obtain ⟨d0, b9, a7⟩ := sl_idx (i := a1) c5 (by omega) (by omega)
    refine rd_op (ov_iaddr rfl rfl b9) ?_
    refine lD a7 rfl rfl rfl ?_
    refine mV rfl ?_
    refine mV rfl ?_
    obtain ⟨d8, c4, b2⟩ := sl_idx (i := a0) r1 (by omega) (by omega)
    refine rd_op (ov_iaddr rfl rfl c4) ?_
    refine gL (api_Unit.g_Guards b2) rfl rfl rfl fun d4 b8 => ?_
    refine mV rfl ?_
    obtain ⟨d7, b3, b0⟩ := sl_idx (i := a1) b8 (by omega) (by omega)
    refine rd_op (ov_iaddr rfl rfl b3) ?_
    refine lD b0 rfl rfl rfl ?_
    refine bN (api_Guard.neq_60 a7 b0) rfl rfl ?_
    refine nS ?_
    refine rc_br hres rfl ?_ ?_ <;> clear hres <;> intro c hres <;> try simp only [qa, qaD] at c
    · refine sR ?_
      refine mB rfl ?_
      refine nS ?_
      exact rR hres rfl rfl rfl
    · refine rc_skip ?_
      refine pn_blk ?_
      refine pn_seq ?_
      refine rc_region ?_
      refine mV rfl ?_
      refine bN i_add rfl rfl ?_
      refine mV rfl ?_
      refine rd_nil ?_
      refine pn_again ?_
      have hbd := sl_bound b1
      have hinc : wr (a1 + 1) = a1 + 1 := wr_of (by omega) (by omega)
      erw [hinc]
      exact wC (ih   (by omega) (by omega) hres) rfl

theorem ref32_EqualUnits_L1_ok {S : List Fr} {res : Bool} {x0 : List api_Unit} {x1 : List api_Unit} {v0 v1 : PV} (r0 : (tSl api_Unit.t).R x0 v0) (r1 : (tSl api_Unit.t).R x1 v1) (a4 : (!decide ((x0.length : Int) = (x1.length : Int))) = false) {K0 : Unit → Bool}
    (e6 : K0 () = res → PX Try.prog 0 S (QR Try.prog [(4, none)] (RF30 res)) [] ⟨0, []⟩) :
    ∀ {m : Nat} {a0 : Int} (d7 : m = Int.toNat ((x0.length : Int) - a0)) (a9 : 0 ≤ a0), ref32_EqualUnits_L1 x0 x1 K0 m a0 = res → RC Try.prog (.loop ac30_L1) S (QR Try.prog [(4, none)] (RF30 res)) [(5, vi a0), (1, v1), (0, v0)] ⟨0, []⟩ := by
  have a8 := a4
  try simp only [qa, qaD] at a8
  intro m
  induction m with
  | zero =>
    intro a0 d7 a9 hres
    rw [ref32_EqualUnits_L1] at hres
    refine rc_loop ?_
    refine rc_seq ?_
    refine sR ?_
    refine mV rfl ?_
    refine mV rfl ?_
    refine rd_op (ov_bi rfl (sl_len r0 Try.underlying48 _)) ?_
    refine bN i_lss rfl rfl ?_
    refine nS ?_
    refine rc_cond rfl ?_ ?_ <;> intro c <;> try simp only [qa, qaD] at c
    · omega
    refine rc_exit ?_
    refine px_seq ?_
    refine px_again ?_
    exact wP (e6  hres) rfl
  | succ m ih =>
    intro a0 d7 a9 hres
    rw [ref32_EqualUnits_L1] at hres
    refine rc_loop ?_
    refine rc_seq ?_
    refine sR ?_
    refine mV rfl ?_
    refine mV rfl ?_
    refine rd_op (ov_bi rfl (sl_len r0 Try.underlying48 _)) ?_
    refine bN i_lss rfl rfl ?_
    refine nS ?_
    refine rc_cond rfl (fun a1 => ?_) (fun a1 => ?_)
    · have hgo := hres
      have b3 := a1
      try simp only [qa, qaD] at b3
      refine rc_skip ?_
      refine pn_seq ?_
      refine rc_seq ?_
      refine rc_block ?_
      refine rc_seq ?_
      refine sR ?_
      refine mV rfl ?_
      refine mV rfl ?_
      obtain ⟨e5, d6, d3⟩ := sl_idx (i := a0) r0 (by omega) (by omega)
      refine rd_op (ov_iaddr rfl rfl d6) ?_
      refine fL rfl (api_Unit.g_Table d3) rfl rfl ?_
      refine mV rfl ?_
      refine mV rfl ?_
      obtain ⟨e3, c5, c9⟩ := sl_idx (i := a0) r1 (by omega) (by omega)
      refine rd_op (ov_iaddr rfl rfl c5) ?_
      refine fL rfl (api_Unit.g_Table c9) rfl rfl ?_
      refine bN i_neq rfl rfl ?_
      refine mV rfl ?_
      refine rd_cutn 13 (d := 42) (v := vb ((!decide (((ix x0 a0).Table) = ((ix x1 a0).Table))) || (!(ref13_EqualNodes ((ix x0 a0).Cond) ((ix x1 a0).Cond))))) ?_ ?_
      · intro S Q r
        cases b5 : (!decide (((ix x0 a0).Table) = ((ix x1 a0).Table)))
        · intro k
          have a7 := b5
          try simp only [qa, qaD] at a7
          refine rd_yes rfl rfl (ov_move rfl) ?_
          refine rd_yes rfl rfl (ov_move rfl) ?_
          obtain ⟨d8, c8, b6⟩ := sl_idx (i := a0) r0 (by omega) (by omega)
          refine rd_yes rfl rfl (ov_iaddr rfl rfl c8) ?_
          obtain ⟨e0, b9, a2⟩ := api_Unit.g_Cond b6
          refine rd_yes rfl rfl (ov_faddr rfl b9) ?_
          refine rd_yes rfl rfl (ov_load rfl (TR.cnt (tSl api_ExprNode.t) a2) (TR.agg (tSl api_ExprNode.t) a2)) ?_
          refine rd_yes rfl rfl (ov_move rfl) ?_
          refine rd_yes rfl rfl (ov_move rfl) ?_
          obtain ⟨e2, d4, d0⟩ := sl_idx (i := a0) r1 (by omega) (by omega)
          refine rd_yes rfl rfl (ov_iaddr rfl rfl d4) ?_
          obtain ⟨e4, c4, a3⟩ := api_Unit.g_Cond d0
          refine rd_yes rfl rfl (ov_faddr rfl c4) ?_
          refine rd_yes rfl rfl (ov_load rfl (TR.cnt (tSl api_ExprNode.t) a3) (TR.agg (tSl api_ExprNode.t) a3)) ?_
          have d2 := f59_ok  a2 a3 
          refine rd_ycall rfl rfl (cv_fn rfl rfl (clL_cons (TR.clo (tSl api_ExprNode.t) a2) (clL_cons (TR.clo (tSl api_ExprNode.t) a3) clL_nil)) d2) ?_
          refine rd_yes rfl rfl (ov_not rfl) ?_
          exact gK rfl rfl rfl rfl rfl k
        · exact gN 12 rfl rfl rfl rfl rfl rfl
      refine mV rfl ?_
      refine rd_cutn 14 (d := 57) (v := vb (((!decide (((ix x0 a0).Table) = ((ix x1 a0).Table))) || (!(ref13_EqualNodes ((ix x0 a0).Cond) ((ix x1 a0).Cond)))) || (!decide ((((ix x0 a0).Guards).length : Int) = (((ix x1 a0).Guards).length : Int))))) ?_ ?_
      · intro S Q r
        cases b4 : ((!decide (((ix x0 a0).Table) = ((ix x1 a0).Table))) || (!(ref13_EqualNodes ((ix x0 a0).Cond) ((ix x1 a0).Cond))))
        · intro k
          have a6 := b4
          try simp only [qa, qaD] at a6
          refine rd_yes rfl rfl (ov_move rfl) ?_
          refine rd_yes rfl rfl (ov_move rfl) ?_
          obtain ⟨e1, d5, b8⟩ := sl_idx (i := a0) r0 (by omega) (by omega)
          refine rd_yes rfl rfl (ov_iaddr rfl rfl d5) ?_
          obtain ⟨e7, c6, b0⟩ := api_Unit.g_Guards b8
          refine rd_yes rfl rfl (ov_faddr rfl c6) ?_
          refine rd_yes rfl rfl (ov_load rfl (TR.cnt (tSl api_Guard.t) b0) (TR.agg (tSl api_Guard.t) b0)) ?_
          refine rd_yes rfl rfl (ov_bi rfl (sl_len b0 Try.underlying56 _)) ?_
          refine rd_yes rfl rfl (ov_move rfl) ?_
          refine rd_yes rfl rfl (ov_move rfl) ?_
          obtain ⟨e8, b7, d1⟩ := sl_idx (i := a0) r1 (by omega) (by omega)
          refine rd_yes rfl rfl (ov_iaddr rfl rfl b7) ?_
          obtain ⟨d9, c7, b1⟩ := api_Unit.g_Guards d1
          refine rd_yes rfl rfl (ov_faddr rfl c7) ?_
          refine rd_yes rfl rfl (ov_load rfl (TR.cnt (tSl api_Guard.t) b1) (TR.agg (tSl api_Guard.t) b1)) ?_
          refine rd_yes rfl rfl (ov_bi rfl (sl_len b1 Try.underlying56 _)) ?_
          refine rd_yes rfl rfl (ov_bin rfl rfl i_neq) ?_
          exact gK rfl rfl rfl rfl rfl k
        · exact gN 13 rfl rfl rfl rfl rfl rfl
      refine nS ?_
      refine rc_br hres rfl ?_ ?_ <;> clear hres <;> intro a5 hres <;> have b2 := a5 <;> try simp only [qa, qaD] at b2
      · refine sR ?_
        refine mB rfl ?_
        refine nS ?_
        exact rR hres rfl rfl rfl
      · refine rc_skip ?_
        refine pn_seq ?_
        refine sR ?_
        refine mI rfl ?_
        refine nS ?_
        refine rc_block ?_
        refine wC (ref32_EqualUnits_L2_ok r0 r1 a4 a9 a1 a5 ?_  rfl (by omega) hres) rfl
        · intro  hres
          refine px_blk ?_
          refine pn_blk ?_
          refine pn_seq ?_
          refine rc_region ?_
          refine mV rfl ?_
          refine bN i_add rfl rfl ?_
          refine mV rfl ?_
          refine rd_nil ?_
          refine pn_again ?_
          have hbd := sl_bound r0
          have hinc : wr (a0 + 1) = a0 + 1 := wr_of (by omega) (by omega)
          erw [hinc]
          exact wC (ih   (by omega) (by omega) hres) rfl
    · exfalso
      try simp only [qa, qaD] at a1
      omega

theorem f30_ok {x0 : List api_Unit} {x1 : List api_Unit} {v0 v1 : PV} (r0 : (tSl api_Unit.t).R x0 v0) (r1 : (tSl api_Unit.t).R x1 v1) : FnR Try.prog 30 [v0, v1] (vb (ref32_EqualUnits x0 x1)) := by
  refine fnS (R := RF30) text30 (fun _ h => h) rfl fun res hres => ?_
  unfold ref32_EqualUnits at hres
  refine sR ?_
  refine mB rfl ?_
  refine nS ?_
  refine rc_seq ?_
  refine sR ?_
  refine mV rfl ?_
  refine rd_op (ov_bi rfl (sl_len r0 Try.underlying48 _)) ?_
  refine mV rfl ?_
  refine rd_op (ov_bi rfl (sl_len r1 Try.underlying48 _)) ?_
  refine bN i_neq rfl rfl ?_
  refine nS ?_
  refine rc_br hres rfl ?_ ?_ <;> clear hres <;> intro a0 hres <;> have a1 := a0 <;> try simp only [qa, qaD] at a1
  · refine sR ?_
    refine mB rfl ?_
    refine nS ?_
    exact rR hres rfl rfl rfl
  · refine rc_skip ?_
    refine pn_seq ?_
    refine rc_seq ?_
    refine sR ?_
    refine mI rfl ?_
    refine nS ?_
    refine rc_block ?_
    refine wC (ref32_EqualUnits_L1_ok r0 r1 a0 ?_  rfl (by omega) hres) rfl
    · intro  hres
      refine px_blk ?_
      refine pn_seq ?_
      refine sR ?_
      refine mB rfl ?_
      refine nS ?_
      exact rR hres rfl rfl rfl

def RF5 (res : Bool) (r : PV) : Prop := r = vb res
theorem f5_ok {x0 : api_Program} {v0 : PV} (r0 : api_Program.t.R x0 v0) (hbu : btl x0.Control ≤ 1048576) : FnR Try.prog 5 [v0] (vb (law32_UnitsBuild x0)) := by
  refine fnS (R := RF5) text5 (fun _ h => h) rfl fun res hres => ?_
  unfold law32_UnitsBuild at hres
  refine sR ?_
  refine rd_op (ov_box rfl (TR.cnt api_Program.t r0)) ?_
  refine mB rfl ?_
  refine nS ?_
  refine rc_seq ?_
  refine sR ?_
  refine lD r0 rfl rfl rfl ?_
  obtain ⟨b8, a6, hres⟩ := let_ex hres
  have b1 := f28_ok  r0 
  rw [a6] at b1
  refine cL b1 rfl rfl (clL_cons (TR.clo api_Program.t r0) clL_nil) ?_
  refine rd_op (ov_not rfl) ?_
  refine nS ?_
  refine rc_br hres rfl ?_ ?_ <;> clear hres <;> intro c hres <;> try simp only [qa, qaD] at c
  · refine sR ?_
    obtain ⟨b9, a9, hres⟩ := let_ex hres
    have a3 := f29_ok   
    rw [a9] at a3
    refine cL a3 rfl rfl clL_nil ?_
    refine mV rfl ?_
    refine nS ?_
    exact rR hres rfl rfl rfl
  · refine rc_skip ?_
    refine pn_seq ?_
    refine sR ?_
    refine lD r0 rfl rfl rfl ?_
    obtain ⟨b6, a5, hres⟩ := let_ex hres
    obtain ⟨c5, b4, a2⟩ := f31_ok  r0 (by (first | exact gu_of (by assumption) | (have hk := sm_csl (by assumption) (by assumption) (by assumption); first | omega | (simp only [List.length_nil]; omega)))) (by (first | exact gu_of (by assumption) | (have hk := sm_csl (by assumption) (by assumption) (by assumption); first | omega | (simp only [List.length_nil]; omega))))
    rw [a5] at a2
    refine cL b4 rfl rfl (clL_cons (TR.clo api_Program.t r0) clL_nil) ?_
    refine lD r0 rfl rfl rfl ?_
    obtain ⟨c4, b0, hres⟩ := let_ex hres
    obtain ⟨b7, b3, a0⟩ := f32_ok  r0 (by (first | exact gu_of (by assumption) | (have hk := sm_csl (by assumption) (by assumption) (by assumption); first | omega | (simp only [List.length_nil]; omega))))
    rw [b0] at a0
    refine cL b3 rfl rfl (clL_cons (TR.clo api_Program.t r0) clL_nil) ?_
    obtain ⟨a7, a8, hres⟩ := let_ex hres
    have b2 := f30_ok  a2 a0 
    rw [a8] at b2
    refine cL b2 rfl rfl (clL_cons (TR.clo (tSl api_Unit.t) a2) (clL_cons (TR.clo (tSl api_Unit.t) a0) clL_nil)) ?_
    refine mV rfl ?_
    refine rd_cutn 2 (d := 14) (v := vb (a7 && (law32_awake))) ?_ ?_
    · intro S Q r
      cases a4 : a7
      · exact gN 1 rfl rfl rfl rfl rfl rfl
      · intro k
        have a1 := a4
        try simp only [qa, qaD] at a1
        have b5 := f29_ok   
        refine rd_ycall rfl rfl (cv_fn rfl rfl clL_nil b5) ?_
        exact gK rfl rfl rfl rfl rfl k
    refine mV rfl ?_
    refine nS ?_
    exact rR hres rfl rfl rfl

def RF8 (res : Bool) (r : PV) : Prop := r = vb res
theorem law32_UnitsOrder_L2_ok {S : List Fr} {res : Bool} {x0 : api_Program} {b9 : Bool} {a0 : (List api_Unit)} {a1 : Int} {a7 : List Bool} {b4 : PV} {a4 : List PV} {a6 a5 : Nat} (hbu : btl x0.Control ≤ 1048576) (g0 : law22_Small x0 = b9) (c7 : (!b9) = false) (f9 : units_Build x0 = a0) (a3 : (tSl api_Unit.t).R a0 b4) (f6 : (List.replicate x0.Tables.length false).length = x0.Tables.length) (f7 : (List.replicate x0.Tables.length false).length ≤ 4611686018427387904) (e9 : a7.length = x0.Tables.length) (e6 : a7.length ≤ 4611686018427387904) (g6 : 0 ≤ a1) (c5 : (decide (a1 < (a0.length : Int))) = true) {K2 : Unit → Bool}
    (g4 : ∀ {h : Heap} (M0 : Mem h [⟨.os a6 a5 0 x0.Tables.length, 4, 1, a4⟩]), K2 () = res → PX Try.prog 2 S (QR Try.prog [(2, none)] (RF8 res)) [(3, b4), (4, .os a6 a5 0 x0.Tables.length), (5, vi a1)] h) :
    ∀ {m : Nat} {a2 : Int} (f8 : m = Int.toNat ((((ix a0 a1).Guards).length : Int) - a2)) (b7 : 0 ≤ a2) {h : Heap} (M0 : Mem h [⟨.os a6 a5 0 x0.Tables.length, 4, 1, a4⟩]), law32_UnitsOrder_L2 a0 a1 K2 m a2 = res → RC Try.prog (.loop ac8_L2) S (QR Try.prog [(2, none)] (RF8 res)) [(6, vi a2), (5, vi a1), (4, .os a6 a5 0 x0.Tables.length), (3, b4)] h := by
  have hbu' := hbu
  try simp only [qa, qaD] at hbu'
  have a9 := c7
  try simp only [qa, qaD] at a9
  have b2 := c5
  try simp only [qa, qaD] at b2
  intro m
  induction m with
  | zero =>
    intro a2 f8 b7 h M0 hres
    rw [law32_UnitsOrder_L2] at hres
    refine rc_loop ?_
    refine rc_seq ?_
    refine sR ?_
    refine mV rfl ?_
    refine mV rfl ?_
    refine mV rfl ?_
    obtain ⟨g8, f4, e7⟩ := sl_idx (i := a1) a3 (by first | omega | (have hbd := sl_bound ‹(tSl api_Guard.t).R (ix a0 a1).Guards _›; rw [wr_of (by omega) (by omega)]; omega)) (by first | omega | (have hbd := sl_bound ‹(tSl api_Guard.t).R (ix a0 a1).Guards _›; rw [wr_of (by omega) (by omega)]; omega))
    refine rd_op (ov_iaddr rfl rfl f4) ?_
    refine gL (api_Unit.g_Guards e7) rfl rfl rfl fun h7 d0 => ?_
    refine rd_op (ov_bi rfl (sl_len d0 Try.underlying56 _)) ?_
    refine bN i_lss rfl rfl ?_
    refine nS ?_
    refine rc_cond rfl ?_ ?_ <;> intro c <;> try simp only [qa, qaD] at c
    · omega
    refine rc_exit ?_
    refine px_seq ?_
    refine px_again ?_
    exact wP (g4 (Mem.sub M0 (.cons_cons _ .slnil)) hres) rfl
  | succ m ih =>
    intro a2 f8 b7 h M0 hres
    rw [law32_UnitsOrder_L2] at hres
    refine rc_loop ?_
    refine rc_seq ?_
    refine sR ?_
    refine mV rfl ?_
    refine mV rfl ?_
    refine mV rfl ?_
    obtain ⟨h0, d2, d3⟩ := sl_idx (i := a1) a3 (by first | omega | (have hbd := sl_bound ‹(tSl api_Guard.t).R (ix a0 a1).Guards _›; rw [wr_of (by omega) (by omega)]; omega)) (by first | omega | (have hbd := sl_bound ‹(tSl api_Guard.t).R (ix a0 a1).Guards _›; rw [wr_of (by omega) (by omega)]; omega))
    refine rd_op (ov_iaddr rfl rfl d2) ?_
    refine gL (api_Unit.g_Guards d3) rfl rfl rfl fun h8 c8 => ?_
    refine rd_op (ov_bi rfl (sl_len c8 Try.underlying56 _)) ?_
    refine bN i_lss rfl rfl ?_
    refine nS ?_
    refine rc_cond rfl ?_ ?_ <;> intro c <;> try simp only [qa, qaD] at c
    rotate_left
    · omega
    refine rc_skip ?_
    refine pn_seq ?_
    refine rc_seq ?_
    refine rc_block ?_
    refine sR ?_
    refine mV rfl ?_
    refine mV rfl ?_
    obtain ⟨g2, e3, e0⟩ := sl_idx (i := a1) a3 (by first | omega | (have hbd := sl_bound ‹(tSl api_Guard.t).R (ix a0 a1).Guards _›; rw [wr_of (by omega) (by omega)]; omega)) (by first | omega | (have hbd := sl_bound ‹(tSl api_Guard.t).R (ix a0 a1).Guards _›; rw [wr_of (by omega) (by omega)]; omega))
    refine rd_op (ov_iaddr rfl rfl e3) ?_
    refine gL (api_Unit.g_Guards e0) rfl rfl rfl fun h2 e5 => ?_
    refine mV rfl ?_
    obtain ⟨h4, e8, e2⟩ := sl_idx (i := a2) e5 (by first | omega | (have hbd := sl_bound ‹(tSl api_Guard.t).R (ix a0 a1).Guards _›; rw [wr_of (by omega) (by omega)]; omega)) (by first | omega | (have hbd := sl_bound ‹(tSl api_Guard.t).R (ix a0 a1).Guards _›; rw [wr_of (by omega) (by omega)]; omega))
    refine rd_op (ov_iaddr rfl rfl e8) ?_
    refine fL rfl (api_Guard.g_Unit e2) rfl rfl ?_
    refine bN i_lss rfl rfl ?_
    refine mV rfl ?_
    refine rd_cutn 12 (d := 56) (v := vb ((decide (((ix ((ix a0 a1).Guards) a2).Unit) < 0)) || (decide (a1 ≤ ((ix ((ix a0 a1).Guards) a2).Unit))))) ?_ ?_
    · intro S Q r
      cases c4 : (decide (((ix ((ix a0 a1).Guards) a2).Unit) < 0))
      · intro k
        have b0 := c4
        try simp only [qa, qaD] at b0
        refine rd_yes rfl rfl (ov_move rfl) ?_
        refine rd_yes rfl rfl (ov_move rfl) ?_
        obtain ⟨g1, d4, d7⟩ := sl_idx (i := a1) a3 (by first | omega | (have hbd := sl_bound ‹(tSl api_Guard.t).R (ix a0 a1).Guards _›; rw [wr_of (by omega) (by omega)]; omega)) (by first | omega | (have hbd := sl_bound ‹(tSl api_Guard.t).R (ix a0 a1).Guards _›; rw [wr_of (by omega) (by omega)]; omega))
        refine rd_yes rfl rfl (ov_iaddr rfl rfl d4) ?_
        obtain ⟨g5, e4, b6⟩ := api_Unit.g_Guards d7
        refine rd_yes rfl rfl (ov_faddr rfl e4) ?_
        refine rd_yes rfl rfl (ov_load rfl (TR.cnt (tSl api_Guard.t) b6) (TR.agg (tSl api_Guard.t) b6)) ?_
        refine rd_yes rfl rfl (ov_move rfl) ?_
        obtain ⟨h3, d9, d1⟩ := sl_idx (i := a2) b6 (by first | omega | (have hbd := sl_bound ‹(tSl api_Guard.t).R (ix a0 a1).Guards _›; rw [wr_of (by omega) (by omega)]; omega)) (by first | omega | (have hbd := sl_bound ‹(tSl api_Guard.t).R (ix a0 a1).Guards _›; rw [wr_of (by omega) (by omega)]; omega))
        refine rd_yes rfl rfl (ov_iaddr rfl rfl d9) ?_
        refine rd_yes rfl rfl (ov_faddr rfl (api_Guard.g_Unit d1)) ?_
        refine rd_yes rfl rfl (ov_load rfl rfl rfl) ?_
        refine rd_yes rfl rfl (ov_move rfl) ?_
        refine rd_yes rfl rfl (ov_bin rfl rfl i_geq) ?_
        exact gK rfl rfl rfl rfl rfl k
      · exact gN 11 rfl rfl rfl rfl rfl rfl
    refine mV rfl ?_
    refine rd_cutn 25 (d := 82) (v := vb (((decide (((ix ((ix a0 a1).Guards) a2).Unit) < 0)) || (decide (a1 ≤ ((ix ((ix a0 a1).Guards) a2).Unit)))) || ((decide (0 < a2)) && (decide (((ix ((ix a0 a1).Guards) a2).Unit) ≤ ((ix ((ix a0 a1).Guards) (wr (a2 - 1))).Unit)))))) ?_ ?_
    · intro S Q r
      cases b8 : ((decide (((ix ((ix a0 a1).Guards) a2).Unit) < 0)) || (decide (a1 ≤ ((ix ((ix a0 a1).Guards) a2).Unit))))
      · intro k
        have b5 := b8
        try simp only [qa, qaD] at b5
        refine rd_yes rfl rfl (ov_move rfl) ?_
        refine rd_yes rfl rfl (ov_bin rfl rfl i_gtr) ?_
        refine rd_yes rfl rfl (ov_move rfl) ?_
        refine rd_cutn 21 (d := 81) (v := vb ((decide (0 < a2)) && (decide (((ix ((ix a0 a1).Guards) a2).Unit) ≤ ((ix ((ix a0 a1).Guards) (wr (a2 - 1))).Unit))))) ?_ ?_
        · intro S Q r
          cases c6 : (decide (0 < a2))
          · intro k
            refine rd_skip rfl rfl ?_
            refine rd_skip rfl rfl ?_
            refine rd_skip rfl rfl ?_
            refine rd_skip rfl rfl ?_
            refine rd_skip rfl rfl ?_
            refine rd_skip rfl rfl ?_
            refine rd_skip rfl rfl ?_
            refine rd_skip rfl rfl ?_
            refine rd_skip rfl rfl ?_
            refine rd_skip rfl rfl ?_
            refine rd_skip rfl rfl ?_
            refine rd_skip rfl rfl ?_
            refine rd_skip rfl rfl ?_
            refine rd_skip rfl rfl ?_
            refine rd_skip rfl rfl ?_
            refine rd_skip rfl rfl ?_
            refine rd_skip rfl rfl ?_
            refine rd_skip rfl rfl ?_
            refine rd_skip rfl rfl ?_
            refine rd_skip rfl rfl ?_
            refine rd_yes (v := vb false) rfl rfl (ov_pick rfl rfl rfl rfl) ?_
            exact wD k rfl
          · intro k
            have b1 := c6
            try simp only [qa, qaD] at b1
            refine rd_yes rfl rfl (ov_move rfl) ?_
            refine rd_yes rfl rfl (ov_move rfl) ?_
            obtain ⟨h1, f2, f0⟩ := sl_idx (i := a1) a3 (by first | omega | (have hbd := sl_bound ‹(tSl api_Guard.t).R (ix a0 a1).Guards _›; rw [wr_of (by omega) (by omega)]; omega)) (by first | omega | (have hbd := sl_bound ‹(tSl api_Guard.t).R (ix a0 a1).Guards _›; rw [wr_of (by omega) (by omega)]; omega))
            refine rd_yes rfl rfl (ov_iaddr rfl rfl f2) ?_
            obtain ⟨h6, f3, a8⟩ := api_Unit.g_Guards f0
            refine rd_yes rfl rfl (ov_faddr rfl f3) ?_
            refine rd_yes rfl rfl (ov_load rfl (TR.cnt (tSl api_Guard.t) a8) (TR.agg (tSl api_Guard.t) a8)) ?_
            refine rd_yes rfl rfl (ov_move rfl) ?_
            obtain ⟨g3, f5, f1⟩ := sl_idx (i := a2) a8 (by first | omega | (have hbd := sl_bound ‹(tSl api_Guard.t).R (ix a0 a1).Guards _›; rw [wr_of (by omega) (by omega)]; omega)) (by first | omega | (have hbd := sl_bound ‹(tSl api_Guard.t).R (ix a0 a1).Guards _›; rw [wr_of (by omega) (by omega)]; omega))
            refine rd_yes rfl rfl (ov_iaddr rfl rfl f5) ?_
            refine rd_yes rfl rfl (ov_faddr rfl (api_Guard.g_Unit f1)) ?_
            refine rd_yes rfl rfl (ov_load rfl rfl rfl) ?_
            refine rd_yes rfl rfl (ov_move rfl) ?_
            refine rd_yes rfl rfl (ov_move rfl) ?_
            obtain ⟨g7, e1, d8⟩ := sl_idx (i := a1) a3 (by first | omega | (have hbd := sl_bound ‹(tSl api_Guard.t).R (ix a0 a1).Guards _›; rw [wr_of (by omega) (by omega)]; omega)) (by first | omega | (have hbd := sl_bound ‹(tSl api_Guard.t).R (ix a0 a1).Guards _›; rw [wr_of (by omega) (by omega)]; omega))
            refine rd_yes rfl rfl (ov_iaddr rfl rfl e1) ?_
            obtain ⟨g9, d5, b3⟩ := api_Unit.g_Guards d8
            refine rd_yes rfl rfl (ov_faddr rfl d5) ?_
            refine rd_yes rfl rfl (ov_load rfl (TR.cnt (tSl api_Guard.t) b3) (TR.agg (tSl api_Guard.t) b3)) ?_
            refine rd_yes rfl rfl (ov_move rfl) ?_
            refine rd_yes rfl rfl (ov_bin rfl rfl i_sub) ?_
            obtain ⟨h5, d6, c9⟩ := sl_idx (i := (wr (a2 - 1))) b3 (by first | omega | (have hbd := sl_bound ‹(tSl api_Guard.t).R (ix a0 a1).Guards _›; rw [wr_of (by omega) (by omega)]; omega)) (by first | omega | (have hbd := sl_bound ‹(tSl api_Guard.t).R (ix a0 a1).Guards _›; rw [wr_of (by omega) (by omega)]; omega))
            refine rd_yes rfl rfl (ov_iaddr rfl rfl d6) ?_
            refine rd_yes rfl rfl (ov_faddr rfl (api_Guard.g_Unit c9)) ?_
            refine rd_yes rfl rfl (ov_load rfl rfl rfl) ?_
            refine rd_yes rfl rfl (ov_bin rfl rfl i_leq) ?_
            refine rd_yes (v := vb (decide (((ix ((ix a0 a1).Guards) a2).Unit) ≤ ((ix ((ix a0 a1).Guards) (wr (a2 - 1))).Unit)))) rfl rfl (ov_pick rfl rfl rfl rfl) ?_
            exact wD k rfl
        exact gK rfl rfl rfl rfl rfl k
      · exact gN 24 rfl rfl rfl rfl rfl rfl
    refine nS ?_
    refine rc_br hres rfl ?_ ?_ <;> clear hres <;> intro c hres <;> try simp only [qa, qaD] at c
    · refine sR ?_
      refine mB rfl ?_
      refine nS ?_
      exact rR hres rfl rfl rfl
    · refine rc_skip ?_
      refine pn_blk ?_
      refine pn_seq ?_
      refine rc_region ?_
      refine mV rfl ?_
      refine bN i_add rfl rfl ?_
      refine mV rfl ?_
      refine rd_nil ?_
      refine pn_again ?_
      have hbd := sl_bound c8
      have hinc : wr (a2 + 1) = a2 + 1 := wr_of (by omega) (by omega)
      erw [hinc]
      exact wC (ih   (by omega) (by omega) (Mem.sub M0 (.cons_cons _ .slnil)) hres) rfl

theorem law32_UnitsOrder_L1_ok {S : List Fr} {res : Bool} {x0 : api_Program} {d2 : Bool} {a0 : (List api_Unit)} {d7 : PV} {c6 b4 : Nat} (hbu : btl x0.Control ≤ 1048576) (d5 : law22_Small x0 = d2) (b1 : (!d2) = false) (d3 : units_Build x0 = a0) (a7 : (tSl api_Unit.t).R a0 d7) (d1 : (List.replicate x0.Tables.length false).length = x0.Tables.length) (e0 : (List.replicate x0.Tables.length false).length ≤ 4611686018427387904) {K0 : (List Bool) → Bool}
    (f5 : ∀ {a1 : List Bool} {a4 : List PV} (a6 : All2 tB.R a1 a4) (a3 : a1.length = x0.Tables.length) (a5 : a1.length ≤ 4611686018427387904) {h : Heap} (M0 : Mem h [⟨.os c6 b4 0 x0.Tables.length, 4, 1, a4⟩]), K0 a1 = res → PX Try.prog 0 S (QR Try.prog [(2, none)] (RF8 res)) [] h) :
    ∀ {m : Nat} {a2 : Int} {a1 : List Bool} {a4 : List PV} (a6 : All2 tB.R a1 a4) (a3 : a1.length = x0.Tables.length) (a5 : a1.length ≤ 4611686018427387904) (f1 : m = Int.toNat ((a0.length : Int) - a2)) (b8 : 0 ≤ a2) {h : Heap} (M0 : Mem h [⟨.os c6 b4 0 x0.Tables.length, 4, 1, a4⟩]), law32_UnitsOrder_L1 a0 K0 m a2 a1 = res → RC Try.prog (.loop ac8_L1) S (QR Try.prog [(2, none)] (RF8 res)) [(5, vi a2), (4, .os c6 b4 0 x0.Tables.length), (3, d7)] h := by
  have hbu' := hbu
  try simp only [qa, qaD] at hbu'
  have b6 := b1
  try simp only [qa, qaD] at b6
  intro m
  induction m with
  | zero =>
    intro a2 a1 a4 a6 a3 a5 f1 b8 h M0 hres
    rw [law32_UnitsOrder_L1] at hres
    refine rc_loop ?_
    refine rc_seq ?_
    refine sR ?_
    refine mV rfl ?_
    refine mV rfl ?_
    refine rd_op (ov_bi rfl (sl_len a7 Try.underlying48 _)) ?_
    refine bN i_lss rfl rfl ?_
    refine nS ?_
    refine rc_cond rfl ?_ ?_ <;> intro c <;> try simp only [qa, qaD] at c
    · omega
    refine rc_exit ?_
    refine px_seq ?_
    refine px_again ?_
    exact wP (f5 a6 a3 a5 (Mem.sub M0 (.cons_cons _ .slnil)) hres) rfl
  | succ m ih =>
    intro a2 a1 a4 a6 a3 a5 f1 b8 h M0 hres
    rw [law32_UnitsOrder_L1] at hres
    refine rc_loop ?_
    refine rc_seq ?_
    refine sR ?_
    refine mV rfl ?_
    refine mV rfl ?_
    refine rd_op (ov_bi rfl (sl_len a7 Try.underlying48 _)) ?_
    refine bN i_lss rfl rfl ?_
    refine nS ?_
    refine rc_cond rfl (fun a8 => ?_) (fun a8 => ?_)
    · have hgo := hres
      have b7 := a8
      try simp only [qa, qaD] at b7
      refine rc_skip ?_
      refine pn_seq ?_
      refine rc_seq ?_
      refine rc_block ?_
      refine rc_seq ?_
      refine sR ?_
      refine mI rfl ?_
      refine nS ?_
      refine rc_block ?_
      refine wC (law32_UnitsOrder_L2_ok hbu d5 b1 d3 a7 d1 e0 a3 a5 b8 a8 ?_  rfl (by omega) (Mem.sub M0 (.cons_cons _ .slnil)) hres) rfl
      · intro f2 b0 hres
        refine px_blk ?_
        refine pn_seq ?_
        refine sR ?_
        refine mV rfl ?_
        refine mV rfl ?_
        obtain ⟨f4, e9, e4⟩ := sl_idx (i := a2) a7 (by first | omega | (have hbd := sl_bound ‹(tSl api_Guard.t).R (ix a0 a2).Guards _›; rw [wr_of (by omega) (by omega)]; omega)) (by first | omega | (have hbd := sl_bound ‹(tSl api_Guard.t).R (ix a0 a2).Guards _›; rw [wr_of (by omega) (by omega)]; omega))
        refine rd_op (ov_iaddr rfl rfl e9) ?_
        refine fL rfl (api_Unit.g_Table e4) rfl rfl ?_
        refine mV rfl ?_
        refine nS ?_
        refine rc_seq ?_
        refine sR ?_
        refine mV rfl ?_
        refine bN (i_lss (b := -1)) rfl rfl ?_
        refine mV rfl ?_
        refine rd_cutn 5 (d := 95) (v := vb ((decide (((ix a0 a2).Table) < (-1))) || (decide ((a1.length : Int) ≤ ((ix a0 a2).Table))))) ?_ ?_
        · intro S Q r
          cases d8 : (decide (((ix a0 a2).Table) < (-1)))
          · intro k
            have b5 := d8
            try simp only [qa, qaD] at b5
            refine rd_yes rfl rfl (ov_move rfl) ?_
            refine rd_yes rfl rfl (ov_move rfl) ?_
            refine rd_yes rfl rfl (ov_bi rfl (own_len (k := 0) b0 rfl Try.underlying50 rfl a6 _)) ?_
            refine rd_yes rfl rfl (ov_bin rfl rfl i_geq) ?_
            exact gK rfl rfl rfl rfl rfl k
          · exact gN 4 rfl rfl rfl rfl rfl rfl
        refine mV rfl ?_
        refine rd_cutn 9 (d := 105) (v := vb (((decide (((ix a0 a2).Table) < (-1))) || (decide ((a1.length : Int) ≤ ((ix a0 a2).Table)))) || ((decide (0 ≤ ((ix a0 a2).Table))) && (ix a1 ((ix a0 a2).Table))))) ?_ ?_
        · intro S Q r
          cases d0 : ((decide (((ix a0 a2).Table) < (-1))) || (decide ((a1.length : Int) ≤ ((ix a0 a2).Table))))
          · intro k
            have b3 := d0
            try simp only [qa, qaD] at b3
            refine rd_yes rfl rfl (ov_move rfl) ?_
            refine rd_yes rfl rfl (ov_bin rfl rfl i_geq) ?_
            refine rd_yes rfl rfl (ov_move rfl) ?_
            refine rd_cutn 5 (d := 104) (v := vb ((decide (0 ≤ ((ix a0 a2).Table))) && (ix a1 ((ix a0 a2).Table)))) ?_ ?_
            · intro S Q r
              cases c9 : (decide (0 ≤ ((ix a0 a2).Table)))
              · intro k
                refine rd_skip rfl rfl ?_
                refine rd_skip rfl rfl ?_
                refine rd_skip rfl rfl ?_
                refine rd_skip rfl rfl ?_
                refine rd_yes (v := vb false) rfl rfl (ov_pick rfl rfl rfl rfl) ?_
                exact wD k rfl
              · intro k
                have b9 := c9
                try simp only [qa, qaD] at b9
                refine rd_yes rfl rfl (ov_move rfl) ?_
                refine rd_yes rfl rfl (ov_move rfl) ?_
                have a9 : 0 ≤ (ix a0 a2).Table := (by first | omega | (have hbd := sl_bound ‹(tSl api_Guard.t).R (ix a0 a2).Guards _›; rw [wr_of (by omega) (by omega)]; omega))
                have c7 : (ix a0 a2).Table < (a1.length : Int) := (by first | omega | (have hbd := sl_bound ‹(tSl api_Guard.t).R (ix a0 a2).Guards _›; rw [wr_of (by omega) (by omega)]; omega))
                refine rd_yes rfl rfl (ov_iaddr rfl rfl (n_idx 1 a9 (by omega))) ?_
                obtain ⟨e6, e2, c4⟩ := elem_at (i := (ix a0 a2).Table) a6 a9 c7
                have c4 : e6 = vb (ix a1 ((ix a0 a2).Table)) := c4; subst c4
                refine rd_yes rfl rfl (ov_elem (k := 0) b0 rfl rfl e2 rfl) ?_
                refine rd_yes (v := vb (ix a1 ((ix a0 a2).Table))) rfl rfl (ov_pick rfl rfl rfl rfl) ?_
                exact wD k rfl
            exact gK rfl rfl rfl rfl rfl k
          · exact gN 8 rfl rfl rfl rfl rfl rfl
        refine mV rfl ?_
        refine rd_cutn 11 (d := 117) (v := vb ((((decide (((ix a0 a2).Table) < (-1))) || (decide ((a1.length : Int) ≤ ((ix a0 a2).Table)))) || ((decide (0 ≤ ((ix a0 a2).Table))) && (ix a1 ((ix a0 a2).Table)))) || (!decide ((decide (((ix a0 a2).Table) = (-1))) = (decide (0 < (((ix a0 a2).Cond).length : Int))))))) ?_ ?_
        · intro S Q r
          cases d6 : (((decide (((ix a0 a2).Table) < (-1))) || (decide ((a1.length : Int) ≤ ((ix a0 a2).Table)))) || ((decide (0 ≤ ((ix a0 a2).Table))) && (ix a1 ((ix a0 a2).Table))))
          · intro k
            have b2 := d6
            try simp only [qa, qaD] at b2
            refine rd_yes rfl rfl (ov_move rfl) ?_
            refine rd_yes rfl rfl (ov_bin rfl rfl (i_eql (b := -1))) ?_
            refine rd_yes rfl rfl (ov_move rfl) ?_
            refine rd_yes rfl rfl (ov_move rfl) ?_
            obtain ⟨f7, e7, e8⟩ := sl_idx (i := a2) a7 (by first | omega | (have hbd := sl_bound ‹(tSl api_Guard.t).R (ix a0 a2).Guards _›; rw [wr_of (by omega) (by omega)]; omega)) (by first | omega | (have hbd := sl_bound ‹(tSl api_Guard.t).R (ix a0 a2).Guards _›; rw [wr_of (by omega) (by omega)]; omega))
            refine rd_yes rfl rfl (ov_iaddr rfl rfl e7) ?_
            obtain ⟨f3, e5, c8⟩ := api_Unit.g_Cond e8
            refine rd_yes rfl rfl (ov_faddr rfl e5) ?_
            refine rd_yes rfl rfl (ov_load rfl (TR.cnt (tSl api_ExprNode.t) c8) (TR.agg (tSl api_ExprNode.t) c8)) ?_
            refine rd_yes rfl rfl (ov_bi rfl (sl_len c8 Try.underlying38 _)) ?_
            refine rd_yes rfl rfl (ov_bin rfl rfl i_gtr) ?_
            refine rd_yes rfl rfl (ov_bin rfl rfl (bin_neqb (by rw [Try.underlying4]; rfl))) ?_
            exact gK rfl rfl rfl rfl rfl k
          · exact gN 10 rfl rfl rfl rfl rfl rfl
        refine nS ?_
        refine rc_br hres rfl ?_ ?_ <;> clear hres <;> intro c hres <;> try simp only [qa, qaD] at c
        · refine sR ?_
          refine mB rfl ?_
          refine nS ?_
          exact rR hres rfl rfl rfl
        · refine rc_skip ?_
          refine pn_seq ?_
          refine sR ?_
          refine mV rfl ?_
          refine bN i_geq rfl rfl ?_
          refine nS ?_
          refine rc_br hres rfl ?_ ?_ <;> clear hres <;> intro c hres <;> try simp only [qa, qaD] at c
          · refine rc_region ?_
            refine mV rfl ?_
            refine mV rfl ?_
            have c5 : 0 ≤ (ix a0 a2).Table := (by first | omega | (have hbd := sl_bound ‹(tSl api_Guard.t).R (ix a0 a2).Guards _›; rw [wr_of (by omega) (by omega)]; omega))
            have e3 : (ix a0 a2).Table < (a1.length : Int) := (by first | omega | (have hbd := sl_bound ‹(tSl api_Guard.t).R (ix a0 a2).Guards _›; rw [wr_of (by omega) (by omega)]; omega))
            refine rd_op (ov_iaddr rfl rfl (n_idx 1 c5 (by omega))) ?_
            refine rd_setO (k := 0) (v := vb true) b0 rfl rfl rfl (by rw [All2.length_eq a6]; omega) rfl (fun f6 f0 => ?_)
            have e1 := All2.set (i := ((ix a0 a2).Table).toNat) a6 (show tB.R true (vb true) from rfl)
            have d4 : (a1.set ((ix a0 a2).Table).toNat true).length ≤ 4611686018427387904 := by simp only [List.length_set]; exact a5
            have d9 : (a1.set ((ix a0 a2).Table).toNat true).length = x0.Tables.length := by simp only [List.length_set]; exact a3
            refine rd_nil ?_
            refine pn_blk ?_
            refine pn_seq ?_
            refine rc_region ?_
            refine mV rfl ?_
            refine bN i_add rfl rfl ?_
            refine mV rfl ?_
            refine rd_nil ?_
            refine pn_again ?_
            have hbd := sl_bound a7
            have hinc : wr (a2 + 1) = a2 + 1 := wr_of (by omega) (by omega)
            erw [hinc]
            exact wC (ih  e1 d9 d4 (by omega) (by omega) (Mem.sub f0 (.cons_cons _ .slnil)) hres) rfl
          · refine rc_skip ?_
            refine pn_blk ?_
            refine pn_seq ?_
            refine rc_region ?_
            refine mV rfl ?_
            refine bN i_add rfl rfl ?_
            refine mV rfl ?_
            refine rd_nil ?_
            refine pn_again ?_
            have hbd := sl_bound a7
            have hinc : wr (a2 + 1) = a2 + 1 := wr_of (by omega) (by omega)
            erw [hinc]
            exact wC (ih  a6 a3 a5 (by omega) (by omega) (Mem.sub b0 (.cons_cons _ .slnil)) hres) rfl
    · exfalso
      try simp only [qa, qaD] at a8
      omega

theorem f8_ok {x0 : api_Program} {v0 : PV} (r0 : api_Program.t.R x0 v0) (hbu : btl x0.Control ≤ 1048576) : FnR Try.prog 8 [v0] (vb (law32_UnitsOrder x0)) := by
  refine fnS (R := RF8) text8 (fun _ h => h) rfl fun res hres => ?_
  unfold law32_UnitsOrder at hres
  refine sR ?_
  refine rd_op (ov_box rfl (TR.cnt api_Program.t r0)) ?_
  refine mB rfl ?_
  refine nS ?_
  refine rc_seq ?_
  refine sR ?_
  refine lD r0 rfl rfl rfl ?_
  obtain ⟨d0, a2, hres⟩ := let_ex hres
  have b5 := f28_ok  r0 
  rw [a2] at b5
  refine cL b5 rfl rfl (clL_cons (TR.clo api_Program.t r0) clL_nil) ?_
  refine rd_op (ov_not rfl) ?_
  refine nS ?_
  refine rc_br hres rfl ?_ ?_ <;> clear hres <;> intro a3 hres <;> have a5 := a3 <;> try simp only [qa, qaD] at a5
  · refine sR ?_
    obtain ⟨d1, b4, hres⟩ := let_ex hres
    have b1 := f29_ok   
    rw [b4] at b1
    refine cL b1 rfl rfl clL_nil ?_
    refine mV rfl ?_
    refine nS ?_
    exact rR hres rfl rfl rfl
  · refine rc_skip ?_
    refine pn_seq ?_
    refine sR ?_
    refine lD r0 rfl rfl rfl ?_
    obtain ⟨c6, a1, hres⟩ := let_ex hres
    obtain ⟨d3, b8, b3⟩ := f31_ok  r0 (by (first | exact gu_of (by assumption) | (have hk := sm_csl (by assumption) (by assumption) (by assumption); first | omega | (simp only [List.length_nil]; omega)))) (by (first | exact gu_of (by assumption) | (have hk := sm_csl (by assumption) (by assumption) (by assumption); first | omega | (simp only [List.length_nil]; omega))))
    rw [a1] at b3
    refine cL b8 rfl rfl (clL_cons (TR.clo api_Program.t r0) clL_nil) ?_
    refine mV rfl ?_
    refine nR ?_
    refine gL (api_Program.g_Tables r0) rfl rfl rfl fun d5 c5 => ?_
    refine rd_op (ov_bi rfl (sl_len c5 Try.underlying26 _)) ?_
    have b0 : fits (x0.Tables.length) 1 = true := fits_of (by first | omega | (have hk := sm_tb (by assumption) (by assumption); omega)) (by first | omega | (have hk := sm_tb (by assumption) (by assumption); omega))
    refine rd_makeO (sz := 1) (ty := 4) (n := x0.Tables.length) (zz := vb false) (Mem.nil ⟨0, []⟩) rfl rfl rfl rfl rfl b0 (fun d6 c9 d2 c4 => ?_)
    have b9 : All2 tB.R (List.replicate x0.Tables.length false) (List.replicate x0.Tables.length (vb false)) := All2.rep (show tB.R false (vb false) from rfl) _
    have a0 : (List.replicate x0.Tables.length false).length = x0.Tables.length := List.length_replicate
    have a4 : (List.replicate x0.Tables.length false).length ≤ 4611686018427387904 := by rw [a0]; exact fits_len b0
    refine mV rfl ?_
    refine nS ?_
    refine rc_seq ?_
    refine sR ?_
    refine mI rfl ?_
    refine nS ?_
    refine rc_block ?_
    refine wC (law32_UnitsOrder_L1_ok hbu a2 a3 a1 b3 a0 a4 ?_  b9 a0 a4 rfl (by omega) (Mem.sub c4 (.cons_cons _ .slnil)) hres) rfl
    · intro a6 a9 b7 a8 a7 c7 d4 hres
      refine px_blk ?_
      refine pn_seq ?_
      refine sR ?_
      obtain ⟨c8, b2, hres⟩ := let_ex hres
      have b6 := f29_ok   
      rw [b2] at b6
      refine cL b6 rfl rfl clL_nil ?_
      refine mV rfl ?_
      refine nS ?_
      exact rR hres rfl rfl rfl

end Go.Proofs.Ytkgnjpoafilicaa
