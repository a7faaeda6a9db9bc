/-
  The code of each function does what its plain program says.
-/
import Derived.Test.YtkgnjpoafilicaaL5W4
set_option linter.unusedVariables false
set_option linter.unusedSimpArgs false
set_option maxRecDepth 100000
namespace Go.Proofs.Ytkgnjpoafilicaa
open Go Go.Pb Go.RowKit
def RF32 (res : (List api_Unit)) (r : PV) : Prop := (tSl api_Unit.t).R res r
theorem f32_ok {x0 : api_Program} {v0 : PV} (r0 : api_Program.t.R x0 v0) (hs : csl x0.Control ≤ 1000) : ∃ r, FnR Try.prog 32 [v0] r ∧ (tSl api_Unit.t).R (ref32_Build x0) r := by
  refine fnT (R := RF32) text32 rfl fun res hres => ?_
  unfold ref32_Build at hres
  refine sR ?_
  refine rd_op (ov_box rfl (TR.cnt api_Program.t r0)) ?_
  refine rd_op (v := nilS) (ov_move rfl) ?_
  refine nR ?_
  refine lD r0 rfl rfl rfl ?_
  obtain ⟨c8, a7, hres⟩ := let_ex hres
  have a8 := f17_ok  r0 (by omega)
  rw [a7] at a8
  refine cL a8 rfl rfl (clL_cons (TR.clo api_Program.t r0) clL_nil) ?_
  refine mV rfl ?_
  refine xT rfl rfl ?_
  refine xT rfl rfl ?_
  refine mV rfl ?_
  refine mV rfl ?_
  refine nS ?_
  refine rc_seq ?_
  refine sR ?_
  refine mV rfl ?_
  refine bN i_neq rfl rfl ?_
  refine nS ?_
  refine rc_br hres rfl ?_ ?_ <;> clear hres <;> intro c hres <;> try simp only [qa, qaD] at c
  · refine sR ?_
    refine rd_op (v := nilS) (ov_move rfl) ?_
    refine nS ?_
    exact rR hres rfl (TR.clo (tSl api_Unit.t) sl_nil) sl_nil
  · refine rc_skip ?_
    refine pn_seq ?_
    refine rc_seq ?_
    refine rc_regionS ?_
    refine rs_step ?_
    obtain ⟨c5, b5, a9⟩ := api_Program.g_Control r0
    refine fA rfl b5 ?_
    refine rs_back ?_
    refine rs_step ?_
    refine lD a9 rfl rfl rfl ?_
    refine rs_back ?_
    have b8 := mem_acc (sz := 3) (es := []) (Mem.nil ⟨0, []⟩) 58 (.inl ⟨none, rfl, rfl⟩) (by simp)
    have b7 : Mem ⟨0, []⟩ [⟨nilS, 58, 3, ([] : List PV)⟩] := (Mem.front (k := 0) b8 rfl)
    obtain ⟨c7, a6, hres⟩ := let_ex hres
    obtain ⟨b9, c4, a5, a4⟩ := f67_ok (x0 := ([] : List api_Unit)) (x1 := x0.Control) (x2 := ([] : List api_Guard)) a9 sl_nil (show All2 api_Unit.t.R ([] : List api_Unit) [] from trivial) rfl (by first | decide | simp) (.inl rfl) b7 (by first | omega | (simp only [List.length_nil]; omega)) (by first | omega | (simp only [List.length_nil]; omega))
    rw [a6] at a4
    obtain ⟨b2, b0, b3, a1, a2, a3, b1, a0⟩ := a4
    replace a0 := a0.symm; subst a0
    refine rs_callXc rfl rfl a5 ?_
    refine rs_step ?_
    refine mV rfl ?_
    refine rs_back ?_
    refine rs_nil ?_
    refine pn_seq ?_
    obtain ⟨c6, b4, b6⟩ := own_sl (P := Try.prog) (k := 0) (t := api_Unit.t) b3 rfl a2 a1 (Nat.le_trans a3 (by decide))
    subst hres
    exact rc_retV (.tmp rfl .nil) b4 b6

def RF79 (res : api_ExprNode) (r : PV) : Prop := api_ExprNode.t.R res r
theorem f79_ok {x0 : api_ExprNode} {v0 : PV} (r0 : api_ExprNode.t.R x0 v0) : ∃ r, FnR Try.prog 79 [v0] r ∧ api_ExprNode.t.R (ref13_used x0) r := by
  refine fnT (R := RF79) text79 rfl fun res hres => ?_
  unfold ref13_used at hres
  refine sR ?_
  refine rd_op (ov_box rfl (TR.cnt api_ExprNode.t r0)) ?_
  refine rd_allocO (x := .agg [vi 0, vi 0, vi 0]) (Mem.nil ⟨0, []⟩) rfl rfl (fun a4 a2 b9 b0 => ?_)
  refine nS ?_
  refine rc_seq ?_
  refine sR ?_
  refine fL rfl (api_ExprNode.g_Op r0) rfl rfl ?_
  refine nS ?_
  refine rc_block ?_
  refine rc_seq ?_
  refine sR ?_
  refine bN i_eql rfl rfl ?_
  refine mV rfl ?_
  refine nS ?_
  obtain ⟨b5, b2, hres⟩ := let_ex hres
  refine rc_join (F := fun b S Q => ∀ (a3 : Bool) (a7 : Heap) (a0 : Mem a7 [⟨.op a4 a2 0, 106, 3, [.agg [vi 0, vi 0, vi 0]]⟩]), b5 a3 = res → RC Try.prog b S Q [(5, vb a3), (4, vi x0.Op), (2, .op a4 a2 0), (1, .fp v0)] a7) ?_ ?_
  · intro a3 a7 a0 hres
    rw [← b2] at hres
    refine rc_br hres rfl ?_ ?_ <;> clear hres <;> intro c hres <;> try simp only [qa, qaD] at c
    · refine sR ?_
      refine lD r0 rfl rfl rfl ?_
      refine rd_storeO (k := 0) (v := v0) a0 rfl rfl rfl (TR.cnt api_ExprNode.t r0) (fun b4 a9 => ?_)
      replace a9 : Mem b4 [⟨.op a4 a2 0, 106, 3, [v0]⟩] := a9
      refine nS ?_
      subst hres
      exact rc_retV (.cell rfl (load_whole (k := 0) a9 rfl (TR.agg api_ExprNode.t r0)) .nil) (deep_closed (TR.clo api_ExprNode.t r0)) r0
    · refine rc_seq ?_
      refine sR ?_
      refine bN i_eql rfl rfl ?_
      refine mV rfl ?_
      refine nS ?_
      obtain ⟨b8, b3, hres⟩ := let_ex hres
      refine rc_join (F := fun b S Q => ∀ (a1 : Bool) (a5 : Heap) (a6 : Mem a5 [⟨.op a4 a2 0, 106, 3, [.agg [vi 0, vi 0, vi 0]]⟩]), b8 a1 = res → RC Try.prog b S Q [(10, vb a1), (2, .op a4 a2 0), (1, .fp v0)] a5) ?_ ?_
      · intro a1 a5 a6 hres
        rw [← b3] at hres
        refine rc_br hres rfl ?_ ?_ <;> clear hres <;> intro c hres <;> try simp only [qa, qaD] at c
        · refine sR ?_
          refine fL rfl (api_ExprNode.g_Op r0) rfl rfl ?_
          refine fL rfl (api_ExprNode.g_N r0) rfl rfl ?_
          refine rd_op (v := .agg [vi x0.Op, vi x0.N, vi 0]) (ov_build (cs := [vi x0.Op, vi x0.N, vi 0]) rfl rfl) ?_
          refine rd_storeO (k := 0) (v := .agg [vi x0.Op, vi x0.N, vi 0]) a6 rfl rfl rfl rfl (fun b6 a8 => ?_)
          replace a8 : Mem b6 [⟨.op a4 a2 0, 106, 3, [.agg [vi x0.Op, vi x0.N, vi 0]]⟩] := a8
          refine nS ?_
          subst hres
          exact rc_retV (.cell rfl (load_whole (k := 0) a8 rfl rfl) .nil) (deep_closed (TR.clo api_ExprNode.t (show api_ExprNode.t.R ({ Op := x0.Op, N := x0.N, W := 0 } : api_ExprNode) (.agg [vi x0.Op, vi x0.N, vi 0]) from rfl))) (show api_ExprNode.t.R ({ Op := x0.Op, N := x0.N, W := 0 } : api_ExprNode) (.agg [vi x0.Op, vi x0.N, vi 0]) from rfl)
        · refine rc_skip ?_
          refine pn_blk ?_
          refine pn_seq ?_
          refine sR ?_
          refine fL rfl (api_ExprNode.g_Op r0) rfl rfl ?_
          refine rd_op (v := .agg [vi x0.Op, vi 0, vi 0]) (ov_build (cs := [vi x0.Op, vi 0, vi 0]) rfl rfl) ?_
          refine rd_storeO (k := 0) (v := .agg [vi x0.Op, vi 0, vi 0]) a6 rfl rfl rfl rfl (fun b7 b1 => ?_)
          replace b1 : Mem b7 [⟨.op a4 a2 0, 106, 3, [.agg [vi x0.Op, vi 0, vi 0]]⟩] := b1
          refine nS ?_
          subst hres
          exact rc_retV (.cell rfl (load_whole (k := 0) b1 rfl rfl) .nil) (deep_closed (TR.clo api_ExprNode.t (show api_ExprNode.t.R ({ Op := x0.Op, N := 0, W := 0 } : api_ExprNode) (.agg [vi x0.Op, vi 0, vi 0]) from rfl))) (show api_ExprNode.t.R ({ Op := x0.Op, N := 0, W := 0 } : api_ExprNode) (.agg [vi x0.Op, vi 0, vi 0]) from rfl)
      · intro J
        refine rc_br hres rfl ?_ ?_ <;> clear hres <;> intro c hres <;> try simp only [qa, qaD] at c
        · refine rc_skip ?_
          refine pn_seq (wC (J _ _ (Mem.sub a0 (.cons_cons _ .slnil)) hres) rfl)
        · refine sR ?_
          refine bN i_eql rfl rfl ?_
          refine mV rfl ?_
          refine nS ?_
          refine rc_br hres rfl ?_ ?_ <;> clear hres <;> intro c hres <;> try simp only [qa, qaD] at c
          · refine rc_skip ?_
            refine pn_seq (wC (J _ _ (Mem.sub a0 (.cons_cons _ .slnil)) hres) rfl)
          · refine sR ?_
            refine bN i_eql rfl rfl ?_
            refine mV rfl ?_
            refine nS ?_
            refine rc_br hres rfl ?_ ?_ <;> clear hres <;> intro c hres <;> try simp only [qa, qaD] at c
            · refine rc_skip ?_
              refine pn_seq (wC (J _ _ (Mem.sub a0 (.cons_cons _ .slnil)) hres) rfl)
            · refine rc_region ?_
              refine bN i_eql rfl rfl ?_
              refine mV rfl ?_
              refine rd_nil ?_
              refine pn_seq (wC (J _ _ (Mem.sub a0 (.cons_cons _ .slnil)) hres) rfl)
  · intro J
    refine rc_br hres rfl ?_ ?_ <;> clear hres <;> intro c hres <;> try simp only [qa, qaD] at c
    · refine rc_skip ?_
      refine pn_seq (wC (J _ _ (Mem.sub b0 (.cons_cons _ .slnil)) hres) rfl)
    · refine sR ?_
      refine bN i_eql rfl rfl ?_
      refine mV rfl ?_
      refine nS ?_
      refine rc_br hres rfl ?_ ?_ <;> clear hres <;> intro c hres <;> try simp only [qa, qaD] at c
      · refine rc_skip ?_
        refine pn_seq (wC (J _ _ (Mem.sub b0 (.cons_cons _ .slnil)) hres) rfl)
      · refine rc_region ?_
        refine bN i_eql rfl rfl ?_
        refine mV rfl ?_
        refine rd_nil ?_
        refine pn_seq (wC (J _ _ (Mem.sub b0 (.cons_cons _ .slnil)) hres) rfl)

def RF59 (res : Bool) (r : PV) : Prop := r = vb res
theorem ref13_EqualNodes_L1_ok {S : List Fr} {res : Bool} {x0 : List api_ExprNode} {x1 : List api_ExprNode} {v0 v1 : PV} (r0 : (tSl api_ExprNode.t).R x0 v0) (r1 : (tSl api_ExprNode.t).R x1 v1) (a8 : (!decide ((x0.length : Int) = (x1.length : Int))) = false) {K0 : Unit → Bool}
    (c4 : K0 () = res → PX Try.prog 0 S (QR Try.prog [(4, none)] (RF59 res)) [] ⟨0, []⟩) :
    ∀ {m : Nat} {a0 : Int} (b4 : m = Int.toNat ((x0.length : Int) - a0)) (a6 : 0 ≤ a0), ref13_EqualNodes_L1 x0 x1 K0 m a0 = res → RC Try.prog (.loop ac59_L1) S (QR Try.prog [(4, none)] (RF59 res)) [(5, vi a0), (1, v1), (0, v0)] ⟨0, []⟩ := by
  have a1 := a8
  try simp only [qa, qaD] at a1
  intro m
  induction m with
  | zero =>
    intro a0 b4 a6 hres
    rw [ref13_EqualNodes_L1] at hres
    refine rc_loop ?_
    refine rc_seq ?_
    refine sR ?_
    refine mV rfl ?_
    refine mV rfl ?_
    refine rd_op (ov_bi rfl (sl_len r0 Try.underlying38 _)) ?_
    refine bN i_lss rfl rfl ?_
    refine nS ?_
    refine rc_cond rfl ?_ ?_ <;> intro c <;> try simp only [qa, qaD] at c
    · omega
    refine rc_exit ?_
    refine px_seq ?_
    refine px_again ?_
    exact wP (c4  hres) rfl
  | succ m ih =>
    intro a0 b4 a6 hres
    rw [ref13_EqualNodes_L1] at hres
    refine rc_loop ?_
    refine rc_seq ?_
    refine sR ?_
    refine mV rfl ?_
    refine mV rfl ?_
    refine rd_op (ov_bi rfl (sl_len r0 Try.underlying38 _)) ?_
    refine bN i_lss rfl rfl ?_
    refine nS ?_
    refine rc_cond rfl ?_ ?_ <;> intro c <;> try simp only [qa, qaD] at c
    rotate_left
    · omega
    refine rc_skip ?_
    refine pn_seq ?_
    refine rc_seq ?_
    refine rc_block ?_
    refine sR ?_
    refine mV rfl ?_
    refine mV rfl ?_
    obtain ⟨c5, b2, a2⟩ := sl_idx (i := a0) r0 (by omega) (by omega)
    refine rd_op (ov_iaddr rfl rfl b2) ?_
    refine lD a2 rfl rfl rfl ?_
    obtain ⟨b7, a5, hres⟩ := let_ex hres
    obtain ⟨b5, b0, a9⟩ := f79_ok  a2 
    rw [a5] at a9
    refine cL b0 rfl rfl (clL_cons (TR.clo api_ExprNode.t a2) clL_nil) ?_
    refine mV rfl ?_
    refine mV rfl ?_
    obtain ⟨b9, b3, a3⟩ := sl_idx (i := a0) r1 (by omega) (by omega)
    refine rd_op (ov_iaddr rfl rfl b3) ?_
    refine lD a3 rfl rfl rfl ?_
    obtain ⟨b6, a7, hres⟩ := let_ex hres
    obtain ⟨b8, b1, a4⟩ := f79_ok  a3 
    rw [a7] at a4
    refine cL b1 rfl rfl (clL_cons (TR.clo api_ExprNode.t a3) clL_nil) ?_
    refine bN (api_ExprNode.neq_106 a9 a4) rfl rfl ?_
    refine nS ?_
    refine rc_br hres rfl ?_ ?_ <;> clear hres <;> intro c hres <;> try simp only [qa, qaD] at c
    · refine sR ?_
      refine mB rfl ?_
      refine nS ?_
      exact rR hres rfl rfl rfl
    · refine rc_skip ?_
      refine pn_blk ?_
      refine pn_seq ?_
      refine rc_region ?_
      refine mV rfl ?_
      refine bN i_add rfl rfl ?_
      refine mV rfl ?_
      refine rd_nil ?_
      refine pn_again ?_
      have hbd := sl_bound r0
      have hinc : wr (a0 + 1) = a0 + 1 := wr_of (by omega) (by omega)
      erw [hinc]
      exact wC (ih   (by omega) (by omega) hres) rfl

theorem f59_ok {x0 : List api_ExprNode} {x1 : List api_ExprNode} {v0 v1 : PV} (r0 : (tSl api_ExprNode.t).R x0 v0) (r1 : (tSl api_ExprNode.t).R x1 v1) : FnR Try.prog 59 [v0, v1] (vb (ref13_EqualNodes x0 x1)) := by
  refine fnS (R := RF59) text59 (fun _ h => h) rfl fun res hres => ?_
  unfold ref13_EqualNodes at hres
  refine sR ?_
  refine mB rfl ?_
  refine nS ?_
  refine rc_seq ?_
  refine sR ?_
  refine mV rfl ?_
  refine rd_op (ov_bi rfl (sl_len r0 Try.underlying38 _)) ?_
  refine mV rfl ?_
  refine rd_op (ov_bi rfl (sl_len r1 Try.underlying38 _)) ?_
  refine bN i_neq rfl rfl ?_
  refine nS ?_
  refine rc_br hres rfl ?_ ?_ <;> clear hres <;> intro a0 hres <;> have a1 := a0 <;> try simp only [qa, qaD] at a1
  · refine sR ?_
    refine mB rfl ?_
    refine nS ?_
    exact rR hres rfl rfl rfl
  · refine rc_skip ?_
    refine pn_seq ?_
    refine rc_seq ?_
    refine sR ?_
    refine mI rfl ?_
    refine nS ?_
    refine rc_block ?_
    refine wC (ref13_EqualNodes_L1_ok r0 r1 a0 ?_  rfl (by omega) hres) rfl
    · intro  hres
      refine px_blk ?_
      refine pn_seq ?_
      refine sR ?_
      refine mB rfl ?_
      refine nS ?_
      exact rR hres rfl rfl rfl

def RF30 (res : Bool) (r : PV) : Prop := r = vb res
theorem ref32_EqualUnits_L2_ok {S : List Fr} {res : Bool} {x0 : List api_Unit} {x1 : List api_Unit} {a0 : Int} {v0 v1 : PV} (r0 : (tSl api_Unit.t).R x0 v0) (r1 : (tSl api_Unit.t).R x1 v1) (a9 : (!decide ((x0.length : Int) = (x1.length : Int))) = false) (d9 : 0 ≤ a0) (a5 : (decide (a0 < (x0.length : Int))) = true) (a7 : (((!decide (((ix x0 a0).Table) = ((ix x1 a0).Table))) || (!(ref13_EqualNodes ((ix x0 a0).Cond) ((ix x1 a0).Cond)))) || (!decide ((((ix x0 a0).Guards).length : Int) = (((ix x1 a0).Guards).length : Int)))) = false) {K2 : Unit → Bool}
    (d4 : K2 () = res → PX Try.prog 2 S (QR Try.prog [(4, none)] (RF30 res)) [(0, v0), (1, v1), (5, vi a0)] ⟨0, []⟩) :
    ∀ {m : Nat} {a1 : Int} (c9 : m = Int.toNat ((((ix x0 a0).Guards).length : Int) - a1)) (b1 : 0 ≤ a1), ref32_EqualUnits_L2 x0 x1 a0 K2 m a1 = res → RC Try.prog (.loop ac30_L2) S (QR Try.prog [(4, none)] (RF30 res)) [(6, vi a1), (5, vi a0), (1, v1), (0, v0)] ⟨0, []⟩ := by
  have a2 := a9
  try simp only [qa, qaD] at a2
  have a4 := a5
  try simp only [qa, qaD] at a4
  have a3 := a7
  try simp only [qa, qaD] at a3
  intro m
  induction m with
  | zero =>
    intro a1 c9 b1 hres
    rw [ref32_EqualUnits_L2] at hres
    refine rc_loop ?_
    refine rc_seq ?_
    refine sR ?_
    refine mV rfl ?_
    refine mV rfl ?_
    refine mV rfl ?_
    obtain ⟨e1, c8, b4⟩ := sl_idx (i := a0) r0 (by omega) (by omega)
    refine rd_op (ov_iaddr rfl rfl c8) ?_
    refine gL (api_Unit.g_Guards b4) rfl rfl rfl fun d6 b8 => ?_
    refine rd_op (ov_bi rfl (sl_len b8 Try.underlying56 _)) ?_
    refine bN i_lss rfl rfl ?_
    refine nS ?_
    refine rc_cond rfl ?_ ?_ <;> intro c <;> try simp only [qa, qaD] at c
    · omega
    refine rc_exit ?_
    refine px_seq ?_
    refine px_again ?_
    exact wP (d4  hres) rfl
  | succ m ih =>
    intro a1 c9 b1 hres
    rw [ref32_EqualUnits_L2] at hres
    refine rc_loop ?_
    refine rc_seq ?_
    refine sR ?_
    refine mV rfl ?_
    refine mV rfl ?_
    refine mV rfl ?_
    obtain ⟨d3, c5, b6⟩ := sl_idx (i := a0) r0 (by omega) (by omega)
    refine rd_op (ov_iaddr rfl rfl c5) ?_
    refine gL (api_Unit.g_Guards b6) rfl rfl rfl fun d5 a8 => ?_
    refine rd_op (ov_bi rfl (sl_len a8 Try.underlying56 _)) ?_
    refine bN i_lss rfl rfl ?_
    refine nS ?_
    refine rc_cond rfl ?_ ?_ <;> intro c <;> try simp only [qa, qaD] at c
    rotate_left
    · omega
    refine rc_skip ?_
    refine pn_seq ?_
    refine rc_seq ?_
    refine rc_block ?_
    refine sR ?_
    refine mV rfl ?_
    refine mV rfl ?_
    obtain ⟨d8, c6, b5⟩ := sl_idx (i := a0) r0 (by omega) (by omega)
    refine rd_op (ov_iaddr rfl rfl c6) ?_
    refine gL (api_Unit.g_Guards b5) rfl rfl rfl fun e0 c7 => ?_
    refine mV rfl ?_
    obtain ⟨d1, b2, a6⟩ := sl_idx (i := a1) c7 (by omega) (by omega)
    refine rd_op (ov_iaddr rfl rfl b2) ?_
    refine lD a6 rfl rfl rfl ?_
    refine mV rfl ?_
    refine mV rfl ?_
    obtain ⟨d2, b7, b9⟩ := sl_idx (i := a0) r1 (by omega) (by omega)
    refine rd_op (ov_iaddr rfl rfl b7) ?_
    refine gL (api_Unit.g_Guards b9) rfl rfl rfl fun d0 b3 => ?_
    refine mV rfl ?_
    obtain ⟨d7, c4, b0⟩ := sl_idx (i := a1) b3 (by omega) (by omega)
    refine rd_op (ov_iaddr rfl rfl c4) ?_
    refine lD b0 rfl rfl rfl ?_
    refine bN (api_Guard.neq_60 a6 b0) rfl rfl ?_
    refine nS ?_
    refine rc_br hres rfl ?_ ?_ <;> clear hres <;> intro c hres <;> try simp only [qa, qaD] at c
    · refine sR ?_
      refine mB rfl ?_
      refine nS ?_
      exact rR hres rfl rfl rfl
    · refine rc_skip ?_
      refine pn_blk ?_
      refine pn_seq ?_
      refine rc_region ?_
      refine mV rfl ?_
      refine bN i_add rfl rfl ?_
      refine mV rfl ?_
      refine rd_nil ?_
      refine pn_again ?_
      have hbd := sl_bound a8
      have hinc : wr (a1 + 1) = a1 + 1 := wr_of (by omega) (by omega)
      erw [hinc]
      exact wC (ih   (by omega) (by omega) hres) rfl

theorem ref32_EqualUnits_L1_ok {S : List Fr} {res : Bool} {x0 : List api_Unit} {x1 : List api_Unit} {v0 v1 : PV} (r0 : (tSl api_Unit.t).R x0 v0) (r1 : (tSl api_Unit.t).R x1 v1) (a5 : (!decide ((x0.length : Int) = (x1.length : Int))) = false) {K0 : Unit → Bool}
    (e6 : K0 () = res → PX Try.prog 0 S (QR Try.prog [(4, none)] (RF30 res)) [] ⟨0, []⟩) :
    ∀ {m : Nat} {a0 : Int} (d7 : m = Int.toNat ((x0.length : Int) - a0)) (a8 : 0 ≤ a0), ref32_EqualUnits_L1 x0 x1 K0 m a0 = res → RC Try.prog (.loop ac30_L1) S (QR Try.prog [(4, none)] (RF30 res)) [(5, vi a0), (1, v1), (0, v0)] ⟨0, []⟩ := by
  have a6 := a5
  try simp only [qa, qaD] at a6
  intro m
  induction m with
  | zero =>
    intro a0 d7 a8 hres
    rw [ref32_EqualUnits_L1] at hres
    refine rc_loop ?_
    refine rc_seq ?_
    refine sR ?_
    refine mV rfl ?_
    refine mV rfl ?_
    refine rd_op (ov_bi rfl (sl_len r0 Try.underlying48 _)) ?_
    refine bN i_lss rfl rfl ?_
    refine nS ?_
    refine rc_cond rfl ?_ ?_ <;> intro c <;> try simp only [qa, qaD] at c
    · omega
    refine rc_exit ?_
    refine px_seq ?_
    refine px_again ?_
    exact wP (e6  hres) rfl
  | succ m ih =>
    intro a0 d7 a8 hres
    rw [ref32_EqualUnits_L1] at hres
    refine rc_loop ?_
    refine rc_seq ?_
    refine sR ?_
    refine mV rfl ?_
    refine mV rfl ?_
    refine rd_op (ov_bi rfl (sl_len r0 Try.underlying48 _)) ?_
    refine bN i_lss rfl rfl ?_
    refine nS ?_
    refine rc_cond rfl (fun a1 => ?_) (fun a1 => ?_)
    · have hgo := hres
      have b2 := a1
      try simp only [qa, qaD] at b2
      refine rc_skip ?_
      refine pn_seq ?_
      refine rc_seq ?_
      refine rc_block ?_
      refine rc_seq ?_
      refine sR ?_
      refine mV rfl ?_
      refine mV rfl ?_
      obtain ⟨e8, b9, b6⟩ := sl_idx (i := a0) r0 (by omega) (by omega)
      refine rd_op (ov_iaddr rfl rfl b9) ?_
      refine fL rfl (api_Unit.g_Table b6) rfl rfl ?_
      refine mV rfl ?_
      refine mV rfl ?_
      obtain ⟨d8, d1, c9⟩ := sl_idx (i := a0) r1 (by omega) (by omega)
      refine rd_op (ov_iaddr rfl rfl d1) ?_
      refine fL rfl (api_Unit.g_Table c9) rfl rfl ?_
      refine bN i_neq rfl rfl ?_
      refine mV rfl ?_
      refine rd_cutn 13 (d := 42) (v := vb ((!decide (((ix x0 a0).Table) = ((ix x1 a0).Table))) || (!(ref13_EqualNodes ((ix x0 a0).Cond) ((ix x1 a0).Cond))))) ?_ ?_
      · intro S Q r
        cases b5 : (!decide (((ix x0 a0).Table) = ((ix x1 a0).Table)))
        · intro k
          have b1 := b5
          try simp only [qa, qaD] at b1
          refine rd_yes rfl rfl (ov_move rfl) ?_
          refine rd_yes rfl rfl (ov_move rfl) ?_
          obtain ⟨e5, d0, c7⟩ := sl_idx (i := a0) r0 (by omega) (by omega)
          refine rd_yes rfl rfl (ov_iaddr rfl rfl d0) ?_
          obtain ⟨e0, d4, a2⟩ := api_Unit.g_Cond c7
          refine rd_yes rfl rfl (ov_faddr rfl d4) ?_
          refine rd_yes rfl rfl (ov_load rfl (TR.cnt (tSl api_ExprNode.t) a2) (TR.agg (tSl api_ExprNode.t) a2)) ?_
          refine rd_yes rfl rfl (ov_move rfl) ?_
          refine rd_yes rfl rfl (ov_move rfl) ?_
          obtain ⟨e4, d2, b8⟩ := sl_idx (i := a0) r1 (by omega) (by omega)
          refine rd_yes rfl rfl (ov_iaddr rfl rfl d2) ?_
          obtain ⟨e3, c8, a3⟩ := api_Unit.g_Cond b8
          refine rd_yes rfl rfl (ov_faddr rfl c8) ?_
          refine rd_yes rfl rfl (ov_load rfl (TR.cnt (tSl api_ExprNode.t) a3) (TR.agg (tSl api_ExprNode.t) a3)) ?_
          have b7 := f59_ok  a2 a3 
          refine rd_ycall rfl rfl (cv_fn rfl rfl (clL_cons (TR.clo (tSl api_ExprNode.t) a2) (clL_cons (TR.clo (tSl api_ExprNode.t) a3) clL_nil)) b7) ?_
          refine rd_yes rfl rfl (ov_not rfl) ?_
          exact gK rfl rfl rfl rfl rfl k
        · exact gN 12 rfl rfl rfl rfl rfl rfl
      refine mV rfl ?_
      refine rd_cutn 14 (d := 57) (v := vb (((!decide (((ix x0 a0).Table) = ((ix x1 a0).Table))) || (!(ref13_EqualNodes ((ix x0 a0).Cond) ((ix x1 a0).Cond)))) || (!decide ((((ix x0 a0).Guards).length : Int) = (((ix x1 a0).Guards).length : Int))))) ?_ ?_
      · intro S Q r
        cases b4 : ((!decide (((ix x0 a0).Table) = ((ix x1 a0).Table))) || (!(ref13_EqualNodes ((ix x0 a0).Cond) ((ix x1 a0).Cond))))
        · intro k
          have b3 := b4
          try simp only [qa, qaD] at b3
          refine rd_yes rfl rfl (ov_move rfl) ?_
          refine rd_yes rfl rfl (ov_move rfl) ?_
          obtain ⟨e7, c5, d5⟩ := sl_idx (i := a0) r0 (by omega) (by omega)
          refine rd_yes rfl rfl (ov_iaddr rfl rfl c5) ?_
          obtain ⟨d9, c4, b0⟩ := api_Unit.g_Guards d5
          refine rd_yes rfl rfl (ov_faddr rfl c4) ?_
          refine rd_yes rfl rfl (ov_load rfl (TR.cnt (tSl api_Guard.t) b0) (TR.agg (tSl api_Guard.t) b0)) ?_
          refine rd_yes rfl rfl (ov_bi rfl (sl_len b0 Try.underlying56 _)) ?_
          refine rd_yes rfl rfl (ov_move rfl) ?_
          refine rd_yes rfl rfl (ov_move rfl) ?_
          obtain ⟨e2, c6, d3⟩ := sl_idx (i := a0) r1 (by omega) (by omega)
          refine rd_yes rfl rfl (ov_iaddr rfl rfl c6) ?_
          obtain ⟨e1, d6, a9⟩ := api_Unit.g_Guards d3
          refine rd_yes rfl rfl (ov_faddr rfl d6) ?_
          refine rd_yes rfl rfl (ov_load rfl (TR.cnt (tSl api_Guard.t) a9) (TR.agg (tSl api_Guard.t) a9)) ?_
          refine rd_yes rfl rfl (ov_bi rfl (sl_len a9 Try.underlying56 _)) ?_
          refine rd_yes rfl rfl (ov_bin rfl rfl i_neq) ?_
          exact gK rfl rfl rfl rfl rfl k
        · exact gN 13 rfl rfl rfl rfl rfl rfl
      refine nS ?_
      refine rc_br hres rfl ?_ ?_ <;> clear hres <;> intro a4 hres <;> have a7 := a4 <;> try simp only [qa, qaD] at a7
      · refine sR ?_
        refine mB rfl ?_
        refine nS ?_
        exact rR hres rfl rfl rfl
      · refine rc_skip ?_
        refine pn_seq ?_
        refine sR ?_
        refine mI rfl ?_
        refine nS ?_
        refine rc_block ?_
        refine wC (ref32_EqualUnits_L2_ok r0 r1 a5 a8 a1 a4 ?_  rfl (by omega) hres) rfl
        · intro  hres
          refine px_blk ?_
          refine pn_blk ?_
          refine pn_seq ?_
          refine rc_region ?_
          refine mV rfl ?_
          refine bN i_add rfl rfl ?_
          refine mV rfl ?_
          refine rd_nil ?_
          refine pn_again ?_
          have hbd := sl_bound r0
          have hinc : wr (a0 + 1) = a0 + 1 := wr_of (by omega) (by omega)
          erw [hinc]
          exact wC (ih   (by omega) (by omega) hres) rfl
    · exfalso
      try simp only [qa, qaD] at a1
      omega

theorem f30_ok {x0 : List api_Unit} {x1 : List api_Unit} {v0 v1 : PV} (r0 : (tSl api_Unit.t).R x0 v0) (r1 : (tSl api_Unit.t).R x1 v1) : FnR Try.prog 30 [v0, v1] (vb (ref32_EqualUnits x0 x1)) := by
  refine fnS (R := RF30) text30 (fun _ h => h) rfl fun res hres => ?_
  unfold ref32_EqualUnits at hres
  refine sR ?_
  refine mB rfl ?_
  refine nS ?_
  refine rc_seq ?_
  refine sR ?_
  refine mV rfl ?_
  refine rd_op (ov_bi rfl (sl_len r0 Try.underlying48 _)) ?_
  refine mV rfl ?_
  refine rd_op (ov_bi rfl (sl_len r1 Try.underlying48 _)) ?_
  refine bN i_neq rfl rfl ?_
  refine nS ?_
  refine rc_br hres rfl ?_ ?_ <;> clear hres <;> intro a0 hres <;> have a1 := a0 <;> try simp only [qa, qaD] at a1
  · refine sR ?_
    refine mB rfl ?_
    refine nS ?_
    exact rR hres rfl rfl rfl
  · refine rc_skip ?_
    refine pn_seq ?_
    refine rc_seq ?_
    refine sR ?_
    refine mI rfl ?_
    refine nS ?_
    refine rc_block ?_
    refine wC (ref32_EqualUnits_L1_ok r0 r1 a0 ?_  rfl (by omega) hres) rfl
    · intro  hres
      refine px_blk ?_
      refine pn_seq ?_
      refine sR ?_
      refine mB rfl ?_
      refine nS ?_
      exact rR hres rfl rfl rfl

def RF5 (res : Bool) (r : PV) : Prop := r = vb res
theorem f5_ok {x0 : api_Program} {v0 : PV} (r0 : api_Program.t.R x0 v0) (hbu : btl x0.Control ≤ 1048576) : FnR Try.prog 5 [v0] (vb (law32_UnitsBuild x0)) := by
  refine fnS (R := RF5) text5 (fun _ h => h) rfl fun res hres => ?_
  unfold law32_UnitsBuild at hres
  refine sR ?_
  refine rd_op (ov_box rfl (TR.cnt api_Program.t r0)) ?_
  refine mB rfl ?_
  refine nS ?_
  refine rc_seq ?_
  refine sR ?_
  refine lD r0 rfl rfl rfl ?_
  obtain ⟨b9, b1, hres⟩ := let_ex hres
  have b2 := f28_ok  r0 
  rw [b1] at b2
  refine cL b2 rfl rfl (clL_cons (TR.clo api_Program.t r0) clL_nil) ?_
  refine rd_op (ov_not rfl) ?_
  refine nS ?_
  refine rc_br hres rfl ?_ ?_ <;> clear hres <;> intro c hres <;> try simp only [qa, qaD] at c
  · refine sR ?_
    obtain ⟨b7, a8, hres⟩ := let_ex hres
    have a9 := f29_ok   
    rw [a8] at a9
    refine cL a9 rfl rfl clL_nil ?_
    refine mV rfl ?_
    refine nS ?_
    exact rR hres rfl rfl rfl
  · refine rc_skip ?_
    refine pn_seq ?_
    refine sR ?_
    refine lD r0 rfl rfl rfl ?_
    obtain ⟨c5, a3, hres⟩ := let_ex hres
    obtain ⟨b6, b5, a1⟩ := f31_ok  r0 (by (first | exact gu_of (by assumption) | (have hk := sm_csl (by assumption) (by assumption) (by assumption); first | omega | (simp only [List.length_nil]; omega)))) (by (first | exact gu_of (by assumption) | (have hk := sm_csl (by assumption) (by assumption) (by assumption); first | omega | (simp only [List.length_nil]; omega))))
    rw [a3] at a1
    refine cL b5 rfl rfl (clL_cons (TR.clo api_Program.t r0) clL_nil) ?_
    refine lD r0 rfl rfl rfl ?_
    obtain ⟨b8, b0, hres⟩ := let_ex hres
    obtain ⟨c4, b3, a0⟩ := f32_ok  r0 (by (first | exact gu_of (by assumption) | (have hk := sm_csl (by assumption) (by assumption) (by assumption); first | omega | (simp only [List.length_nil]; omega))))
    rw [b0] at a0
    refine cL b3 rfl rfl (clL_cons (TR.clo api_Program.t r0) clL_nil) ?_
    obtain ⟨a6, a5, hres⟩ := let_ex hres
    have a4 := f30_ok  a1 a0 
    rw [a5] at a4
    refine cL a4 rfl rfl (clL_cons (TR.clo (tSl api_Unit.t) a1) (clL_cons (TR.clo (tSl api_Unit.t) a0) clL_nil)) ?_
    refine mV rfl ?_
    refine rd_cutn 2 (d := 14) (v := vb (a6 && (law32_awake))) ?_ ?_
    · intro S Q r
      cases a7 : a6
      · exact gN 1 rfl rfl rfl rfl rfl rfl
      · intro k
        have a2 := a7
        try simp only [qa, qaD] at a2
        have b4 := f29_ok   
        refine rd_ycall rfl rfl (cv_fn rfl rfl clL_nil b4) ?_
        exact gK rfl rfl rfl rfl rfl k
    refine mV rfl ?_
    refine nS ?_
    exact rR hres rfl rfl rfl

end Go.Proofs.Ytkgnjpoafilicaa
