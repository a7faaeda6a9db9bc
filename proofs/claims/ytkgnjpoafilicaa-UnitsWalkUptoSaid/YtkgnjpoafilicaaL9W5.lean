/-
  The code of each function does what its plain program says.
-/
import Derived.Test.YtkgnjpoafilicaaL9W4
set_option linter.unusedVariables false
set_option linter.unusedSimpArgs false
set_option maxRecDepth 100000
namespace Go.Proofs.Ytkgnjpoafilicaa
open Go Go.Pb Go.RowKit
def RF32 (res : (List api_Unit)) (r : PV) : Prop := (tSl api_Unit.t).R res r
theorem f32_ok {x0 : api_Program} {v0 : PV} (r0 : api_Program.t.R x0 v0) (hs : csl x0.Control ≤ 1000) : ∃ r, FnR Try.prog 32 [v0] r ∧ (tSl api_Unit.t).R (ref32_Build x0) r := by
  refine fnT (R := RF32) text32 rfl fun res hres => ?_
  unfold ref32_Build at hres
  refine sR ?_
  refine rd_op (ov_box rfl (TR.cnt api_Program.t r0)) ?_
  refine rd_op (v := nilS) (ov_move rfl) ?_
  refine nR ?_
  refine lD r0 rfl rfl rfl ?_
  obtain ⟨c7, a9, hres⟩ := let_ex hres
  have a8 := f17_ok  r0 (by omega)
  rw [a9] at a8
  refine cL a8 rfl rfl (clL_cons (TR.clo api_Program.t r0) clL_nil) ?_
  refine mV rfl ?_
  refine xT rfl rfl ?_
  refine xT rfl rfl ?_
  refine mV rfl ?_
  refine mV rfl ?_
  refine nS ?_
  refine rc_seq ?_
  refine sR ?_
  refine mV rfl ?_
  refine bN i_neq rfl rfl ?_
  refine nS ?_
  refine rc_br hres rfl ?_ ?_ <;> clear hres <;> intro c hres <;> try simp only [qa, qaD] at c
  · refine sR ?_
    refine rd_op (v := nilS) (ov_move rfl) ?_
    refine nS ?_
    exact rR hres rfl (TR.clo (tSl api_Unit.t) sl_nil) sl_nil
  · refine rc_skip ?_
    refine pn_seq ?_
    refine rc_seq ?_
    refine rc_regionS ?_
    refine rs_step ?_
    obtain ⟨c6, b4, a5⟩ := api_Program.g_Control r0
    refine fA rfl b4 ?_
    refine rs_back ?_
    refine rs_step ?_
    refine lD a5 rfl rfl rfl ?_
    refine rs_back ?_
    have b8 := mem_acc (sz := 3) (es := []) (Mem.nil ⟨0, []⟩) 58 (.inl ⟨none, rfl, rfl⟩) (by simp)
    have b7 : Mem ⟨0, []⟩ [⟨nilS, 58, 3, ([] : List PV)⟩] := (Mem.front (k := 0) b8 rfl)
    obtain ⟨c8, a6, hres⟩ := let_ex hres
    obtain ⟨b9, c5, a7, a4⟩ := f67_ok (x0 := ([] : List api_Unit)) (x1 := x0.Control) (x2 := ([] : List api_Guard)) a5 sl_nil (show All2 api_Unit.t.R ([] : List api_Unit) [] from trivial) rfl (by first | decide | simp) (.inl rfl) b7 (by first | omega | (simp only [List.length_nil]; omega)) (by first | omega | (simp only [List.length_nil]; omega))
    rw [a6] at a4
    obtain ⟨b0, b1, b5, a1, a3, a2, b2, a0⟩ := a4
    replace a0 := a0.symm; subst a0
    refine rs_callXc rfl rfl a7 ?_
    refine rs_step ?_
    refine mV rfl ?_
    refine rs_back ?_
    refine rs_nil ?_
    refine pn_seq ?_
    obtain ⟨c4, b3, b6⟩ := own_sl (P := Try.prog) (k := 0) (t := api_Unit.t) b5 rfl a3 a1 (Nat.le_trans a2 (by decide))
    subst hres
    exact rc_retV (.tmp rfl .nil) b3 b6

def RF79 (res : api_ExprNode) (r : PV) : Prop := api_ExprNode.t.R res r
theorem f79_ok {x0 : api_ExprNode} {v0 : PV} (r0 : api_ExprNode.t.R x0 v0) : ∃ r, FnR Try.prog 79 [v0] r ∧ api_ExprNode.t.R (ref13_used x0) r := by
  refine fnT (R := RF79) text79 rfl fun res hres => ?_
  unfold ref13_used at hres
  refine sR ?_
  refine rd_op (ov_box rfl (TR.cnt api_ExprNode.t r0)) ?_
  refine rd_allocO (x := .agg [vi 0, vi 0, vi 0]) (Mem.nil ⟨0, []⟩) rfl rfl (fun a2 a3 b9 a9 => ?_)
  refine nS ?_
  refine rc_seq ?_
  refine sR ?_
  refine fL rfl (api_ExprNode.g_Op r0) rfl rfl ?_
  refine nS ?_
  refine rc_block ?_
  refine rc_seq ?_
  refine sR ?_
  refine bN i_eql rfl rfl ?_
  refine mV rfl ?_
  refine nS ?_
  obtain ⟨b8, b3, hres⟩ := let_ex hres
  refine rc_join (F := fun b S Q => ∀ (a4 : Bool) (a6 : Heap) (a0 : Mem a6 [⟨.op a2 a3 0, 106, 3, [.agg [vi 0, vi 0, vi 0]]⟩]), b8 a4 = res → RC Try.prog b S Q [(5, vb a4), (4, vi x0.Op), (2, .op a2 a3 0), (1, .fp v0)] a6) ?_ ?_
  · intro a4 a6 a0 hres
    rw [← b3] at hres
    refine rc_br hres rfl ?_ ?_ <;> clear hres <;> intro c hres <;> try simp only [qa, qaD] at c
    · refine sR ?_
      refine lD r0 rfl rfl rfl ?_
      refine rd_storeO (k := 0) (v := v0) a0 rfl rfl rfl (TR.cnt api_ExprNode.t r0) (fun b5 b0 => ?_)
      replace b0 : Mem b5 [⟨.op a2 a3 0, 106, 3, [v0]⟩] := b0
      refine nS ?_
      subst hres
      exact rc_retV (.cell rfl (load_whole (k := 0) b0 rfl (TR.agg api_ExprNode.t r0)) .nil) (deep_closed (TR.clo api_ExprNode.t r0)) r0
    · refine rc_seq ?_
      refine sR ?_
      refine bN i_eql rfl rfl ?_
      refine mV rfl ?_
      refine nS ?_
      obtain ⟨b7, b2, hres⟩ := let_ex hres
      refine rc_join (F := fun b S Q => ∀ (a1 : Bool) (a5 : Heap) (a7 : Mem a5 [⟨.op a2 a3 0, 106, 3, [.agg [vi 0, vi 0, vi 0]]⟩]), b7 a1 = res → RC Try.prog b S Q [(10, vb a1), (2, .op a2 a3 0), (1, .fp v0)] a5) ?_ ?_
      · intro a1 a5 a7 hres
        rw [← b2] at hres
        refine rc_br hres rfl ?_ ?_ <;> clear hres <;> intro c hres <;> try simp only [qa, qaD] at c
        · refine sR ?_
          refine fL rfl (api_ExprNode.g_Op r0) rfl rfl ?_
          refine fL rfl (api_ExprNode.g_N r0) rfl rfl ?_
          refine rd_op (v := .agg [vi x0.Op, vi x0.N, vi 0]) (ov_build (cs := [vi x0.Op, vi x0.N, vi 0]) rfl rfl) ?_
          refine rd_storeO (k := 0) (v := .agg [vi x0.Op, vi x0.N, vi 0]) a7 rfl rfl rfl rfl (fun b6 a8 => ?_)
          replace a8 : Mem b6 [⟨.op a2 a3 0, 106, 3, [.agg [vi x0.Op, vi x0.N, vi 0]]⟩] := a8
          refine nS ?_
          subst hres
          exact rc_retV (.cell rfl (load_whole (k := 0) a8 rfl rfl) .nil) (deep_closed (TR.clo api_ExprNode.t (show api_ExprNode.t.R ({ Op := x0.Op, N := x0.N, W := 0 } : api_ExprNode) (.agg [vi x0.Op, vi x0.N, vi 0]) from rfl))) (show api_ExprNode.t.R ({ Op := x0.Op, N := x0.N, W := 0 } : api_ExprNode) (.agg [vi x0.Op, vi x0.N, vi 0]) from rfl)
        · refine rc_skip ?_
          refine pn_blk ?_
          refine pn_seq ?_
          refine sR ?_
          refine fL rfl (api_ExprNode.g_Op r0) rfl rfl ?_
          refine rd_op (v := .agg [vi x0.Op, vi 0, vi 0]) (ov_build (cs := [vi x0.Op, vi 0, vi 0]) rfl rfl) ?_
          refine rd_storeO (k := 0) (v := .agg [vi x0.Op, vi 0, vi 0]) a7 rfl rfl rfl rfl (fun b4 b1 => ?_)
          replace b1 : Mem b4 [⟨.op a2 a3 0, 106, 3, [.agg [vi x0.Op, vi 0, vi 0]]⟩] := b1
          refine nS ?_
          subst hres
          exact rc_retV (.cell rfl (load_whole (k := 0) b1 rfl rfl) .nil) (deep_closed (TR.clo api_ExprNode.t (show api_ExprNode.t.R ({ Op := x0.Op, N := 0, W := 0 } : api_ExprNode) (.agg [vi x0.Op, vi 0, vi 0]) from rfl))) (show api_ExprNode.t.R ({ Op := x0.Op, N := 0, W := 0 } : api_ExprNode) (.agg [vi x0.Op, vi 0, vi 0]) from rfl)
      · intro J
        refine rc_br hres rfl ?_ ?_ <;> clear hres <;> intro c hres <;> try simp only [qa, qaD] at c
        · refine rc_skip ?_
          refine pn_seq (wC (J _ _ (Mem.sub a0 (.cons_cons _ .slnil)) hres) rfl)
        · refine sR ?_
          refine bN i_eql rfl rfl ?_
          refine mV rfl ?_
          refine nS ?_
          refine rc_br hres rfl ?_ ?_ <;> clear hres <;> intro c hres <;> try simp only [qa, qaD] at c
          · refine rc_skip ?_
            refine pn_seq (wC (J _ _ (Mem.sub a0 (.cons_cons _ .slnil)) hres) rfl)
          · refine sR ?_
            refine bN i_eql rfl rfl ?_
            refine mV rfl ?_
            refine nS ?_
            refine rc_br hres rfl ?_ ?_ <;> clear hres <;> intro c hres <;> try simp only [qa, qaD] at c
            · refine rc_skip ?_
              refine pn_seq (wC (J _ _ (Mem.sub a0 (.cons_cons _ .slnil)) hres) rfl)
            · refine rc_region ?_
              refine bN i_eql rfl rfl ?_
              refine mV rfl ?_
              refine rd_nil ?_
              refine pn_seq (wC (J _ _ (Mem.sub a0 (.cons_cons _ .slnil)) hres) rfl)
  · intro J
    refine rc_br hres rfl ?_ ?_ <;> clear hres <;> intro c hres <;> try simp only [qa, qaD] at c
    · refine rc_skip ?_
      refine pn_seq (wC (J _ _ (Mem.sub a9 (.cons_cons _ .slnil)) hres) rfl)
    · refine sR ?_
      refine bN i_eql rfl rfl ?_
      refine mV rfl ?_
      refine nS ?_
      refine rc_br hres rfl ?_ ?_ <;> clear hres <;> intro c hres <;> try simp only [qa, qaD] at c
      · refine rc_skip ?_
        refine pn_seq (wC (J _ _ (Mem.sub a9 (.cons_cons _ .slnil)) hres) rfl)
      · refine rc_region ?_
        refine bN i_eql rfl rfl ?_
        refine mV rfl ?_
        refine rd_nil ?_
        refine pn_seq (wC (J _ _ (Mem.sub a9 (.cons_cons _ .slnil)) hres) rfl)

def RF59 (res : Bool) (r : PV) : Prop := r = vb res
theorem ref13_EqualNodes_L1_ok {S : List Fr} {res : Bool} {x0 : List api_ExprNode} {x1 : List api_ExprNode} {v0 v1 : PV} (r0 : (tSl api_ExprNode.t).R x0 v0) (r1 : (tSl api_ExprNode.t).R x1 v1) (a9 : (!decide ((x0.length : Int) = (x1.length : Int))) = false) {K0 : Unit → Bool}
    (c5 : K0 () = res → PX Try.prog 0 S (QR Try.prog [(4, none)] (RF59 res)) [] ⟨0, []⟩) :
    ∀ {m : Nat} {a0 : Int} (b4 : m = Int.toNat ((x0.length : Int) - a0)) (a6 : 0 ≤ a0), ref13_EqualNodes_L1 x0 x1 K0 m a0 = res → RC Try.prog (.loop ac59_L1) S (QR Try.prog [(4, none)] (RF59 res)) [(5, vi a0), (1, v1), (0, v0)] ⟨0, []⟩ := by
  have a3 := a9
  try simp only [qa, qaD] at a3
  intro m
  induction m with
  | zero =>
    intro a0 b4 a6 hres
    rw [ref13_EqualNodes_L1] at hres
    refine rc_loop ?_
    refine rc_seq ?_
    refine sR ?_
    refine mV rfl ?_
    refine mV rfl ?_
    refine rd_op (ov_bi rfl (sl_len r0 Try.underlying38 _)) ?_
    refine bN i_lss rfl rfl ?_
    refine nS ?_
    refine rc_cond rfl ?_ ?_ <;> intro c <;> try simp only [qa, qaD] at c
    · omega
    refine rc_exit ?_
    refine px_seq ?_
    refine px_again ?_
    exact wP (c5  hres) rfl
  | succ m ih =>
    intro a0 b4 a6 hres
    rw [ref13_EqualNodes_L1] at hres
    refine rc_loop ?_
    refine rc_seq ?_
    refine sR ?_
    refine mV rfl ?_
    refine mV rfl ?_
    refine rd_op (ov_bi rfl (sl_len r0 Try.underlying38 _)) ?_
    refine bN i_lss rfl rfl ?_
    refine nS ?_
    refine rc_cond rfl ?_ ?_ <;> intro c <;> try simp only [qa, qaD] at c
    rotate_left
    · omega
    refine rc_skip ?_
    refine pn_seq ?_
    refine rc_seq ?_
    refine rc_block ?_
    refine sR ?_
    refine mV rfl ?_
    refine mV rfl ?_
    obtain ⟨b8, b1, a1⟩ := sl_idx (i := a0) r0 (by omega) (by omega)
    refine rd_op (ov_iaddr rfl rfl b1) ?_
    refine lD a1 rfl rfl rfl ?_
    obtain ⟨c4, a5, hres⟩ := let_ex hres
    obtain ⟨b5, b3, a8⟩ := f79_ok  a1 
    rw [a5] at a8
    refine cL b3 rfl rfl (clL_cons (TR.clo api_ExprNode.t a1) clL_nil) ?_
    refine mV rfl ?_
    refine mV rfl ?_
    obtain ⟨b6, b2, a2⟩ := sl_idx (i := a0) r1 (by omega) (by omega)
    refine rd_op (ov_iaddr rfl rfl b2) ?_
    refine lD a2 rfl rfl rfl ?_
    obtain ⟨b9, a7, hres⟩ := let_ex hres
    obtain ⟨b7, b0, a4⟩ := f79_ok  a2 
    rw [a7] at a4
    refine cL b0 rfl rfl (clL_cons (TR.clo api_ExprNode.t a2) clL_nil) ?_
    refine bN (api_ExprNode.neq_106 a8 a4) rfl rfl ?_
    refine nS ?_
    refine rc_br hres rfl ?_ ?_ <;> clear hres <;> intro c hres <;> try simp only [qa, qaD] at c
    · refine sR ?_
      refine mB rfl ?_
      refine nS ?_
      exact rR hres rfl rfl rfl
    · refine rc_skip ?_
      refine pn_blk ?_
      refine pn_seq ?_
      refine rc_region ?_
      refine mV rfl ?_
      refine bN i_add rfl rfl ?_
      refine mV rfl ?_
      refine rd_nil ?_
      refine pn_again ?_
      have hbd := sl_bound r0
      have hinc : wr (a0 + 1) = a0 + 1 := wr_of (by omega) (by omega)
      erw [hinc]
      exact wC (ih   (by omega) (by omega) hres) rfl

theorem f59_ok {x0 : List api_ExprNode} {x1 : List api_ExprNode} {v0 v1 : PV} (r0 : (tSl api_ExprNode.t).R x0 v0) (r1 : (tSl api_ExprNode.t).R x1 v1) : FnR Try.prog 59 [v0, v1] (vb (ref13_EqualNodes x0 x1)) := by
  refine fnS (R := RF59) text59 (fun _ h => h) rfl fun res hres => ?_
  unfold ref13_EqualNodes at hres
  refine sR ?_
  refine mB rfl ?_
  refine nS ?_
  refine rc_seq ?_
  refine sR ?_
  refine mV rfl ?_
  refine rd_op (ov_bi rfl (sl_len r0 Try.underlying38 _)) ?_
  refine mV rfl ?_
  refine rd_op (ov_bi rfl (sl_len r1 Try.underlying38 _)) ?_
  refine bN i_neq rfl rfl ?_
  refine nS ?_
  refine rc_br hres rfl ?_ ?_ <;> clear hres <;> intro a0 hres <;> have a1 := a0 <;> try simp only [qa, qaD] at a1
  · refine sR ?_
    refine mB rfl ?_
    refine nS ?_
    exact rR hres rfl rfl rfl
  · refine rc_skip ?_
    refine pn_seq ?_
    refine rc_seq ?_
    refine sR ?_
    refine mI rfl ?_
    refine nS ?_
    refine rc_block ?_
    refine wC (ref13_EqualNodes_L1_ok r0 r1 a0 ?_  rfl (by omega) hres) rfl
    · intro  hres
      refine px_blk ?_
      refine pn_seq ?_
      refine sR ?_
      refine mB rfl ?_
      refine nS ?_
      exact rR hres rfl rfl rfl

def RF30 (res : Bool) (r : PV) : Prop := r = vb res
theorem ref32_EqualUnits_L2_ok {S : List Fr} {res : Bool} {x0 : List api_Unit} {x1 : List api_Unit} {a0 : Int} {v0 v1 : PV} (r0 : (tSl api_Unit.t).R x0 v0) (r1 : (tSl api_Unit.t).R x1 v1) (b1 : (!decide ((x0.length : Int) = (x1.length : Int))) = false) (d0 : 0 ≤ a0) (a6 : (decide (a0 < (x0.length : Int))) = true) (a8 : (((!decide (((ix x0 a0).Table) = ((ix x1 a0).Table))) || (!(ref13_EqualNodes ((ix x0 a0).Cond) ((ix x1 a0).Cond)))) || (!decide ((((ix x0 a0).Guards).length : Int) = (((ix x1 a0).Guards).length : Int)))) = false) {K2 : Unit → Bool}
    (d8 : K2 () = res → PX Try.prog 2 S (QR Try.prog [(4, none)] (RF30 res)) [(0, v0), (1, v1), (5, vi a0)] ⟨0, []⟩) :
    ∀ {m : Nat} {a1 : Int} (c9 : m = Int.toNat ((((ix x0 a0).Guards).length : Int) - a1)) (a9 : 0 ≤ a1), ref32_EqualUnits_L2 x0 x1 a0 K2 m a1 = res → RC Try.prog (.loop ac30_L2) S (QR Try.prog [(4, none)] (RF30 res)) [(6, vi a1), (5, vi a0), (1, v1), (0, v0)] ⟨0, []⟩ := by
  have a4 := b1
  try simp only [qa, qaD] at a4
  have a3 := a6
  try simp only [qa, qaD] at a3
  have a2 := a8
  try simp only [qa, qaD] at a2
  intro m
  induction m with
  | zero =>
    intro a1 c9 a9 hres
    rw [ref32_EqualUnits_L2] at hres
    refine rc_loop ?_
    refine rc_seq ?_
    refine sR ?_
    refine mV rfl ?_
    refine mV rfl ?_
    refine mV rfl ?_
    obtain ⟨e1, c5, c6⟩ := sl_idx (i := a0) r0 (by omega) (by omega)
    refine rd_op (ov_iaddr rfl rfl c5) ?_
    refine gL (api_Unit.g_Guards c6) rfl rfl rfl fun d3 b8 => ?_
    refine rd_op (ov_bi rfl (sl_len b8 Try.underlying56 _)) ?_
    refine bN i_lss rfl rfl ?_
    refine nS ?_
    refine rc_cond rfl ?_ ?_ <;> intro c <;> try simp only [qa, qaD] at c
    · omega
    refine rc_exit ?_
    refine px_seq ?_
    refine px_again ?_
    exact wP (d8  hres) rfl
  | succ m ih =>
    intro a1 c9 a9 hres
    rw [ref32_EqualUnits_L2] at hres
    refine rc_loop ?_
    refine rc_seq ?_
    refine sR ?_
    refine mV rfl ?_
    refine mV rfl ?_
    refine mV rfl ?_
    obtain ⟨d5, b9, b3⟩ := sl_idx (i := a0) r0 (by omega) (by omega)
    refine rd_op (ov_iaddr rfl rfl b9) ?_
    refine gL (api_Unit.g_Guards b3) rfl rfl rfl fun d9 a5 => ?_
    refine rd_op (ov_bi rfl (sl_len a5 Try.underlying56 _)) ?_
    refine bN i_lss rfl rfl ?_
    refine nS ?_
    refine rc_cond rfl ?_ ?_ <;> intro c <;> try simp only [qa, qaD] at c
    rotate_left
    · omega
    refine rc_skip ?_
    refine pn_seq ?_
    refine rc_seq ?_
    refine rc_block ?_
    refine sR ?_
    refine mV rfl ?_
    refine mV rfl ?_
    obtain ⟨d6, b2, b4⟩ := sl_idx (i := a0) r0 (by omega) (by omega)
    refine rd_op (ov_iaddr rfl rfl b2) ?_
    refine gL (api_Unit.g_Guards b4) rfl rfl rfl fun d2 b5 => ?_
    refine mV rfl ?_
    obtain ⟨e0, b6, b0⟩ := sl_idx (i := a1) b5 (by omega) (by omega)
    refine rd_op (ov_iaddr rfl rfl b6) ?_
    refine lD b0 rfl rfl rfl ?_
    refine mV rfl ?_
    refine mV rfl ?_
    obtain ⟨d4, c4, c8⟩ := sl_idx (i := a0) r1 (by omega) (by omega)
    refine rd_op (ov_iaddr rfl rfl c4) ?_
    refine gL (api_Unit.g_Guards c8) rfl rfl rfl fun d7 c7 => ?_
    refine mV rfl ?_
    obtain ⟨d1, b7, a7⟩ := sl_idx (i := a1) c7 (by omega) (by omega)
    refine rd_op (ov_iaddr rfl rfl b7) ?_
    refine lD a7 rfl rfl rfl ?_
    refine bN (api_Guard.neq_60 b0 a7) rfl rfl ?_
    refine nS ?_
    refine rc_br hres rfl ?_ ?_ <;> clear hres <;> intro c hres <;> try simp only [qa, qaD] at c
    · refine sR ?_
      refine mB rfl ?_
      refine nS ?_
      exact rR hres rfl rfl rfl
    · refine rc_skip ?_
      refine pn_blk ?_
      refine pn_seq ?_
      refine rc_region ?_
      refine mV rfl ?_
      refine bN i_add rfl rfl ?_
      refine mV rfl ?_
      refine rd_nil ?_
      refine pn_again ?_
      have hbd := sl_bound a5
      have hinc : wr (a1 + 1) = a1 + 1 := wr_of (by omega) (by omega)
      erw [hinc]
      exact wC (ih   (by omega) (by omega) hres) rfl

theorem ref32_EqualUnits_L1_ok {S : List Fr} {res : Bool} {x0 : List api_Unit} {x1 : List api_Unit} {v0 v1 : PV} (r0 : (tSl api_Unit.t).R x0 v0) (r1 : (tSl api_Unit.t).R x1 v1) (a5 : (!decide ((x0.length : Int) = (x1.length : Int))) = false) {K0 : Unit → Bool}
    (e8 : K0 () = res → PX Try.prog 0 S (QR Try.prog [(4, none)] (RF30 res)) [] ⟨0, []⟩) :
    ∀ {m : Nat} {a0 : Int} (d7 : m = Int.toNat ((x0.length : Int) - a0)) (a8 : 0 ≤ a0), ref32_EqualUnits_L1 x0 x1 K0 m a0 = res → RC Try.prog (.loop ac30_L1) S (QR Try.prog [(4, none)] (RF30 res)) [(5, vi a0), (1, v1), (0, v0)] ⟨0, []⟩ := by
  have b3 := a5
  try simp only [qa, qaD] at b3
  intro m
  induction m with
  | zero =>
    intro a0 d7 a8 hres
    rw [ref32_EqualUnits_L1] at hres
    refine rc_loop ?_
    refine rc_seq ?_
    refine sR ?_
    refine mV rfl ?_
    refine mV rfl ?_
    refine rd_op (ov_bi rfl (sl_len r0 Try.underlying48 _)) ?_
    refine bN i_lss rfl rfl ?_
    refine nS ?_
    refine rc_cond rfl ?_ ?_ <;> intro c <;> try simp only [qa, qaD] at c
    · omega
    refine rc_exit ?_
    refine px_seq ?_
    refine px_again ?_
    exact wP (e8  hres) rfl
  | succ m ih =>
    intro a0 d7 a8 hres
    rw [ref32_EqualUnits_L1] at hres
    refine rc_loop ?_
    refine rc_seq ?_
    refine sR ?_
    refine mV rfl ?_
    refine mV rfl ?_
    refine rd_op (ov_bi rfl (sl_len r0 Try.underlying48 _)) ?_
    refine bN i_lss rfl rfl ?_
    refine nS ?_
    refine rc_cond rfl (fun a1 => ?_) (fun a1 => ?_)
    · have hgo := hres
      have b0 := a1
      try simp only [qa, qaD] at b0
      refine rc_skip ?_
      refine pn_seq ?_
      refine rc_seq ?_
      refine rc_block ?_
      refine rc_seq ?_
      refine sR ?_
      refine mV rfl ?_
      refine mV rfl ?_
      obtain ⟨e2, c8, b6⟩ := sl_idx (i := a0) r0 (by omega) (by omega)
      refine rd_op (ov_iaddr rfl rfl c8) ?_
      refine fL rfl (api_Unit.g_Table b6) rfl rfl ?_
      refine mV rfl ?_
      refine mV rfl ?_
      obtain ⟨e7, d5, c4⟩ := sl_idx (i := a0) r1 (by omega) (by omega)
      refine rd_op (ov_iaddr rfl rfl d5) ?_
      refine fL rfl (api_Unit.g_Table c4) rfl rfl ?_
      refine bN i_neq rfl rfl ?_
      refine mV rfl ?_
      refine rd_cutn 13 (d := 42) (v := vb ((!decide (((ix x0 a0).Table) = ((ix x1 a0).Table))) || (!(ref13_EqualNodes ((ix x0 a0).Cond) ((ix x1 a0).Cond))))) ?_ ?_
      · intro S Q r
        cases b4 : (!decide (((ix x0 a0).Table) = ((ix x1 a0).Table)))
        · intro k
          have b2 := b4
          try simp only [qa, qaD] at b2
          refine rd_yes rfl rfl (ov_move rfl) ?_
          refine rd_yes rfl rfl (ov_move rfl) ?_
          obtain ⟨d9, c9, b8⟩ := sl_idx (i := a0) r0 (by omega) (by omega)
          refine rd_yes rfl rfl (ov_iaddr rfl rfl c9) ?_
          obtain ⟨e3, d3, a2⟩ := api_Unit.g_Cond b8
          refine rd_yes rfl rfl (ov_faddr rfl d3) ?_
          refine rd_yes rfl rfl (ov_load rfl (TR.cnt (tSl api_ExprNode.t) a2) (TR.agg (tSl api_ExprNode.t) a2)) ?_
          refine rd_yes rfl rfl (ov_move rfl) ?_
          refine rd_yes rfl rfl (ov_move rfl) ?_
          obtain ⟨e1, c6, b7⟩ := sl_idx (i := a0) r1 (by omega) (by omega)
          refine rd_yes rfl rfl (ov_iaddr rfl rfl c6) ?_
          obtain ⟨d8, d1, a3⟩ := api_Unit.g_Cond b7
          refine rd_yes rfl rfl (ov_faddr rfl d1) ?_
          refine rd_yes rfl rfl (ov_load rfl (TR.cnt (tSl api_ExprNode.t) a3) (TR.agg (tSl api_ExprNode.t) a3)) ?_
          have c7 := f59_ok  a2 a3 
          refine rd_ycall rfl rfl (cv_fn rfl rfl (clL_cons (TR.clo (tSl api_ExprNode.t) a2) (clL_cons (TR.clo (tSl api_ExprNode.t) a3) clL_nil)) c7) ?_
          refine rd_yes rfl rfl (ov_not rfl) ?_
          exact gK rfl rfl rfl rfl rfl k
        · exact gN 12 rfl rfl rfl rfl rfl rfl
      refine mV rfl ?_
      refine rd_cutn 14 (d := 57) (v := vb (((!decide (((ix x0 a0).Table) = ((ix x1 a0).Table))) || (!(ref13_EqualNodes ((ix x0 a0).Cond) ((ix x1 a0).Cond)))) || (!decide ((((ix x0 a0).Guards).length : Int) = (((ix x1 a0).Guards).length : Int))))) ?_ ?_
      · intro S Q r
        cases b5 : ((!decide (((ix x0 a0).Table) = ((ix x1 a0).Table))) || (!(ref13_EqualNodes ((ix x0 a0).Cond) ((ix x1 a0).Cond))))
        · intro k
          have a7 := b5
          try simp only [qa, qaD] at a7
          refine rd_yes rfl rfl (ov_move rfl) ?_
          refine rd_yes rfl rfl (ov_move rfl) ?_
          obtain ⟨e6, d0, d2⟩ := sl_idx (i := a0) r0 (by omega) (by omega)
          refine rd_yes rfl rfl (ov_iaddr rfl rfl d0) ?_
          obtain ⟨e4, b9, b1⟩ := api_Unit.g_Guards d2
          refine rd_yes rfl rfl (ov_faddr rfl b9) ?_
          refine rd_yes rfl rfl (ov_load rfl (TR.cnt (tSl api_Guard.t) b1) (TR.agg (tSl api_Guard.t) b1)) ?_
          refine rd_yes rfl rfl (ov_bi rfl (sl_len b1 Try.underlying56 _)) ?_
          refine rd_yes rfl rfl (ov_move rfl) ?_
          refine rd_yes rfl rfl (ov_move rfl) ?_
          obtain ⟨e0, d4, c5⟩ := sl_idx (i := a0) r1 (by omega) (by omega)
          refine rd_yes rfl rfl (ov_iaddr rfl rfl d4) ?_
          obtain ⟨e5, d6, a9⟩ := api_Unit.g_Guards c5
          refine rd_yes rfl rfl (ov_faddr rfl d6) ?_
          refine rd_yes rfl rfl (ov_load rfl (TR.cnt (tSl api_Guard.t) a9) (TR.agg (tSl api_Guard.t) a9)) ?_
          refine rd_yes rfl rfl (ov_bi rfl (sl_len a9 Try.underlying56 _)) ?_
          refine rd_yes rfl rfl (ov_bin rfl rfl i_neq) ?_
          exact gK rfl rfl rfl rfl rfl k
        · exact gN 13 rfl rfl rfl rfl rfl rfl
      refine nS ?_
      refine rc_br hres rfl ?_ ?_ <;> clear hres <;> intro a4 hres <;> have a6 := a4 <;> try simp only [qa, qaD] at a6
      · refine sR ?_
        refine mB rfl ?_
        refine nS ?_
        exact rR hres rfl rfl rfl
      · refine rc_skip ?_
        refine pn_seq ?_
        refine sR ?_
        refine mI rfl ?_
        refine nS ?_
        refine rc_block ?_
        refine wC (ref32_EqualUnits_L2_ok r0 r1 a5 a8 a1 a4 ?_  rfl (by omega) hres) rfl
        · intro  hres
          refine px_blk ?_
          refine pn_blk ?_
          refine pn_seq ?_
          refine rc_region ?_
          refine mV rfl ?_
          refine bN i_add rfl rfl ?_
          refine mV rfl ?_
          refine rd_nil ?_
          refine pn_again ?_
          have hbd := sl_bound r0
          have hinc : wr (a0 + 1) = a0 + 1 := wr_of (by omega) (by omega)
          erw [hinc]
          exact wC (ih   (by omega) (by omega) hres) rfl
    · exfalso
      try simp only [qa, qaD] at a1
      omega

theorem f30_ok {x0 : List api_Unit} {x1 : List api_Unit} {v0 v1 : PV} (r0 : (tSl api_Unit.t).R x0 v0) (r1 : (tSl api_Unit.t).R x1 v1) : FnR Try.prog 30 [v0, v1] (vb (ref32_EqualUnits x0 x1)) := by
  refine fnS (R := RF30) text30 (fun _ h => h) rfl fun res hres => ?_
  unfold ref32_EqualUnits at hres
  refine sR ?_
  refine mB rfl ?_
  refine nS ?_
  refine rc_seq ?_
  refine sR ?_
  refine mV rfl ?_
  refine rd_op (ov_bi rfl (sl_len r0 Try.underlying48 _)) ?_
  refine mV rfl ?_
  refine rd_op (ov_bi rfl (sl_len r1 Try.underlying48 _)) ?_
  refine bN i_neq rfl rfl ?_
  refine nS ?_
  refine rc_br hres rfl ?_ ?_ <;> clear hres <;> intro a0 hres <;> have a1 := a0 <;> try simp only [qa, qaD] at a1
  · refine sR ?_
    refine mB rfl ?_
    refine nS ?_
    exact rR hres rfl rfl rfl
  · refine rc_skip ?_
    refine pn_seq ?_
    refine rc_seq ?_
    refine sR ?_
    refine mI rfl ?_
    refine nS ?_
    refine rc_block ?_
    refine wC (ref32_EqualUnits_L1_ok r0 r1 a0 ?_  rfl (by omega) hres) rfl
    · intro  hres
      refine px_blk ?_
      refine pn_seq ?_
      refine sR ?_
      refine mB rfl ?_
      refine nS ?_
      exact rR hres rfl rfl rfl

def RF5 (res : Bool) (r : PV) : Prop := r = vb res
theorem f5_ok {x0 : api_Program} {v0 : PV} (r0 : api_Program.t.R x0 v0) (hbu : btl x0.Control ≤ 1048576) : FnR Try.prog 5 [v0] (vb (law32_UnitsBuild x0)) := by
  refine fnS (R := RF5) text5 (fun _ h => h) rfl fun res hres => ?_
  unfold law32_UnitsBuild at hres
  refine sR ?_
  refine rd_op (ov_box rfl (TR.cnt api_Program.t r0)) ?_
  refine mB rfl ?_
  refine nS ?_
  refine rc_seq ?_
  refine sR ?_
  refine lD r0 rfl rfl rfl ?_
  obtain ⟨b9, a9, hres⟩ := let_ex hres
  have a6 := f28_ok  r0 
  rw [a9] at a6
  refine cL a6 rfl rfl (clL_cons (TR.clo api_Program.t r0) clL_nil) ?_
  refine rd_op (ov_not rfl) ?_
  refine nS ?_
  refine rc_br hres rfl ?_ ?_ <;> clear hres <;> intro c hres <;> try simp only [qa, qaD] at c
  · refine sR ?_
    obtain ⟨c4, a5, hres⟩ := let_ex hres
    have a8 := f29_ok   
    rw [a5] at a8
    refine cL a8 rfl rfl clL_nil ?_
    refine mV rfl ?_
    refine nS ?_
    exact rR hres rfl rfl rfl
  · refine rc_skip ?_
    refine pn_seq ?_
    refine sR ?_
    refine lD r0 rfl rfl rfl ?_
    obtain ⟨b8, b2, hres⟩ := let_ex hres
    obtain ⟨c5, b3, a2⟩ := f31_ok  r0 (by (first | exact gu_of (by assumption) | (have hk := sm_csl (by assumption) (by assumption) (by assumption); first | omega | (simp only [List.length_nil]; omega)))) (by (first | exact gu_of (by assumption) | (have hk := sm_csl (by assumption) (by assumption) (by assumption); first | omega | (simp only [List.length_nil]; omega))))
    rw [b2] at a2
    refine cL b3 rfl rfl (clL_cons (TR.clo api_Program.t r0) clL_nil) ?_
    refine lD r0 rfl rfl rfl ?_
    obtain ⟨b6, a7, hres⟩ := let_ex hres
    obtain ⟨b7, b5, a0⟩ := f32_ok  r0 (by (first | exact gu_of (by assumption) | (have hk := sm_csl (by assumption) (by assumption) (by assumption); first | omega | (simp only [List.length_nil]; omega))))
    rw [a7] at a0
    refine cL b5 rfl rfl (clL_cons (TR.clo api_Program.t r0) clL_nil) ?_
    obtain ⟨b0, a3, hres⟩ := let_ex hres
    have a4 := f30_ok  a2 a0 
    rw [a3] at a4
    refine cL a4 rfl rfl (clL_cons (TR.clo (tSl api_Unit.t) a2) (clL_cons (TR.clo (tSl api_Unit.t) a0) clL_nil)) ?_
    refine mV rfl ?_
    refine rd_cutn 2 (d := 14) (v := vb (b0 && (law32_awake))) ?_ ?_
    · intro S Q r
      cases b1 : b0
      · exact gN 1 rfl rfl rfl rfl rfl rfl
      · intro k
        have a1 := b1
        try simp only [qa, qaD] at a1
        have b4 := f29_ok   
        refine rd_ycall rfl rfl (cv_fn rfl rfl clL_nil b4) ?_
        exact gK rfl rfl rfl rfl rfl k
    refine mV rfl ?_
    refine nS ?_
    exact rR hres rfl rfl rfl

def RF38 (R_ : List Ent) (res : (List Bool) × Int) (r : PV) (h : Heap) : Prop := ∃ asR0_ : PV, ∃ esR0_ : List PV, Mem h (⟨asR0_, 4, 1, esR0_⟩ :: R_) ∧ (All2 tB.R res.1 esR0_) ∧ (isL asR0_ = true) ∧ (res.1.length ≤ 4611686018427387904) ∧ (Wri asR0_ esR0_) ∧ r = .tup [asR0_, vi res.2]
theorem law32_visit_L1_ok {S : List Fr} {res : (List Bool) × Int} {x0 : List Bool} {x1 : List api_ControlNode} {x2 : List Bool} {x3 : Int} {x4 : Bool} {rec_ : (List Bool) → (List api_ControlNode) → (List Bool) → Int → Bool → ((List Bool) × Int)} {mu_ : Nat} {v1 v2 : PV} {R_ : List Ent} {a7 : PV} {b1 : List PV} (r1 : (tSl api_ControlNode.t).R x1 v1) (r2 : (tSl tB).R x2 v2) (g5 : isL a7 = true) (h6 : x0.length ≤ 4611686018427387904) (g7 : Wri a7 b1) (hc : x0.length + csl x1 ≤ 1000) (h3 : 0 ≤ x3) (h4 : x3 + csl x1 ≤ 1000000) (ihR : ∀ {z0 : List Bool} {z1 : List api_ControlNode} {z2 : List Bool} {z3 : Int} {z4 : Bool} {i1 i0 a7 : PV} {b1 : List PV} {R_ : List Ent} {h_ : Heap} (j2 : (tSl api_ControlNode.t).R z1 i1) (j3 : (tSl tB).R z2 i0) (j0 : All2 tB.R z0 b1) (g5 : isL a7 = true) (h6 : z0.length ≤ 4611686018427387904) (g7 : Wri a7 b1) (M_ : Mem h_ (⟨a7, 4, 1, b1⟩ :: R_)) (hc : z0.length + csl z1 ≤ 1000) (h3 : 0 ≤ z3) (h4 : z3 + csl z1 ≤ 1000000), csl z1 < mu_ → ∃ r i2, FnX Try.prog 38 [a7, i1, i0, vi z3, vb z4] h_ r i2 ∧ RF38 R_ (rec_ z0 z1 z2 z3 z4) r i2) (hmu : mu_ = csl x1) (hrec : VR rec_) {K0 : Int → (List Bool) → ((List Bool) × Int)}
    (j1 : ∀ {a1 : Int} {b0 : List Bool} {a3 : List PV} {a9 : PV} (e0 : All2 tB.R b0 a3) (e8 : isL a9 = true) (b2 : Wri a9 a3) (b8 : b0.length ≤ 4611686018427387904) {h : Heap} (M0 : Mem h (⟨a9, 4, 1, a3⟩ :: R_)), K0 a1 b0 = res → PX Try.prog 0 S (retPost Try.prog [(10, none), (11, none)] (RF38 R_ res)) [(0, a9), (3, vi a1)] h) :
    ∀ {m : Nat} {a1 a0 : Int} {b0 : List Bool} {a3 : List PV} {a9 : PV} (e0 : All2 tB.R b0 a3) (e8 : isL a9 = true) (b2 : Wri a9 a3) (b8 : b0.length ≤ 4611686018427387904) (i4 : m = Int.toNat ((x1.length : Int) - a0)) (e9 : 0 ≤ a0) (d4 : b0.length + csl (x1.drop a0.toNat) ≤ x0.length + csl x1) (d1 : 0 ≤ a1 ∧ a1 + csl (x1.drop a0.toNat) ≤ x3 + csl x1) {h : Heap} (M0 : Mem h (⟨a9, 4, 1, a3⟩ :: R_)), law32_visit_L1 x1 x2 x4 rec_ K0 m a1 a0 b0 = res → RC Try.prog (.loop ac38_L1) S (retPost Try.prog [(10, none), (11, none)] (RF38 R_ res)) [(12, vi a0), (4, vb x4), (3, vi a1), (2, v2), (1, v1), (0, a9)] h := by
  have hc' := hc
  try simp only [qa, qaD] at hc'
  intro m
  induction m with
  | zero =>
    intro a1 a0 b0 a3 a9 e0 e8 b2 b8 i4 e9 d4 d1 h M0 hres
    rw [law32_visit_L1] at hres
    refine rc_loop ?_
    refine rc_seq ?_
    refine sR ?_
    refine mV rfl ?_
    refine mV rfl ?_
    refine rd_op (ov_bi rfl (sl_len r1 Try.underlying28 _)) ?_
    refine bN i_lss rfl rfl ?_
    refine nS ?_
    refine rc_cond rfl ?_ ?_ <;> intro c <;> try simp only [qa, qaD] at c
    · omega
    refine rc_exit ?_
    refine px_seq ?_
    refine px_again ?_
    exact wP (j1 e0 e8 b2 b8 (Mem.sub M0 (.cons_cons _ (List.Sublist.refl R_))) hres) rfl
  | succ m ih =>
    intro a1 a0 b0 a3 a9 e0 e8 b2 b8 i4 e9 d4 d1 h M0 hres
    rw [law32_visit_L1] at hres
    refine rc_loop ?_
    refine rc_seq ?_
    refine sR ?_
    refine mV rfl ?_
    refine mV rfl ?_
    refine rd_op (ov_bi rfl (sl_len r1 Try.underlying28 _)) ?_
    refine bN i_lss rfl rfl ?_
    refine nS ?_
    refine rc_cond rfl ?_ ?_ <;> intro c <;> try simp only [qa, qaD] at c
    rotate_left
    · omega
    refine rc_skip ?_
    refine pn_seq ?_
    refine rc_seq ?_
    refine rc_block ?_
    refine sR ?_
    refine mV rfl ?_
    refine mV rfl ?_
    refine nR ?_
    refine mV rfl ?_
    refine mV rfl ?_
    refine rd_op (v := .fs true [vb x4]) (ov_bslice rfl (all_cons rfl all_nil)) ?_
    have h2 : (tSl tB).R ([x4] : List Bool) (.fs true [vb x4]) := sl_fs ⟨rfl, trivial⟩ (by simp)
    obtain ⟨a8, e7, d2⟩ := src_of (t := tB) (h := h) h2
    have f3 : fits (a3.length + a8.length) 1 = true := by rw [All2.length_eq e0, All2.length_eq d2]; (try simp only [List.length_cons, List.length_nil]); exact fits_of (by first | omega | (have hk := csl_drop (l := x1) (i := a0) (by omega) (by omega); have a5 := csl_ix (l := x1) (i := a0) (by omega) (by omega); have hw_ : wr (a1 + 1) = a1 + 1 := wr_of (by omega) (by omega); (try simp only [List.length_append, List.length_cons, List.length_nil, hw_] at *); omega)) (by first | omega | (have hk := csl_drop (l := x1) (i := a0) (by omega) (by omega); have a5 := csl_ix (l := x1) (i := a0) (by omega) (by omega); have hw_ : wr (a1 + 1) = a1 + 1 := wr_of (by omega) (by omega); (try simp only [List.length_append, List.length_cons, List.length_nil, hw_] at *); omega))
    refine rd_appW (k := 0) (es := a3) (news := a8) M0 rfl rfl rfl e8 b2 e7 f3 (fun a4 h1 h9 f1 g9 => ?_)
    have f0 : All2 tB.R (b0 ++ ([x4] : List Bool)) (a3 ++ a8) := All2.app e0 d2
    have f6 : (b0 ++ ([x4] : List Bool)).length ≤ 4611686018427387904 := by rw [← All2.length_eq f0, List.length_append]; exact fits_len f3
    refine mV rfl ?_
    refine nR ?_
    refine mV rfl ?_
    refine mV rfl ?_
    refine rd_op (ov_bi rfl (sl_len r2 Try.underlying50 _)) ?_
    refine bN i_lss rfl rfl ?_
    refine mV rfl ?_
    refine rd_weak (E0 := [(30, vb (decide (a1 < (x2.length : Int)))), (29, vb (decide (a1 < (x2.length : Int)))), (28, vi (x2.length : Int)), (27, v2), (26, vi a1), (0, a4), (25, a4), (24, .fs true [vb x4]), (23, vb x4), (22, a9), (13, vi a1), (21, vi a1), (18, vb (decide (a0 < (x1.length : Int)))), (17, vi (x1.length : Int)), (16, v1), (15, vi a0), (12, vi a0), (4, vb x4), (3, vi a1), (2, v2), (1, v1)]) (sB rfl) ?_
    refine rd_cut (d := 35) (v := vb ((decide (a1 < (x2.length : Int))) && (ix x2 a1))) ?_ ?_
    · intro S Q r
      simp only [ac38_G1, List.cons_append, List.nil_append, List.append_assoc]
      cases e3 : (decide (a1 < (x2.length : Int)))
      · exact gN 4 rfl rfl rfl rfl rfl rfl
      · intro k
        have d9 := e3
        try simp only [qa, qaD] at d9
        refine rd_yes rfl rfl (ov_move rfl) ?_
        refine rd_yes rfl rfl (ov_move rfl) ?_
        refine rd_yes rfl rfl (ov_iaddr rfl rfl (slB r2 (by omega) (by omega))) ?_
        refine rd_yes rfl rfl (ov_load rfl rfl rfl) ?_
        exact gK rfl rfl rfl rfl rfl k
    refine mV rfl ?_
    refine nS ?_
    refine rc_seq ?_
    refine rc_regionS ?_
    refine rs_step ?_
    refine mV rfl ?_
    refine rs_back ?_
    refine rs_step ?_
    refine mV rfl ?_
    refine rs_back ?_
    refine rs_step ?_
    refine mV rfl ?_
    refine rs_back ?_
    refine rs_step ?_
    obtain ⟨e1, g4, g8⟩ := sl_idx (i := a0) r1 (by omega) (by omega)
    refine rd_op (ov_iaddr rfl rfl g4) ?_
    refine rs_back ?_
    refine rs_step ?_
    obtain ⟨c5, g6, f5⟩ := api_ControlNode.g_Then g8
    refine fA rfl g6 ?_
    refine rs_back ?_
    refine rs_step ?_
    refine lD f5 rfl rfl rfl ?_
    refine rs_back ?_
    refine rs_step ?_
    refine mV rfl ?_
    refine rs_back ?_
    refine rs_step ?_
    refine mV rfl ?_
    refine rs_back ?_
    refine rs_step ?_
    refine bN i_add rfl rfl ?_
    refine rs_back ?_
    refine rs_step ?_
    refine mV rfl ?_
    refine rs_back ?_
    refine rs_step ?_
    refine mV rfl ?_
    refine rs_back ?_
    refine rs_chunk ?_
    refine rd_weak (E0 := [(47, vb x4), (46, vb x4), (45, vi (wr (a1 + 1))), (44, vi a1), (43, v2), (42, c5), (41, .fp c5), (40, .fp e1), (39, vi a0), (38, v1), (37, a4), (14, vb ((decide (a1 < (x2.length : Int))) && (ix x2 a1))), (35, vb ((decide (a1 < (x2.length : Int))) && (ix x2 a1))), (30, vb (decide (a1 < (x2.length : Int)))), (29, vb (decide (a1 < (x2.length : Int)))), (28, vi (x2.length : Int)), (27, v2), (26, vi a1), (0, a4), (25, a4), (24, .fs true [vb x4]), (23, vb x4), (22, a9), (13, vi a1), (21, vi a1), (18, vb (decide (a0 < (x1.length : Int)))), (17, vi (x1.length : Int)), (16, v1), (15, vi a0), (12, vi a0), (4, vb x4), (3, vi a1), (2, v2), (1, v1)]) (sB rfl) ?_
    refine rd_cut (d := 49) (v := vb (x4 && ((decide (a1 < (x2.length : Int))) && (ix x2 a1)))) ?_ ?_
    · intro S Q r
      simp only [ac38_G2, List.cons_append, List.nil_append, List.append_assoc]
      cases f4 : x4
      · exact gN 1 rfl rfl rfl rfl rfl rfl
      · intro k
        have d7 := f4
        try simp only [qa, qaD] at d7
        refine rd_yes rfl rfl (ov_move rfl) ?_
        exact gK rfl rfl rfl rfl rfl k
    refine rs_back ?_
    have h7 : Mem h1 (⟨a4, 4, 1, (a3 ++ a8)⟩ :: R_) := (Mem.front (k := 0) g9 rfl)
    obtain ⟨a6, d3, hres⟩ := let_ex hres
    obtain ⟨i6, h5, e2, d6⟩ := ihR (z0 := (b0 ++ ([x4] : List Bool))) (z1 := ((ix x1 a0).Then)) (z2 := x2) (z3 := (wr (a1 + 1))) (z4 := (x4 && ((decide (a1 < (x2.length : Int))) && (ix x2 a1)))) f5 r2 f0 h9 f6 f1 h7 (by first | omega | (have hk := csl_drop (l := x1) (i := a0) (by omega) (by omega); have a5 := csl_ix (l := x1) (i := a0) (by omega) (by omega); have hw_ : wr (a1 + 1) = a1 + 1 := wr_of (by omega) (by omega); (try simp only [List.length_append, List.length_cons, List.length_nil, hw_] at *); omega)) (by first | omega | (have hk := csl_drop (l := x1) (i := a0) (by omega) (by omega); have a5 := csl_ix (l := x1) (i := a0) (by omega) (by omega); have hw_ : wr (a1 + 1) = a1 + 1 := wr_of (by omega) (by omega); (try simp only [List.length_append, List.length_cons, List.length_nil, hw_] at *); omega)) (by first | omega | (have hk := csl_drop (l := x1) (i := a0) (by omega) (by omega); have a5 := csl_ix (l := x1) (i := a0) (by omega) (by omega); have hw_ : wr (a1 + 1) = a1 + 1 := wr_of (by omega) (by omega); (try simp only [List.length_append, List.length_cons, List.length_nil, hw_] at *); omega)) (by first | omega | (have hk := csl_drop (l := x1) (i := a0) (by omega) (by omega); have a5 := csl_ix (l := x1) (i := a0) (by omega) (by omega); have hw_ : wr (a1 + 1) = a1 + 1 := wr_of (by omega) (by omega); (try simp only [List.length_append, List.length_cons, List.length_nil, hw_] at *); omega))
    rw [d3] at d6
    obtain ⟨a2, b7, g1, b6, c9, c4, b5, b3⟩ := d6
    replace b3 := b3.symm; subst b3
    refine rs_callXc rfl rfl e2 ?_
    have i5 := vi_use hrec d3 (by first | omega | (have hk := csl_drop (l := x1) (i := a0) (by omega) (by omega); have a5 := csl_ix (l := x1) (i := a0) (by omega) (by omega); have hw_ : wr (a1 + 1) = a1 + 1 := wr_of (by omega) (by omega); (try simp only [List.length_append, List.length_cons, List.length_nil, hw_] at *); omega)) (by first | omega | (have hk := csl_drop (l := x1) (i := a0) (by omega) (by omega); have a5 := csl_ix (l := x1) (i := a0) (by omega) (by omega); have hw_ : wr (a1 + 1) = a1 + 1 := wr_of (by omega) (by omega); (try simp only [List.length_append, List.length_cons, List.length_nil, hw_] at *); omega))
    refine rs_step ?_
    refine mV rfl ?_
    refine rs_back ?_
    refine rs_step ?_
    refine xT rfl rfl ?_
    refine rs_back ?_
    refine rs_step ?_
    refine xT rfl rfl ?_
    refine rs_back ?_
    refine rs_step ?_
    refine mV rfl ?_
    refine rs_back ?_
    refine rs_step ?_
    refine mV rfl ?_
    refine rs_back ?_
    refine rs_nil ?_
    refine pn_seq ?_
    refine rc_regionS ?_
    refine rs_step ?_
    refine mV rfl ?_
    refine rs_back ?_
    refine rs_step ?_
    refine mV rfl ?_
    refine rs_back ?_
    refine rs_step ?_
    refine mV rfl ?_
    refine rs_back ?_
    refine rs_step ?_
    obtain ⟨g2, g0, g3⟩ := sl_idx (i := a0) r1 (by omega) (by omega)
    refine rd_op (ov_iaddr rfl rfl g0) ?_
    refine rs_back ?_
    refine rs_step ?_
    obtain ⟨e5, h8, e6⟩ := api_ControlNode.g_Else g3
    refine fA rfl h8 ?_
    refine rs_back ?_
    refine rs_step ?_
    refine lD e6 rfl rfl rfl ?_
    refine rs_back ?_
    refine rs_step ?_
    refine mV rfl ?_
    refine rs_back ?_
    refine rs_step ?_
    refine mV rfl ?_
    refine rs_back ?_
    refine rs_step ?_
    refine mV rfl ?_
    refine rs_back ?_
    refine rs_step ?_
    refine mV rfl ?_
    refine rs_back ?_
    refine rs_chunk ?_
    refine rd_weak (E0 := [(63, vb x4), (62, vb x4), (61, vi a6.2), (60, v2), (59, e5), (58, .fp e5), (57, .fp g2), (56, vi a0), (55, v1), (54, a2), (3, vi a6.2), (0, a2), (52, vi a6.2), (51, a2), (36, .tup [a2, vi a6.2]), (50, .tup [a2, vi a6.2]), (49, vb (x4 && ((decide (a1 < (x2.length : Int))) && (ix x2 a1)))), (47, vb x4), (46, vb x4), (45, vi (wr (a1 + 1))), (44, vi a1), (43, v2), (42, c5), (41, .fp c5), (40, .fp e1), (39, vi a0), (38, v1), (37, a4), (14, vb ((decide (a1 < (x2.length : Int))) && (ix x2 a1))), (35, vb ((decide (a1 < (x2.length : Int))) && (ix x2 a1))), (30, vb (decide (a1 < (x2.length : Int)))), (29, vb (decide (a1 < (x2.length : Int)))), (28, vi (x2.length : Int)), (27, v2), (26, vi a1), (25, a4), (24, .fs true [vb x4]), (23, vb x4), (22, a9), (13, vi a1), (21, vi a1), (18, vb (decide (a0 < (x1.length : Int)))), (17, vi (x1.length : Int)), (16, v1), (15, vi a0), (12, vi a0), (4, vb x4), (2, v2), (1, v1)]) (sB rfl) ?_
    refine rd_cut (d := 66) (v := vb (x4 && (!((decide (a1 < (x2.length : Int))) && (ix x2 a1))))) ?_ ?_
    · intro S Q r
      simp only [ac38_G3, List.cons_append, List.nil_append, List.append_assoc]
      cases f2 : x4
      · exact gN 2 rfl rfl rfl rfl rfl rfl
      · intro k
        have d8 := f2
        try simp only [qa, qaD] at d8
        refine rd_yes rfl rfl (ov_move rfl) ?_
        refine rd_yes rfl rfl (ov_not rfl) ?_
        exact gK rfl rfl rfl rfl rfl k
    refine rs_back ?_
    have f9 : Mem h5 (⟨a2, 4, 1, b7⟩ :: R_) := (Mem.front (k := 0) g1 rfl)
    obtain ⟨i9, d0, hres⟩ := let_ex hres
    obtain ⟨i7, i8, e4, d5⟩ := ihR (z0 := a6.1) (z1 := ((ix x1 a0).Else)) (z2 := x2) (z3 := a6.2) (z4 := (x4 && (!((decide (a1 < (x2.length : Int))) && (ix x2 a1))))) e6 r2 b6 c9 c4 b5 f9 (by first | omega | (have hk := csl_drop (l := x1) (i := a0) (by omega) (by omega); have a5 := csl_ix (l := x1) (i := a0) (by omega) (by omega); have hw_ : wr (a1 + 1) = a1 + 1 := wr_of (by omega) (by omega); (try simp only [List.length_append, List.length_cons, List.length_nil, hw_] at *); omega)) (by first | omega | (have hk := csl_drop (l := x1) (i := a0) (by omega) (by omega); have a5 := csl_ix (l := x1) (i := a0) (by omega) (by omega); have hw_ : wr (a1 + 1) = a1 + 1 := wr_of (by omega) (by omega); (try simp only [List.length_append, List.length_cons, List.length_nil, hw_] at *); omega)) (by first | omega | (have hk := csl_drop (l := x1) (i := a0) (by omega) (by omega); have a5 := csl_ix (l := x1) (i := a0) (by omega) (by omega); have hw_ : wr (a1 + 1) = a1 + 1 := wr_of (by omega) (by omega); (try simp only [List.length_append, List.length_cons, List.length_nil, hw_] at *); omega)) (by first | omega | (have hk := csl_drop (l := x1) (i := a0) (by omega) (by omega); have a5 := csl_ix (l := x1) (i := a0) (by omega) (by omega); have hw_ : wr (a1 + 1) = a1 + 1 := wr_of (by omega) (by omega); (try simp only [List.length_append, List.length_cons, List.length_nil, hw_] at *); omega))
    rw [d0] at d5
    obtain ⟨f8, f7, h0, c7, c8, b9, c6, b4⟩ := d5
    replace b4 := b4.symm; subst b4
    refine rs_callXc rfl rfl e4 ?_
    have i3 := vi_use hrec d0 (by first | omega | (have hk := csl_drop (l := x1) (i := a0) (by omega) (by omega); have a5 := csl_ix (l := x1) (i := a0) (by omega) (by omega); have hw_ : wr (a1 + 1) = a1 + 1 := wr_of (by omega) (by omega); (try simp only [List.length_append, List.length_cons, List.length_nil, hw_] at *); omega)) (by first | omega | (have hk := csl_drop (l := x1) (i := a0) (by omega) (by omega); have a5 := csl_ix (l := x1) (i := a0) (by omega) (by omega); have hw_ : wr (a1 + 1) = a1 + 1 := wr_of (by omega) (by omega); (try simp only [List.length_append, List.length_cons, List.length_nil, hw_] at *); omega))
    refine rs_step ?_
    refine mV rfl ?_
    refine rs_back ?_
    refine rs_step ?_
    refine xT rfl rfl ?_
    refine rs_back ?_
    refine rs_step ?_
    refine xT rfl rfl ?_
    refine rs_back ?_
    refine rs_step ?_
    refine mV rfl ?_
    refine rs_back ?_
    refine rs_step ?_
    refine mV rfl ?_
    refine rs_back ?_
    refine rs_nil ?_
    refine pn_blk ?_
    refine pn_seq ?_
    refine rc_region ?_
    refine mV rfl ?_
    refine bN i_add rfl rfl ?_
    refine mV rfl ?_
    refine rd_nil ?_
    refine pn_again ?_
    have hbd := sl_bound r1
    have hinc : wr (a0 + 1) = a0 + 1 := wr_of (by omega) (by omega)
    erw [hinc]
    exact wC (ih  c7 c8 c6 b9 (by omega) (by omega) (by first | omega | (have hk := csl_drop (l := x1) (i := a0) (by omega) (by omega); have a5 := csl_ix (l := x1) (i := a0) (by omega) (by omega); have hw_ : wr (a1 + 1) = a1 + 1 := wr_of (by omega) (by omega); (try simp only [List.length_append, List.length_cons, List.length_nil, hw_] at *); omega)) (by first | omega | (have hk := csl_drop (l := x1) (i := a0) (by omega) (by omega); have a5 := csl_ix (l := x1) (i := a0) (by omega) (by omega); have hw_ : wr (a1 + 1) = a1 + 1 := wr_of (by omega) (by omega); (try simp only [List.length_append, List.length_cons, List.length_nil, hw_] at *); omega)) (Mem.sub h0 (.cons_cons _ (List.Sublist.refl R_))) hres) rfl

theorem f38_okB {rec_ : (List Bool) → (List api_ControlNode) → (List Bool) → Int → Bool → ((List Bool) × Int)} {mu_ : Nat} {x0 : List Bool} {x1 : List api_ControlNode} {x2 : List Bool} {x3 : Int} {x4 : Bool} {v1 v2 a0 : PV} {a1 : List PV} {R_ : List Ent} {h_ : Heap} (r1 : (tSl api_ControlNode.t).R x1 v1) (r2 : (tSl tB).R x2 v2) (b3 : All2 tB.R x0 a1) (a8 : isL a0 = true) (a7 : x0.length ≤ 4611686018427387904) (b0 : Wri a0 a1) (M_ : Mem h_ (⟨a0, 4, 1, a1⟩ :: R_)) (hc : x0.length + csl x1 ≤ 1000) (h3 : 0 ≤ x3) (h4 : x3 + csl x1 ≤ 1000000) (hmu : mu_ = csl x1) (hrec : VR rec_) (ihR : ∀ {z0 : List Bool} {z1 : List api_ControlNode} {z2 : List Bool} {z3 : Int} {z4 : Bool} {b9 b8 a0 : PV} {a1 : List PV} {R_ : List Ent} {h_ : Heap} (c5 : (tSl api_ControlNode.t).R z1 b9) (c4 : (tSl tB).R z2 b8) (b3 : All2 tB.R z0 a1) (a8 : isL a0 = true) (a7 : z0.length ≤ 4611686018427387904) (b0 : Wri a0 a1) (M_ : Mem h_ (⟨a0, 4, 1, a1⟩ :: R_)) (hc : z0.length + csl z1 ≤ 1000) (h3 : 0 ≤ z3) (h4 : z3 + csl z1 ≤ 1000000), csl z1 < mu_ → ∃ r b2, FnX Try.prog 38 [a0, b9, b8, vi z3, vb z4] h_ r b2 ∧ RF38 R_ (rec_ z0 z1 z2 z3 z4) r b2) : ∃ r b2, FnX Try.prog 38 [a0, v1, v2, vi x3, vb x4] h_ r b2 ∧ RF38 R_ (law32_visit_B rec_ x0 x1 x2 x3 x4) r b2 := by
  refine fnXX (R := RF38 R_) text38 rfl fun res hres => ?_
  unfold law32_visit_B at hres
  refine sR ?_
  refine rd_op (v := nilS) (ov_move rfl) ?_
  refine mI rfl ?_
  refine nS ?_
  refine rc_seq ?_
  refine sR ?_
  refine mI rfl ?_
  refine nS ?_
  refine rc_block ?_
  refine wC (law32_visit_L1_ok r1 r2 a8 a7 b0 hc h3 h4 ihR hmu hrec ?_  b3 a8 b0 a7 rfl (by omega) (by simp <;> omega) (by simp <;> omega) (Mem.sub M_ (.cons_cons _ (List.Sublist.refl R_))) hres) rfl
  · intro b5 b4 a2 a3 a9 a6 a4 a5 b6 b7 hres
    refine px_blk ?_
    refine pn_seq ?_
    refine sR ?_
    refine mV rfl ?_
    refine mV rfl ?_
    refine mV rfl ?_
    refine mV rfl ?_
    refine nS ?_
    have b1 : Mem b6 (⟨a3, 4, 1, a2⟩ :: R_) := (Mem.front (k := 0) b7 rfl)
    subst hres
    exact rc_retX (.tmp rfl (.tmp rfl .nil)) ⟨a3, a2, Mem.sub b1 (.cons_cons _ (List.Sublist.refl R_)), a9, a6, a5, a4, rfl⟩
theorem f38_okR : ∀ (n_ : Nat) {x0 : List Bool} {x1 : List api_ControlNode} {x2 : List Bool} {x3 : Int} {x4 : Bool} {v1 v2 a0 : PV} {a1 : List PV} {R_ : List Ent} {h_ : Heap} (r1 : (tSl api_ControlNode.t).R x1 v1) (r2 : (tSl tB).R x2 v2) (a4 : All2 tB.R x0 a1) (a3 : isL a0 = true) (a2 : x0.length ≤ 4611686018427387904) (a5 : Wri a0 a1) (M_ : Mem h_ (⟨a0, 4, 1, a1⟩ :: R_)) (hc : x0.length + csl x1 ≤ 1000) (h3 : 0 ≤ x3) (h4 : x3 + csl x1 ≤ 1000000), csl x1 < n_ → ∃ r a6, FnX Try.prog 38 [a0, v1, v2, vi x3, vb x4] h_ r a6 ∧ RF38 R_ (law32_visit_R n_ x0 x1 x2 x3 x4) r a6 := by
  intro n_
  induction n_ with
  | zero => intros; rename_i hlt; exact absurd hlt (Nat.not_lt_zero _)
  | succ n_ ihn =>
    intro x0 x1 x2 x3 x4 v1 v2 a0 a1 R_ h_ r1 r2 a4 a3 a2 a5 M_ hc h3 h4 hlt
    have e_ : law32_visit_R (n_ + 1) x0 x1 x2 x3 x4 = law32_visit_B (law32_visit_R n_) x0 x1 x2 x3 x4 := by rw [law32_visit_R]
    rw [e_]
    exact f38_okB r1 r2 a4 a3 a2 a5 M_ hc h3 h4 rfl (visit_len n_) (fun {z0} {z1} {z2} {z3} {z4} {zv1} {zv2} {a0} {a1} {R_} {h_} zr1 zr2 a4 a3 a2 a5 M_ hc h3 h4 hz => ihn zr1 zr2 a4 a3 a2 a5 M_ hc h3 h4 (by omega))
theorem f38_ok {x0 : List Bool} {x1 : List api_ControlNode} {x2 : List Bool} {x3 : Int} {x4 : Bool} {v1 v2 a0 : PV} {a1 : List PV} {R_ : List Ent} {h_ : Heap} (r1 : (tSl api_ControlNode.t).R x1 v1) (r2 : (tSl tB).R x2 v2) (a4 : All2 tB.R x0 a1) (a3 : isL a0 = true) (a2 : x0.length ≤ 4611686018427387904) (a5 : Wri a0 a1) (M_ : Mem h_ (⟨a0, 4, 1, a1⟩ :: R_)) (hc : x0.length + csl x1 ≤ 1000) (h3 : 0 ≤ x3) (h4 : x3 + csl x1 ≤ 1000000) : ∃ r a6, FnX Try.prog 38 [a0, v1, v2, vi x3, vb x4] h_ r a6 ∧ RF38 R_ (law32_visit x0 x1 x2 x3 x4) r a6 := f38_okR _ r1 r2 a4 a3 a2 a5 M_ hc h3 h4 (Nat.lt_succ_self _)

def RF34 (res : Bool) (r : PV) : Prop := r = vb res
theorem units_Executes_L1_ok {S : List Fr} {res : Bool} {x0 : List api_Unit} {x1 : List Bool} {x2 : Int} {v1 b0 : PV} (r1 : (tSl tB).R x1 v1) (b2 : ((decide (x2 < 0)) || (decide ((x0.length : Int) ≤ x2))) = false) (a6 : (tSl api_Guard.t).R ((ix x0 x2).Guards) b0) {K0 : Unit → Bool}
    (c4 : ∀ {h : Heap} (M0 : Mem h []), K0 () = res → PX Try.prog 0 S (QR Try.prog [(6, none)] (RF34 res)) [] h) :
    ∀ {m : Nat} {a0 : Int} (b8 : m = Int.toNat ((((ix x0 x2).Guards).length : Int) - a0)) (a7 : 0 ≤ a0) {h : Heap} (M0 : Mem h []), units_Executes_L1 x0 x1 x2 K0 m a0 = res → RC Try.prog (.loop ac34_L1) S (QR Try.prog [(6, none)] (RF34 res)) [(23, vi a0), (22, vi (((ix x0 x2).Guards).length : Int)), (21, b0), (1, v1)] h := by
  have a4 := b2
  try simp only [qa, qaD] at a4
  intro m
  induction m with
  | zero =>
    intro a0 b8 a7 h M0 hres
    rw [units_Executes_L1] at hres
    refine rc_loop ?_
    refine sR ?_
    refine bN i_lss rfl rfl ?_
    refine nS ?_
    refine rc_seq ?_
    refine rc_cond rfl ?_ ?_ <;> intro c <;> try simp only [qa, qaD] at c
    · omega
    refine rc_exit ?_
    refine px_seq ?_
    refine px_again ?_
    exact wP (c4 (Mem.sub M0 .slnil) hres) rfl
  | succ m ih =>
    intro a0 b8 a7 h M0 hres
    rw [units_Executes_L1] at hres
    refine rc_loop ?_
    refine sR ?_
    refine bN i_lss rfl rfl ?_
    refine nS ?_
    refine rc_seq ?_
    refine rc_cond rfl ?_ ?_ <;> intro c <;> try simp only [qa, qaD] at c
    rotate_left
    · omega
    refine rc_skip ?_
    refine pn_seq ?_
    refine rc_seq ?_
    refine rc_block ?_
    refine sR ?_
    obtain ⟨a8, b5, a2⟩ := sl_idx (i := a0) a6 (by omega) (by omega)
    refine rd_op (ov_iaddr rfl rfl b5) ?_
    refine lD a2 rfl rfl rfl ?_
    refine rd_allocO (x := .agg [vi 0, vb false]) M0 rfl rfl (fun b3 b6 b9 b7 => ?_)
    refine rd_storeO (k := 0) (v := a8) b7 rfl rfl rfl (TR.cnt api_Guard.t a2) (fun b4 a1 => ?_)
    replace a1 : Mem b4 [⟨.op b3 b6 0, 60, 2, [a8]⟩] := a1
    refine nR ?_
    refine rd_op (ov_faddrO rfl) ?_
    refine rd_op (ov_loadf (k := 0) a1 rfl rfl (api_Guard.g_Unit a2)) ?_
    refine bN i_geq rfl rfl ?_
    refine mV rfl ?_
    refine rd_cutn 6 (d := 36) (v := vb ((decide (0 ≤ ((ix ((ix x0 x2).Guards) a0).Unit))) && (decide (((ix ((ix x0 x2).Guards) a0).Unit) < (x1.length : Int))))) ?_ ?_
    · intro S Q r
      cases a9 : (decide (0 ≤ ((ix ((ix x0 x2).Guards) a0).Unit)))
      · exact gN 5 rfl rfl rfl rfl rfl rfl
      · intro k
        have a5 := a9
        try simp only [qa, qaD] at a5
        refine rd_yes rfl rfl (ov_faddrO rfl) ?_
        refine rd_yes rfl rfl (ov_loadf (k := 0) a1 rfl rfl (api_Guard.g_Unit a2)) ?_
        refine rd_yes rfl rfl (ov_move rfl) ?_
        refine rd_yes rfl rfl (ov_bi rfl (sl_len r1 Try.underlying50 _)) ?_
        refine rd_yes rfl rfl (ov_bin rfl rfl i_lss) ?_
        exact gK rfl rfl rfl rfl rfl k
    refine mV rfl ?_
    refine rd_cutn 6 (d := 43) (v := vb (((decide (0 ≤ ((ix ((ix x0 x2).Guards) a0).Unit))) && (decide (((ix ((ix x0 x2).Guards) a0).Unit) < (x1.length : Int)))) && (ix x1 ((ix ((ix x0 x2).Guards) a0).Unit)))) ?_ ?_
    · intro S Q r
      cases b1 : ((decide (0 ≤ ((ix ((ix x0 x2).Guards) a0).Unit))) && (decide (((ix ((ix x0 x2).Guards) a0).Unit) < (x1.length : Int))))
      · exact gN 5 rfl rfl rfl rfl rfl rfl
      · intro k
        have a3 := b1
        try simp only [qa, qaD] at a3
        refine rd_yes rfl rfl (ov_move rfl) ?_
        refine rd_yes rfl rfl (ov_faddrO rfl) ?_
        refine rd_yes rfl rfl (ov_loadf (k := 0) a1 rfl rfl (api_Guard.g_Unit a2)) ?_
        refine rd_yes rfl rfl (ov_iaddr rfl rfl (slB r1 (by omega) (by omega))) ?_
        refine rd_yes rfl rfl (ov_load rfl rfl rfl) ?_
        exact gK rfl rfl rfl rfl rfl k
    refine rd_op (ov_faddrO rfl) ?_
    refine rd_op (ov_loadf (k := 0) a1 rfl rfl (api_Guard.g_Want a2)) ?_
    refine bN (bin_neqb (by rw [Try.underlying4]; rfl)) rfl rfl ?_
    refine nS ?_
    refine rc_br hres rfl ?_ ?_ <;> clear hres <;> intro c hres <;> try simp only [qa, qaD] at c
    · refine sR ?_
      refine mB rfl ?_
      refine nS ?_
      exact rR hres rfl rfl rfl
    · refine rc_skip ?_
      refine pn_blk ?_
      refine pn_seq ?_
      refine rc_region ?_
      refine bN i_add rfl rfl ?_
      refine mV rfl ?_
      refine rd_nil ?_
      refine pn_again ?_
      have hbd := sl_bound a6
      have hinc : wr (a0 + 1) = a0 + 1 := wr_of (by omega) (by omega)
      erw [hinc]
      exact wC (ih   (by omega) (by omega) (Mem.sub a1 (.cons _ .slnil)) hres) rfl

theorem f34_ok {x0 : List api_Unit} {x1 : List Bool} {x2 : Int} {v0 v1 : PV} (r0 : (tSl api_Unit.t).R x0 v0) (r1 : (tSl tB).R x1 v1) : FnR Try.prog 34 [v0, v1, vi x2] (vb (units_Executes x0 x1 x2)) := by
  refine fnS (R := RF34) text34 (fun _ h => h) rfl fun res hres => ?_
  unfold units_Executes at hres
  refine sR ?_
  refine mB rfl ?_
  refine nS ?_
  refine rc_seq ?_
  refine sR ?_
  refine mV rfl ?_
  refine bN i_lss rfl rfl ?_
  refine mV rfl ?_
  refine rd_cutn 5 (d := 16) (v := vb ((decide (x2 < 0)) || (decide ((x0.length : Int) ≤ x2)))) ?_ ?_
  · intro S Q r
    cases a4 : (decide (x2 < 0))
    · intro k
      have a2 := a4
      try simp only [qa, qaD] at a2
      refine rd_yes rfl rfl (ov_move rfl) ?_
      refine rd_yes rfl rfl (ov_move rfl) ?_
      refine rd_yes rfl rfl (ov_bi rfl (sl_len r0 Try.underlying48 _)) ?_
      refine rd_yes rfl rfl (ov_bin rfl rfl i_geq) ?_
      exact gK rfl rfl rfl rfl rfl k
    · exact gN 4 rfl rfl rfl rfl rfl rfl
  refine nS ?_
  refine rc_br hres rfl ?_ ?_ <;> clear hres <;> intro a0 hres <;> have a1 := a0 <;> try simp only [qa, qaD] at a1
  · refine sR ?_
    refine mB rfl ?_
    refine nS ?_
    exact rR hres rfl rfl rfl
  · refine rc_skip ?_
    refine pn_seq ?_
    refine rc_seq ?_
    refine sR ?_
    refine mV rfl ?_
    refine mV rfl ?_
    obtain ⟨b0, a6, a5⟩ := sl_idx (i := x2) r0 (by omega) (by omega)
    refine rd_op (ov_iaddr rfl rfl a6) ?_
    refine gL (api_Unit.g_Guards a5) rfl rfl rfl fun a8 a3 => ?_
    refine rd_op (ov_bi rfl (sl_len a3 Try.underlying56 _)) ?_
    refine mI rfl ?_
    refine nS ?_
    refine rc_block ?_
    refine wC (units_Executes_L1_ok r1 a0 a3 ?_  rfl (by omega) (Mem.sub (Mem.nil ⟨0, []⟩) .slnil) hres) rfl
    · intro a7 a9 hres
      refine px_blk ?_
      refine pn_seq ?_
      refine sR ?_
      refine mB rfl ?_
      refine nS ?_
      exact rR hres rfl rfl rfl

def RF9 (res : Bool) (r : PV) : Prop := r = vb res
theorem law32_UnitsWalk_L1_ok {S : List Fr} {res : Bool} {x0 : api_Program} {x1 : List Bool} {b6 : Bool} {a5 : (List api_Unit)} {a1 : (List Bool) × Int} {v1 c5 a0 : PV} {a2 : List PV} (r1 : (tSl tB).R x1 v1) (hbu : btl x0.Control ≤ 1048576) (d3 : law22_Small x0 = b6) (c6 : (!b6) = false) (d6 : units_Build x0 = a5) (b4 : (tSl api_Unit.t).R a5 c5) (b7 : (decide ((a5.length : Int) = 0)) = false) (d5 : law32_visit ([] : List Bool) x0.Control x1 0 true = a1) (a3 : All2 tB.R a1.1 a2) (c7 : isL a0 = true) (c8 : a1.1.length ≤ 4611686018427387904) (a7 : Wri a0 a2) (b8 : ((!decide (a1.2 = (a5.length : Int))) || (!decide ((a1.1.length : Int) = a1.2))) = false) {K0 : Unit → Bool}
    (d7 : ∀ {h : Heap} (M0 : Mem h [⟨a0, 4, 1, a2⟩]), K0 () = res → PX Try.prog 0 S (QR Try.prog [(4, none)] (RF9 res)) [] h) :
    ∀ {m : Nat} {a4 : Int} (d2 : m = Int.toNat (a1.2 - a4)) (b3 : 0 ≤ a4) {h : Heap} (M0 : Mem h [⟨a0, 4, 1, a2⟩]), law32_UnitsWalk_L1 x1 a5 a1 K0 m a4 = res → RC Try.prog (.loop ac9_L1) S (QR Try.prog [(4, none)] (RF9 res)) [(8, vi a4), (7, vi a1.2), (6, a0), (5, c5), (1, v1)] h := by
  have hbu' := hbu
  try simp only [qa, qaD] at hbu'
  have a8 := c6
  try simp only [qa, qaD] at a8
  have b1 := b7
  try simp only [qa, qaD] at b1
  have b2 := b8
  try simp only [qa, qaD] at b2
  intro m
  induction m with
  | zero =>
    intro a4 d2 b3 h M0 hres
    rw [law32_UnitsWalk_L1] at hres
    refine rc_loop ?_
    refine rc_seq ?_
    refine sR ?_
    refine mV rfl ?_
    refine mV rfl ?_
    refine bN i_lss rfl rfl ?_
    refine nS ?_
    refine rc_cond rfl ?_ ?_ <;> intro c <;> try simp only [qa, qaD] at c
    · omega
    refine rc_exit ?_
    refine px_seq ?_
    refine px_again ?_
    exact wP (d7 (Mem.sub M0 (.cons_cons _ .slnil)) hres) rfl
  | succ m ih =>
    intro a4 d2 b3 h M0 hres
    rw [law32_UnitsWalk_L1] at hres
    refine rc_loop ?_
    refine rc_seq ?_
    refine sR ?_
    refine mV rfl ?_
    refine mV rfl ?_
    refine bN i_lss rfl rfl ?_
    refine nS ?_
    refine rc_cond rfl ?_ ?_ <;> intro c <;> try simp only [qa, qaD] at c
    rotate_left
    · omega
    refine rc_skip ?_
    refine pn_seq ?_
    refine rc_seq ?_
    refine rc_block ?_
    refine sR ?_
    refine mV rfl ?_
    refine mV rfl ?_
    refine mV rfl ?_
    obtain ⟨e0, b5, hres⟩ := let_ex hres
    have b9 := f34_ok (x2 := a4) b4 r1 
    rw [b5] at b9
    refine cL b9 rfl rfl (clL_cons (TR.clo (tSl api_Unit.t) b4) (clL_cons (TR.clo (tSl tB) r1) (clL_cons rfl clL_nil))) ?_
    refine mV rfl ?_
    refine mV rfl ?_
    obtain ⟨d8, d9, d1, c4⟩ := wri_os (i := a4) a7 a3 (by omega) (by omega)
    subst c4
    have d4 : a1.1.length = d1 := by rw [mem_osn M0 (k := 0) rfl, All2.length_eq a3]
    have a6 : 0 ≤ a4 := (by omega)
    have a9 : a4 < (a1.1.length : Int) := (by omega)
    refine rd_op (ov_iaddr rfl rfl (n_idx 1 a6 (by omega))) ?_
    obtain ⟨d0, c9, b0⟩ := elem_at (i := a4) a3 a6 a9
    have b0 : d0 = vb (ix a1.1 a4) := b0; subst b0
    refine rd_op (ov_elem (k := 0) M0 rfl rfl c9 rfl) ?_
    refine bN (bin_neqb (by rw [Try.underlying4]; rfl)) rfl rfl ?_
    refine nS ?_
    refine rc_br hres rfl ?_ ?_ <;> clear hres <;> intro c hres <;> try simp only [qa, qaD] at c
    · refine sR ?_
      refine mB rfl ?_
      refine nS ?_
      exact rR hres rfl rfl rfl
    · refine rc_skip ?_
      refine pn_blk ?_
      refine pn_seq ?_
      refine rc_region ?_
      refine mV rfl ?_
      refine bN i_add rfl rfl ?_
      refine mV rfl ?_
      refine rd_nil ?_
      refine pn_again ?_
      have hinc : wr (a4 + 1) = a4 + 1 := wr_of (by omega) (by omega)
      erw [hinc]
      exact wC (ih   (by omega) (by omega) (Mem.sub M0 (.cons_cons _ .slnil)) hres) rfl

theorem f9_ok {x0 : api_Program} {x1 : List Bool} {v0 v1 : PV} (r0 : api_Program.t.R x0 v0) (r1 : (tSl tB).R x1 v1) (hbu : btl x0.Control ≤ 1048576) : FnR Try.prog 9 [v0, v1] (vb (law32_UnitsWalk x0 x1)) := by
  refine fnS (R := RF9) text9 (fun _ h => h) rfl fun res hres => ?_
  unfold law32_UnitsWalk at hres
  refine sR ?_
  refine rd_op (ov_box rfl (TR.cnt api_Program.t r0)) ?_
  refine mB rfl ?_
  refine nS ?_
  refine rc_seq ?_
  refine sR ?_
  refine lD r0 rfl rfl rfl ?_
  obtain ⟨e4, a9, hres⟩ := let_ex hres
  have c7 := f28_ok  r0 
  rw [a9] at c7
  refine cL c7 rfl rfl (clL_cons (TR.clo api_Program.t r0) clL_nil) ?_
  refine rd_op (ov_not rfl) ?_
  refine nS ?_
  refine rc_br hres rfl ?_ ?_ <;> clear hres <;> intro b3 hres <;> have b4 := b3 <;> try simp only [qa, qaD] at b4
  · refine sR ?_
    obtain ⟨e7, c6, hres⟩ := let_ex hres
    have c8 := f29_ok   
    rw [c6] at c8
    refine cL c8 rfl rfl clL_nil ?_
    refine mV rfl ?_
    refine nS ?_
    exact rR hres rfl rfl rfl
  · refine rc_skip ?_
    refine pn_seq ?_
    refine sR ?_
    refine lD r0 rfl rfl rfl ?_
    obtain ⟨c5, b2, hres⟩ := let_ex hres
    obtain ⟨e9, d6, a3⟩ := f31_ok  r0 (by (first | exact gu_of (by assumption) | (have hk := sm_csl (by assumption) (by assumption) (by assumption); first | omega | (simp only [List.length_nil]; omega)))) (by (first | exact gu_of (by assumption) | (have hk := sm_csl (by assumption) (by assumption) (by assumption); first | omega | (simp only [List.length_nil]; omega))))
    rw [b2] at a3
    refine cL d6 rfl rfl (clL_cons (TR.clo api_Program.t r0) clL_nil) ?_
    refine mV rfl ?_
    refine nS ?_
    refine rc_seq ?_
    refine sR ?_
    refine mV rfl ?_
    refine rd_op (ov_bi rfl (sl_len a3 Try.underlying48 _)) ?_
    refine bN i_eql rfl rfl ?_
    refine nS ?_
    refine rc_br hres rfl ?_ ?_ <;> clear hres <;> intro a8 hres <;> have b5 := a8 <;> try simp only [qa, qaD] at b5
    · refine sR ?_
      obtain ⟨e6, d0, hres⟩ := let_ex hres
      have b9 := f29_ok   
      rw [d0] at b9
      refine cL b9 rfl rfl clL_nil ?_
      refine mV rfl ?_
      refine nS ?_
      exact rR hres rfl rfl rfl
    · refine rc_skip ?_
      refine pn_seq ?_
      refine rc_seq ?_
      refine rc_regionS ?_
      refine rs_step ?_
      obtain ⟨e3, d8, b8⟩ := api_Program.g_Control r0
      refine fA rfl d8 ?_
      refine rs_back ?_
      refine rs_step ?_
      refine lD b8 rfl rfl rfl ?_
      refine rs_back ?_
      refine rs_step ?_
      refine mV rfl ?_
      refine rs_back ?_
      have d9 := mem_acc (sz := 1) (es := []) (Mem.nil ⟨0, []⟩) 4 (.inl ⟨none, rfl, rfl⟩) (by simp)
      have d7 : Mem ⟨0, []⟩ [⟨nilS, 4, 1, ([] : List PV)⟩] := (Mem.front (k := 0) d9 rfl)
      obtain ⟨a5, b1, hres⟩ := let_ex hres
      obtain ⟨e0, e1, d3, a7⟩ := f38_ok (x0 := ([] : List Bool)) (x1 := x0.Control) (x2 := x1) (x3 := 0) (x4 := true) b8 r1 (show All2 tB.R ([] : List Bool) [] from trivial) rfl (by first | decide | simp) (.inl rfl) d7 (by (first | exact gu_of (by assumption) | (have hk := sm_csl (by assumption) (by assumption) (by assumption); first | omega | (simp only [List.length_nil]; omega)))) (by (first | exact gu_of (by assumption) | (have hk := sm_csl (by assumption) (by assumption) (by assumption); first | omega | (simp only [List.length_nil]; omega)))) (by (first | exact gu_of (by assumption) | (have hk := sm_csl (by assumption) (by assumption) (by assumption); first | omega | (simp only [List.length_nil]; omega))))
      rw [b1] at a7
      obtain ⟨d4, d5, d2, a1, a0, a4, a6, a2⟩ := a7
      replace a2 := a2.symm; subst a2
      refine rs_callXc rfl rfl d3 ?_
      refine rs_step ?_
      refine mV rfl ?_
      refine rs_back ?_
      refine rs_step ?_
      refine xT rfl rfl ?_
      refine rs_back ?_
      refine rs_step ?_
      refine xT rfl rfl ?_
      refine rs_back ?_
      refine rs_step ?_
      refine mV rfl ?_
      refine rs_back ?_
      refine rs_step ?_
      refine mV rfl ?_
      refine rs_back ?_
      refine rs_nil ?_
      refine pn_seq ?_
      refine rc_seq ?_
      refine sR ?_
      refine mV rfl ?_
      refine mV rfl ?_
      refine rd_op (ov_bi rfl (sl_len a3 Try.underlying48 _)) ?_
      refine bN i_neq rfl rfl ?_
      refine mV rfl ?_
      refine rd_cutn 5 (d := 35) (v := vb ((!decide (a5.2 = (c5.length : Int))) || (!decide ((a5.1.length : Int) = a5.2)))) ?_ ?_
      · intro S Q r
        cases c9 : (!decide (a5.2 = (c5.length : Int)))
        · intro k
          have b6 := c9
          try simp only [qa, qaD] at b6
          refine rd_yes rfl rfl (ov_move rfl) ?_
          refine rd_yes rfl rfl (ov_bi rfl (own_len (k := 0) d2 rfl Try.underlying50 a0 a1 _)) ?_
          refine rd_yes rfl rfl (ov_move rfl) ?_
          refine rd_yes rfl rfl (ov_bin rfl rfl i_neq) ?_
          exact gK rfl rfl rfl rfl rfl k
        · exact gN 4 rfl rfl rfl rfl rfl rfl
      refine nS ?_
      refine rc_br hres rfl ?_ ?_ <;> clear hres <;> intro b0 hres <;> have b7 := b0 <;> try simp only [qa, qaD] at b7
      · refine sR ?_
        refine mB rfl ?_
        refine nS ?_
        exact rR hres rfl rfl rfl
      · refine rc_skip ?_
        refine pn_seq ?_
        refine rc_seq ?_
        refine sR ?_
        refine mI rfl ?_
        refine nS ?_
        refine rc_block ?_
        refine wC (law32_UnitsWalk_L1_ok r1 hbu a9 b3 b2 a3 a8 b1 a1 a0 a4 a6 b0 ?_  rfl (by omega) (Mem.sub d2 (.cons_cons _ .slnil)) hres) rfl
        · intro e5 e8 hres
          refine px_blk ?_
          refine pn_seq ?_
          refine sR ?_
          obtain ⟨e2, d1, hres⟩ := let_ex hres
          have c4 := f29_ok   
          rw [d1] at c4
          refine cL c4 rfl rfl clL_nil ?_
          refine mV rfl ?_
          refine nS ?_
          exact rR hres rfl rfl rfl

end Go.Proofs.Ytkgnjpoafilicaa
