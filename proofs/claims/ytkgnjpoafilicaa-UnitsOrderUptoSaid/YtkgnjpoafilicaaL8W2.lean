/-
  The code of each function does what its plain program says.
-/
import Derived.Test.YtkgnjpoafilicaaL8W1
set_option linter.unusedVariables false
set_option linter.unusedSimpArgs false
set_option maxRecDepth 100000
namespace Go.Proofs.Ytkgnjpoafilicaa
open Go Go.Pb Go.RowKit
def RF75 (res : Int × Int) (r : PV) : Prop := r = .tup [vi res.1, vi res.2]
theorem f75_ok {x0 : List api_ExprNode} {x1 : expr_Scope} {v0 v1 : PV} (r0 : (tSl api_ExprNode.t).R x0 v0) (r1 : expr_Scope.t.R x1 v1) : FnR Try.prog 75 [v0, v1] (.tup [vi ((expr_Check x0 x1).1), vi ((expr_Check x0 x1).2)]) := by
  refine fnS (R := RF75) text75 (fun _ h => h) rfl fun res hres => ?_
  unfold expr_Check at hres
  refine sR ?_
  refine rd_op (ov_box rfl (TR.cnt expr_Scope.t r1)) ?_
  refine mI rfl ?_
  refine mI rfl ?_
  refine nS ?_
  refine rc_seq ?_
  refine sR ?_
  refine mV rfl ?_
  refine rd_op (ov_bi rfl (sl_len r0 Try.underlying38 _)) ?_
  refine bN i_gtr rfl rfl ?_
  refine nS ?_
  refine rc_br hres rfl ?_ ?_ <;> clear hres <;> intro c hres <;> try simp only [qa, qaD] at c
  · refine sR ?_
    refine mI rfl ?_
    refine mI rfl ?_
    refine nS ?_
    exact rT hres rfl rfl rfl rfl rfl
  · refine rc_skip ?_
    refine pn_seq ?_
    refine sR ?_
    refine lD r1 rfl rfl rfl ?_
    refine mV rfl ?_
    obtain ⟨a2, a0, hres⟩ := let_ex hres
    have a1 := f84_ok (x2 := 0) r1 r0 (by first | assumption | omega) (by first | assumption | omega)
    rw [a0] at a1
    refine cL a1 rfl rfl (clL_cons (TR.clo expr_Scope.t r1) (clL_cons (TR.clo (tSl api_ExprNode.t) r0) (clL_cons rfl clL_nil))) ?_
    refine mV rfl ?_
    refine xT rfl rfl ?_
    refine xT rfl rfl ?_
    refine xT rfl rfl ?_
    refine mV rfl ?_
    refine mV rfl ?_
    refine mV rfl ?_
    refine nS ?_
    refine rc_seq ?_
    refine rc_block ?_
    refine sR ?_
    refine mV rfl ?_
    refine bN i_neq rfl rfl ?_
    refine mV rfl ?_
    refine nS ?_
    refine rc_br hres rfl ?_ ?_ <;> clear hres <;> intro c hres <;> try simp only [qa, qaD] at c
    · refine sR ?_
      refine mV rfl ?_
      refine mI rfl ?_
      refine mV rfl ?_
      refine nS ?_
      exact rT hres rfl rfl rfl rfl rfl
    · refine sR ?_
      refine mV rfl ?_
      refine mV rfl ?_
      refine rd_op (ov_bi rfl (sl_len r0 Try.underlying38 _)) ?_
      refine bN i_lss rfl rfl ?_
      refine mV rfl ?_
      refine nS ?_
      refine rc_br hres rfl ?_ ?_ <;> clear hres <;> intro c hres <;> try simp only [qa, qaD] at c
      · refine sR ?_
        refine mI rfl ?_
        refine mI rfl ?_
        refine nS ?_
        exact rT hres rfl rfl rfl rfl rfl
      · refine rc_skip ?_
        refine pn_blk ?_
        refine pn_seq ?_
        refine sR ?_
        refine mV rfl ?_
        refine mV rfl ?_
        refine mI rfl ?_
        refine nS ?_
        exact rT hres rfl rfl rfl rfl rfl

def RF50 (res : Int) (r : PV) : Prop := r = vi res
theorem control_checkNode_L1_ok {S : List Fr} {res : Int} {x0 : api_Program} {x1 : api_ControlNode} {x2 : List Int} {a1 : Bool} {v1 v2 : PV} (r1 : api_ControlNode.t.R x1 v1) (r2 : (tSl tI).R x2 v2) (a6 : a1 = true) (a5 : ((decide (x1.Table < 0)) || (decide ((x0.Tables.length : Int) ≤ x1.Table))) = false) {K1 : Unit → Int}
    (a8 : K1 () = res → PX Try.prog 1 S (QR Try.prog [(6, none)] (RF50 res)) [(4, .fp v1)] ⟨0, []⟩) :
    ∀ {m : Nat} {a0 : Int} (a7 : m = Int.toNat ((x2.length : Int) - a0)) (a4 : 0 ≤ a0), control_checkNode_L1 x1 x2 K1 m a0 = res → RC Try.prog (.loop ac50_L1) S (QR Try.prog [(6, none)] (RF50 res)) [(29, vi a0), (28, vi (x2.length : Int)), (27, v2), (4, .fp v1)] ⟨0, []⟩ := by
  have a3 := a6
  try simp only [qa, qaD] at a3
  have a2 := a5
  try simp only [qa, qaD] at a2
  intro m
  induction m with
  | zero =>
    intro a0 a7 a4 hres
    rw [control_checkNode_L1] at hres
    refine rc_loop ?_
    refine sR ?_
    refine bN i_lss rfl rfl ?_
    refine nS ?_
    refine rc_seq ?_
    refine rc_cond rfl ?_ ?_ <;> intro c <;> try simp only [qa, qaD] at c
    · omega
    refine rc_exit ?_
    refine px_seq ?_
    refine px_again ?_
    exact wP (a8  hres) rfl
  | succ m ih =>
    intro a0 a7 a4 hres
    rw [control_checkNode_L1] at hres
    refine rc_loop ?_
    refine sR ?_
    refine bN i_lss rfl rfl ?_
    refine nS ?_
    refine rc_seq ?_
    refine rc_cond rfl ?_ ?_ <;> intro c <;> try simp only [qa, qaD] at c
    rotate_left
    · omega
    refine rc_skip ?_
    refine pn_seq ?_
    refine rc_seq ?_
    refine rc_block ?_
    refine sR ?_
    refine rd_op (ov_iaddr rfl rfl (slI r2 (by omega) (by omega))) ?_
    refine lR rfl rfl rfl ?_
    refine mV rfl ?_
    refine nR ?_
    refine mV rfl ?_
    refine fL rfl (api_ControlNode.g_Table r1) rfl rfl ?_
    refine bN i_eql rfl rfl ?_
    refine nS ?_
    refine rc_br hres rfl ?_ ?_ <;> clear hres <;> intro c hres <;> try simp only [qa, qaD] at c
    · refine sR ?_
      refine mI rfl ?_
      refine nS ?_
      exact rR hres rfl rfl rfl
    · refine rc_skip ?_
      refine pn_blk ?_
      refine pn_seq ?_
      refine rc_region ?_
      refine bN i_add rfl rfl ?_
      refine mV rfl ?_
      refine rd_nil ?_
      refine pn_again ?_
      have hbd := sl_bound r2
      have hinc : wr (a0 + 1) = a0 + 1 := wr_of (by omega) (by omega)
      erw [hinc]
      exact wC (ih   (by omega) (by omega) hres) rfl

theorem f50_ok {x0 : api_Program} {x1 : api_ControlNode} {x2 : List Int} {v0 v1 v2 : PV} (r0 : api_Program.t.R x0 v0) (r1 : api_ControlNode.t.R x1 v1) (r2 : (tSl tI).R x2 v2) : FnR Try.prog 50 [v0, v1, v2] (vi (control_checkNode x0 x1 x2)) := by
  refine fnS (R := RF50) text50 (fun _ h => h) rfl fun res hres => ?_
  unfold control_checkNode at hres
  refine sR ?_
  refine rd_op (ov_box rfl (TR.cnt api_Program.t r0)) ?_
  refine rd_op (ov_box rfl (TR.cnt api_ControlNode.t r1)) ?_
  refine mI rfl ?_
  refine nS ?_
  refine rc_seq ?_
  refine sR ?_
  refine fL rfl (api_ControlNode.g_Kind r1) rfl rfl ?_
  refine nS ?_
  refine rc_block ?_
  refine rc_seq ?_
  refine sR ?_
  refine bN i_eql rfl rfl ?_
  refine mV rfl ?_
  refine nS ?_
  obtain ⟨d8, d0, hres⟩ := let_ex hres
  refine rc_join (F := fun b S Q => ∀ (a8 : Bool), d8 a8 = res → RC Try.prog b S Q [(13, vb a8), (12, vi x1.Kind), (4, .fp v1), (3, .fp v0), (2, v2)] ⟨0, []⟩) ?_ ?_
  · intro a8  hres
    rw [← d0] at hres
    refine rc_br hres rfl ?_ ?_ <;> clear hres <;> intro b8 hres <;> have c8 := b8 <;> try simp only [qa, qaD] at c8
    · refine rc_seq ?_
      refine sR ?_
      refine fL rfl (api_ControlNode.g_Table r1) rfl rfl ?_
      refine bN i_lss rfl rfl ?_
      refine mV rfl ?_
      refine rd_cutn 7 (d := 26) (v := vb ((decide (x1.Table < 0)) || (decide ((x0.Tables.length : Int) ≤ x1.Table)))) ?_ ?_
      · intro S Q r
        cases d2 : (decide (x1.Table < 0))
        · intro k
          have c9 := d2
          try simp only [qa, qaD] at c9
          refine rd_yes rfl rfl (ov_faddr rfl (api_ControlNode.g_Table r1)) ?_
          refine rd_yes rfl rfl (ov_load rfl rfl rfl) ?_
          obtain ⟨e4, d7, c6⟩ := api_Program.g_Tables r0
          refine rd_yes rfl rfl (ov_faddr rfl d7) ?_
          refine rd_yes rfl rfl (ov_load rfl (TR.cnt (tSl api_Table.t) c6) (TR.agg (tSl api_Table.t) c6)) ?_
          refine rd_yes rfl rfl (ov_bi rfl (sl_len c6 Try.underlying26 _)) ?_
          refine rd_yes rfl rfl (ov_bin rfl rfl i_geq) ?_
          exact gK rfl rfl rfl rfl rfl k
        · exact gN 6 rfl rfl rfl rfl rfl rfl
      refine nS ?_
      refine rc_br hres rfl ?_ ?_ <;> clear hres <;> intro b7 hres <;> have c5 := b7 <;> try simp only [qa, qaD] at c5
      · refine sR ?_
        refine mI rfl ?_
        refine nS ?_
        exact rR hres rfl rfl rfl
      · refine rc_skip ?_
        refine pn_seq ?_
        refine rc_seq ?_
        refine sR ?_
        refine mV rfl ?_
        refine rd_op (ov_bi rfl (sl_len r2 Try.underlying29 _)) ?_
        refine mI rfl ?_
        refine nS ?_
        refine rc_block ?_
        refine wC (control_checkNode_L1_ok r1 r2 b8 b7 ?_  rfl (by omega) hres) rfl
        · intro  hres
          refine px_blk ?_
          refine pn_seq ?_
          refine sR ?_
          refine fL rfl (api_ControlNode.g_Kind r1) rfl rfl ?_
          refine bN i_eql rfl rfl ?_
          refine mV rfl ?_
          refine rd_cutn 9 (d := 50) (v := vb ((decide (x1.Kind = 1)) && (decide (0 < (wr ((x1.Then.length : Int) + (x1.Else.length : Int))))))) ?_ ?_
          · intro S Q r
            cases d1 : (decide (x1.Kind = 1))
            · exact gN 8 rfl rfl rfl rfl rfl rfl
            · intro k
              have c7 := d1
              try simp only [qa, qaD] at c7
              obtain ⟨e5, d9, c4⟩ := api_ControlNode.g_Then r1
              refine rd_yes rfl rfl (ov_faddr rfl d9) ?_
              refine rd_yes rfl rfl (ov_load rfl (TR.cnt (tSl api_ControlNode.t) c4) (TR.agg (tSl api_ControlNode.t) c4)) ?_
              refine rd_yes rfl rfl (ov_bi rfl (sl_len c4 Try.underlying28 _)) ?_
              obtain ⟨e2, e0, b9⟩ := api_ControlNode.g_Else r1
              refine rd_yes rfl rfl (ov_faddr rfl e0) ?_
              refine rd_yes rfl rfl (ov_load rfl (TR.cnt (tSl api_ControlNode.t) b9) (TR.agg (tSl api_ControlNode.t) b9)) ?_
              refine rd_yes rfl rfl (ov_bi rfl (sl_len b9 Try.underlying28 _)) ?_
              refine rd_yes rfl rfl (ov_bin rfl rfl i_add) ?_
              refine rd_yes rfl rfl (ov_bin rfl rfl i_gtr) ?_
              exact gK rfl rfl rfl rfl rfl k
          refine nS ?_
          refine rc_br hres rfl ?_ ?_ <;> clear hres <;> intro c hres <;> try simp only [qa, qaD] at c
          · refine sR ?_
            refine mI rfl ?_
            refine nS ?_
            exact rR hres rfl rfl rfl
          · refine rc_skip ?_
            refine pn_blk ?_
            refine pn_seq ?_
            refine sR ?_
            refine mI rfl ?_
            refine nS ?_
            exact rR hres rfl rfl rfl
    · refine sR ?_
      refine bN i_eql rfl rfl ?_
      refine mV rfl ?_
      refine nS ?_
      refine rc_br hres rfl ?_ ?_ <;> clear hres <;> intro c hres <;> try simp only [qa, qaD] at c
      · refine sR ?_
        refine gL (api_ControlNode.g_Cond r1) rfl rfl rfl fun e1 d3 => ?_
        refine lD r0 rfl rfl rfl ?_
        obtain ⟨a4, a0, a2, a6, a1, a5, a3, a7, d6, b3, b5, b4, b2, b6, b0, b1, a9⟩ := r0
        subst d6
        refine rd_op (v := .agg [vs x0.Name, a4, a0, a2, a6, a1, a5, a3, a7, nilS]) (ov_build (cs := [vs x0.Name, a4, a0, a2, a6, a1, a5, a3, a7, nilS]) rfl rfl) ?_
        obtain ⟨e3, d5, hres⟩ := let_ex hres
        have d4 := f75_ok  d3 (show expr_Scope.t.R ({ Program := x0, Params := ([] : List api_Field) } : expr_Scope) (.agg [vs x0.Name, a4, a0, a2, a6, a1, a5, a3, a7, nilS]) from ⟨a4, a0, a2, a6, a1, a5, a3, a7, nilS, rfl, b3, b5, b4, b2, b6, b0, b1, a9, sl_nil⟩) 
        rw [d5] at d4
        refine cL d4 rfl rfl (clL_cons (TR.clo (tSl api_ExprNode.t) d3) (clL_cons (TR.clo expr_Scope.t (show expr_Scope.t.R ({ Program := x0, Params := ([] : List api_Field) } : expr_Scope) (.agg [vs x0.Name, a4, a0, a2, a6, a1, a5, a3, a7, nilS]) from ⟨a4, a0, a2, a6, a1, a5, a3, a7, nilS, rfl, b3, b5, b4, b2, b6, b0, b1, a9, sl_nil⟩)) clL_nil)) ?_
        refine mV rfl ?_
        refine xT rfl rfl ?_
        refine xT rfl rfl ?_
        refine mV rfl ?_
        refine mV rfl ?_
        refine nS ?_
        refine rc_seq ?_
        refine sR ?_
        refine mV rfl ?_
        refine bN i_neq rfl rfl ?_
        refine nS ?_
        refine rc_br hres rfl ?_ ?_ <;> clear hres <;> intro c hres <;> try simp only [qa, qaD] at c
        · refine sR ?_
          refine mV rfl ?_
          refine mV rfl ?_
          refine nS ?_
          exact rR hres rfl rfl rfl
        · refine rc_skip ?_
          refine pn_seq ?_
          refine sR ?_
          refine mV rfl ?_
          refine bN i_neq rfl rfl ?_
          refine nS ?_
          refine rc_br hres rfl ?_ ?_ <;> clear hres <;> intro c hres <;> try simp only [qa, qaD] at c
          · refine sR ?_
            refine mI rfl ?_
            refine nS ?_
            exact rR hres rfl rfl rfl
          · refine rc_skip ?_
            refine pn_blk ?_
            refine pn_seq ?_
            refine sR ?_
            refine mI rfl ?_
            refine nS ?_
            exact rR hres rfl rfl rfl
      · refine sR ?_
        refine mI rfl ?_
        refine nS ?_
        exact rR hres rfl rfl rfl
  · intro J
    refine rc_br hres rfl ?_ ?_ <;> clear hres <;> intro c hres <;> try simp only [qa, qaD] at c
    · refine rc_skip ?_
      refine pn_seq (wC (J _  hres) rfl)
    · refine rc_region ?_
      refine bN i_eql rfl rfl ?_
      refine mV rfl ?_
      refine rd_nil ?_
      refine pn_seq (wC (J _  hres) rfl)

def RF51 (res : Bool) (r : PV) : Prop := r = vb res
theorem f51_ok {x0 : api_ControlNode} {v0 : PV} (r0 : api_ControlNode.t.R x0 v0) : FnR Try.prog 51 [v0] (vb (control_applies x0)) := by
  refine fnS (R := RF51) text51 (fun _ h => h) rfl fun res hres => ?_
  unfold control_applies at hres
  refine sR ?_
  refine rd_op (ov_box rfl (TR.cnt api_ControlNode.t r0)) ?_
  refine mB rfl ?_
  refine nR ?_
  refine fL rfl (api_ControlNode.g_Kind r0) rfl rfl ?_
  refine bN i_eql rfl rfl ?_
  refine mV rfl ?_
  refine rd_cutn 4 (d := 10) (v := vb ((decide (x0.Kind = 1)) || (decide (x0.Kind = 3)))) ?_ ?_
  · intro S Q r
    cases a1 : (decide (x0.Kind = 1))
    · intro k
      have a0 := a1
      try simp only [qa, qaD] at a0
      refine rd_yes rfl rfl (ov_faddr rfl (api_ControlNode.g_Kind r0)) ?_
      refine rd_yes rfl rfl (ov_load rfl rfl rfl) ?_
      refine rd_yes rfl rfl (ov_bin rfl rfl i_eql) ?_
      exact gK rfl rfl rfl rfl rfl k
    · exact gN 3 rfl rfl rfl rfl rfl rfl
  refine mV rfl ?_
  refine nS ?_
  exact rR hres rfl rfl rfl

def RF49 (i2_ w2_ i3_ w3_ i4_ w4_ : Nat) (R_ : List Ent) (res : Bool × (List Int) × Int × Int) (r : PV) (h : Heap) : Prop := ∃ aF0_0 : PV, ∃ esF0_0 : List PV, Mem h (⟨.op i2_ w2_ 0, 29, 1, [aF0_0]⟩ :: ⟨aF0_0, 3, 1, esF0_0⟩ :: ⟨.op i3_ w3_ 0, 35, 1, [vi res.2.2.1]⟩ :: ⟨.op i4_ w4_ 0, 3, 1, [vi res.2.2.2]⟩ :: R_) ∧ (All2 tI.R res.2.1 esF0_0) ∧ (isL aF0_0 = true) ∧ (res.2.1.length ≤ 4611686018427387904) ∧ (Wri aF0_0 esF0_0) ∧ r = vb res.1
theorem f49_ok {x0 : api_ControlNode} {c0 : api_Program} {c1 : List Int} {c2 c3 : Int} {v0 w0 a1 : PV} {a0 : List PV} {R_ : List Ent} {h_ : Heap} {b1 b5 b3 b4 b0 b2 : Nat} (r0 : api_ControlNode.t.R x0 v0) (e3 : api_Program.t.R c0 w0) (a3 : All2 tI.R c1 a0) (a2 : isL a1 = true) (a9 : c1.length ≤ 4611686018427387904) (a8 : Wri a1 a0) (M_ : Mem h_ (⟨.op b1 b5 0, 29, 1, [a1]⟩ :: ⟨a1, 3, 1, a0⟩ :: ⟨.op b3 b4 0, 35, 1, [vi c2]⟩ :: ⟨.op b0 b2 0, 3, 1, [vi c3]⟩ :: R_)) (hb : c1.length ≤ 1000000) : ∃ r e6, FnX Try.prog 49 [v0, .fp w0, .op b1 b5 0, .op b3 b4 0, .op b0 b2 0] h_ r e6 ∧ RF49 b1 b5 b3 b4 b0 b2 R_ (control_Check_1 x0 c0 c1 c2 c3) r e6 := by
  refine fnXX (R := RF49 b1 b5 b3 b4 b0 b2 R_) text49 rfl fun res hres => ?_
  unfold control_Check_1 at hres
  refine sR ?_
  refine rd_op (ov_box rfl (TR.cnt api_ControlNode.t r0)) ?_
  refine mB rfl ?_
  refine nS ?_
  refine rc_seq ?_
  refine sR ?_
  refine lD e3 rfl rfl rfl ?_
  refine lD r0 rfl rfl rfl ?_
  refine rd_op (ov_load0 (k := 0) M_ rfl rfl (mem_one (k := 1) M_ rfl a2).2) ?_
  obtain ⟨e7, e4, e5⟩ := own_sl (P := Try.prog) (k := 1) (t := tI) M_ rfl a2 a3 (Nat.le_trans a9 (by decide))
  obtain ⟨a7, c6, hres⟩ := let_ex hres
  have d1 := f50_ok  e3 r0 e5 
  rw [c6] at d1
  refine rd_call (cv_lend rfl rfl (dl_cons (deep_closed (TR.clo api_Program.t e3)) (dl_cons (deep_closed (TR.clo api_ControlNode.t r0)) (dl_cons e4 dl_nil))) d1 rfl) ?_
  refine rd_storeO (k := 2) (v := vi a7) M_ rfl rfl rfl rfl (fun b9 a5 => ?_)
  replace a5 : Mem b9 (⟨.op b1 b5 0, 29, 1, [a1]⟩ :: ⟨a1, 3, 1, a0⟩ :: ⟨.op b3 b4 0, 35, 1, [vi a7]⟩ :: ⟨.op b0 b2 0, 3, 1, [vi c3]⟩ :: R_) := a5
  refine nR ?_
  refine rd_op (ov_load0 (k := 2) a5 rfl rfl rfl) ?_
  refine bN i_neq rfl rfl ?_
  refine nS ?_
  refine rc_br hres rfl ?_ ?_ <;> clear hres <;> intro c hres <;> try simp only [qa, qaD] at c
  · refine sR ?_
    refine mB rfl ?_
    refine nS ?_
    have d6 : Mem b9 (⟨.op b1 b5 0, 29, 1, [a1]⟩ :: ⟨a1, 3, 1, a0⟩ :: ⟨.op b3 b4 0, 35, 1, [vi a7]⟩ :: ⟨.op b0 b2 0, 3, 1, [vi c3]⟩ :: R_) := (Mem.front (k := 3) (Mem.front (k := 3) (Mem.front (k := 3) (Mem.front (k := 3) a5 rfl) rfl) rfl) rfl)
    subst hres
    exact rc_retX (.tmp rfl .nil) ⟨a1, a0, Mem.sub d6 (.cons_cons _ (.cons_cons _ (.cons_cons _ (.cons_cons _ (List.Sublist.refl R_))))), a3, a2, a9, a8, rfl⟩
  · refine rc_skip ?_
    refine pn_seq ?_
    refine rc_seq ?_
    refine sR ?_
    refine lD r0 rfl rfl rfl ?_
    obtain ⟨e9, e0, hres⟩ := let_ex hres
    have d0 := f51_ok  r0 
    rw [e0] at d0
    refine cL d0 rfl rfl (clL_cons (TR.clo api_ControlNode.t r0) clL_nil) ?_
    refine nS ?_
    refine rc_br hres rfl ?_ ?_ <;> clear hres <;> intro c hres <;> try simp only [qa, qaD] at c
    · refine rc_region ?_
      refine rd_op (ov_load0 (k := 0) a5 rfl rfl (mem_one (k := 1) a5 rfl a2).2) ?_
      refine fL rfl (api_ControlNode.g_Table r0) rfl rfl ?_
      refine rd_op (v := .fs true [vi x0.Table]) (ov_bslice rfl (all_cons rfl all_nil)) ?_
      have e1 : (tSl tI).R ([x0.Table] : List Int) (.fs true [vi x0.Table]) := sl_fs ⟨rfl, trivial⟩ (by simp)
      obtain ⟨a4, c7, b7⟩ := src_of (t := tI) (h := b9) e1
      have c9 : fits (a0.length + a4.length) 8 = true := by rw [All2.length_eq a3, All2.length_eq b7]; (try simp only [List.length_cons, List.length_nil]); exact fits_of (by first | omega | (simp only [List.length_append, List.length_cons, List.length_nil] at *; omega)) (by first | omega | (simp only [List.length_append, List.length_cons, List.length_nil] at *; omega))
      refine rd_appW (k := 1) (es := a0) (news := a4) a5 rfl rfl rfl a2 a8 c7 c9 (fun a6 e8 c5 d4 d5 => ?_)
      have d9 : All2 tI.R (c1 ++ ([x0.Table] : List Int)) (a0 ++ a4) := All2.app a3 b7
      have d7 : (c1 ++ ([x0.Table] : List Int)).length ≤ 4611686018427387904 := by rw [← All2.length_eq d9, List.length_append]; exact fits_len c9
      refine rd_storeO (k := 0) (v := a6) d5 rfl rfl rfl (mem_cnt1 (k := 1) d5 rfl c5) (fun e2 b6 => ?_)
      replace b6 : Mem e2 (⟨.op b1 b5 0, 29, 1, [a6]⟩ :: ⟨a6, 3, 1, (a0 ++ a4)⟩ :: ⟨.op b3 b4 0, 35, 1, [vi a7]⟩ :: ⟨.op b0 b2 0, 3, 1, [vi c3]⟩ :: R_) := b6
      refine nR ?_
      refine rd_op (ov_load0 (k := 3) b6 rfl rfl rfl) ?_
      refine bN i_add rfl rfl ?_
      refine rd_storeO (k := 3) (v := vi (wr (c3 + 1))) b6 rfl rfl rfl rfl (fun d3 c4 => ?_)
      replace c4 : Mem d3 (⟨.op b1 b5 0, 29, 1, [a6]⟩ :: ⟨a6, 3, 1, (a0 ++ a4)⟩ :: ⟨.op b3 b4 0, 35, 1, [vi a7]⟩ :: ⟨.op b0 b2 0, 3, 1, [vi (wr (c3 + 1))]⟩ :: R_) := c4
      refine nR ?_
      refine mB rfl ?_
      refine nS ?_
      have d2 : Mem d3 (⟨.op b1 b5 0, 29, 1, [a6]⟩ :: ⟨a6, 3, 1, (a0 ++ a4)⟩ :: ⟨.op b3 b4 0, 35, 1, [vi a7]⟩ :: ⟨.op b0 b2 0, 3, 1, [vi (wr (c3 + 1))]⟩ :: R_) := (Mem.front (k := 3) (Mem.front (k := 3) (Mem.front (k := 3) (Mem.front (k := 3) c4 rfl) rfl) rfl) rfl)
      subst hres
      exact rc_retX (.tmp rfl .nil) ⟨a6, (a0 ++ a4), Mem.sub d2 (.cons_cons _ (.cons_cons _ (.cons_cons _ (.cons_cons _ (List.Sublist.refl R_))))), d9, c5, d7, d4, rfl⟩
    · refine rc_skip ?_
      refine pn_seq ?_
      refine sR ?_
      refine rd_op (ov_load0 (k := 3) a5 rfl rfl rfl) ?_
      refine bN i_add rfl rfl ?_
      refine rd_storeO (k := 3) (v := vi (wr (c3 + 1))) a5 rfl rfl rfl rfl (fun c8 b8 => ?_)
      replace b8 : Mem c8 (⟨.op b1 b5 0, 29, 1, [a1]⟩ :: ⟨a1, 3, 1, a0⟩ :: ⟨.op b3 b4 0, 35, 1, [vi a7]⟩ :: ⟨.op b0 b2 0, 3, 1, [vi (wr (c3 + 1))]⟩ :: R_) := b8
      refine nR ?_
      refine mB rfl ?_
      refine nS ?_
      have d8 : Mem c8 (⟨.op b1 b5 0, 29, 1, [a1]⟩ :: ⟨a1, 3, 1, a0⟩ :: ⟨.op b3 b4 0, 35, 1, [vi a7]⟩ :: ⟨.op b0 b2 0, 3, 1, [vi (wr (c3 + 1))]⟩ :: R_) := (Mem.front (k := 3) (Mem.front (k := 3) (Mem.front (k := 3) (Mem.front (k := 3) b8 rfl) rfl) rfl) rfl)
      subst hres
      exact rc_retX (.tmp rfl .nil) ⟨a1, a0, Mem.sub d8 (.cons_cons _ (.cons_cons _ (.cons_cons _ (.cons_cons _ (List.Sublist.refl R_))))), a3, a2, a9, a8, rfl⟩
def ME49 (i2_ w2_ i3_ w3_ i4_ w4_ k_ : Nat) (s_ : (List Int) × Int × Int) (L_ : List Ent) : Prop := (∃ aV0_0 : PV, ∃ esV0_0 : List PV, L_ = (⟨.op i2_ w2_ 0, 29, 1, [aV0_0]⟩ :: ⟨aV0_0, 3, 1, esV0_0⟩ :: ⟨.op i3_ w3_ 0, 35, 1, [vi s_.2.1]⟩ :: ⟨.op i4_ w4_ 0, 3, 1, [vi s_.2.2]⟩ :: []) ∧ (All2 tI.R s_.1 esV0_0) ∧ (isL aV0_0 = true) ∧ (s_.1.length ≤ 4611686018427387904) ∧ (Wri aV0_0 esV0_0)) ∧ (s_.1.length + k_ ≤ 1000000)
theorem mono49 (a4 a5 a1 a2 a3 a0 : Nat) : ∀ k_ s_ L_, ME49 a4 a5 a1 a2 a3 a0 (k_ + 1) s_ L_ → ME49 a4 a5 a1 a2 a3 a0 k_ s_ L_ := fun k_ s_ L_ h_ => ⟨h_.1, by have hi_ := h_.2; omega⟩
theorem hv49 {c0 : api_Program} {w0 : PV} {b2 b6 b4 b5 b1 b3 : Nat} (b9 : api_Program.t.R c0 w0) : VIS Try.prog 49 [.fp w0, .op b2 b6 0, .op b4 b5 0, .op b1 b3 0] (fun a_ s_ => control_Check_1 a_ c0 s_.1 s_.2.1 s_.2.2) (ME49 b2 b6 b4 b5 b1 b3) (fun _ => True) := by
  intro k_ a_ va_ s_ L_ R_ h_ hg_ ra_ hE_ M_
  obtain ⟨⟨b7, b0, hL_, a6, a5, a9, a8⟩, hi_⟩ := hE_
  subst hL_
  obtain ⟨r_, b8, hX_, hZ_⟩ := f49_ok (x0 := a_) (c0 := c0) (c1 := s_.1) (c2 := s_.2.1) (c3 := s_.2.2) ra_ b9 a6 a5 a9 a8 M_ (by omega)
  obtain ⟨a7, a4, c4, a0, a3, a2, a1, hr_⟩ := hZ_
  subst hr_
  exact ⟨b8, _, hX_, ⟨⟨a7, a4, rfl, a0, a3, a2, a1⟩, by (have hk := check_step a_ c0 s_.1 s_.2.1 s_.2.2; show (control_Check_1 a_ c0 s_.1 s_.2.1 s_.2.2).2.1.length + k_ ≤ 1000000; omega)⟩, c4⟩

def RF16 (res : Int × Int) (r : PV) : Prop := r = .tup [vi res.1, vi res.2]
theorem f16_ok {x0 : api_Program} {v0 : PV} (r0 : api_Program.t.R x0 v0) (hs : csl x0.Control ≤ 1000) : FnR Try.prog 16 [v0] (.tup [vi ((control_Check x0).1), vi ((control_Check x0).2)]) := by
  refine fnS (R := RF16) text16 (fun _ h => h) rfl fun res hres => ?_
  unfold control_Check at hres
  refine sR ?_
  refine rd_op (ov_box rfl (TR.cnt api_Program.t r0)) ?_
  refine mI rfl ?_
  refine rd_allocO (x := vi 0) (Mem.nil ⟨0, []⟩) rfl rfl (fun a1 a2 f5 b1 => ?_)
  refine nS ?_
  refine rc_seq ?_
  refine sR ?_
  refine gL (api_Program.g_Control r0) rfl rfl rfl fun f3 c7 => ?_
  obtain ⟨f0, c9, hres⟩ := let_ex hres
  have c5 := f20_ok  c7 
  rw [c9] at c5
  refine cL c5 rfl rfl (clL_cons (TR.clo (tSl api_ControlNode.t) c7) clL_nil) ?_
  refine bN i_gtr rfl rfl ?_
  refine nS ?_
  refine rc_br hres rfl ?_ ?_ <;> clear hres <;> intro c hres <;> try simp only [qa, qaD] at c
  · refine sR ?_
    refine mI rfl ?_
    refine rd_storeO (k := 0) (v := vi 12) b1 rfl rfl rfl rfl (fun d9 b5 => ?_)
    replace b5 : Mem d9 [⟨.op a1 a2 0, 35, 1, [vi 12]⟩] := b5
    refine nS ?_
    subst hres
    exact rc_retV (.tmp rfl (.cell rfl (load_whole (k := 0) b5 rfl rfl) .nil)) (deep_closed (show closed (.tup _) = true from (clL_cons rfl (clL_cons rfl clL_nil)))) rfl
  · refine rc_skip ?_
    refine pn_seq ?_
    refine rc_seq ?_
    refine sR ?_
    refine gL (api_Program.g_Control r0) rfl rfl rfl fun e9 c4 => ?_
    obtain ⟨f2, d1, hres⟩ := let_ex hres
    have d4 := f22_ok  c4 
    rw [d1] at d4
    refine cL d4 rfl rfl (clL_cons (TR.clo (tSl api_ControlNode.t) c4) clL_nil) ?_
    refine bN i_gtr rfl rfl ?_
    refine nS ?_
    refine rc_br hres rfl ?_ ?_ <;> clear hres <;> intro c hres <;> try simp only [qa, qaD] at c
    · refine sR ?_
      refine mI rfl ?_
      refine rd_storeO (k := 0) (v := vi 14) b1 rfl rfl rfl rfl (fun e1 b0 => ?_)
      replace b0 : Mem e1 [⟨.op a1 a2 0, 35, 1, [vi 14]⟩] := b0
      refine nS ?_
      subst hres
      exact rc_retV (.tmp rfl (.cell rfl (load_whole (k := 0) b0 rfl rfl) .nil)) (deep_closed (show closed (.tup _) = true from (clL_cons rfl (clL_cons rfl clL_nil)))) rfl
    · refine rc_skip ?_
      refine pn_seq ?_
      refine sR ?_
      refine rd_allocO (x := vi 0) b1 rfl rfl (fun a5 a4 f1 e5 => ?_)
      refine rd_storeO (k := 0) (v := vi 0) e5 rfl rfl rfl rfl (fun e7 b4 => ?_)
      replace b4 : Mem e7 [⟨.op a5 a4 0, 3, 1, [vi 0]⟩, ⟨.op a1 a2 0, 35, 1, [vi 0]⟩] := b4
      refine nR ?_
      refine rd_allocO (x := nilS) b4 rfl rfl (fun a8 a6 d0 e0 => ?_)
      refine nS ?_
      refine rc_seq ?_
      refine rc_regionS ?_
      refine rs_step ?_
      obtain ⟨e2, d7, c8⟩ := api_Program.g_Control r0
      refine fA rfl d7 ?_
      refine rs_back ?_
      refine rs_step ?_
      refine lD c8 rfl rfl rfl ?_
      refine rs_back ?_
      refine rs_step ?_
      refine rd_op (v := .fn (.func 49) [] [.fp v0, .op a8 a6 0, .op a1 a2 0, .op a5 a4 0]) (ov_mkFunc rfl rfl) ?_
      refine rs_back ?_
      have d6 := mem_acc (sz := 1) (es := []) e0 3 (.inl ⟨none, rfl, rfl⟩) (by simp)
      have e4 : Mem d0 [⟨.op a8 a6 0, 29, 1, [nilS]⟩, ⟨nilS, 3, 1, ([] : List PV)⟩, ⟨.op a1 a2 0, 35, 1, [vi 0]⟩, ⟨.op a5 a4 0, 3, 1, [vi 0]⟩] := (Mem.front (k := 3) (Mem.front (k := 2) (Mem.front (k := 3) (Mem.front (k := 2) d6 rfl) rfl) rfl) rfl)
      obtain ⟨a9, d5, hres⟩ := let_ex hres
      obtain ⟨e3, f4, d3, d2, a7⟩ : ∃ h2 L2, FnX Try.prog 48 [e2, .fn (.func 49) [] [.fp v0, .op a8 a6 0, .op a1 a2 0, .op a5 a4 0]] d0 (vb a9.1) h2 ∧ ME49 a8 a6 a1 a2 a5 a4 0 a9.2 L2 ∧ Mem h2 (L2 ++ []) := by
        rw [← d5]
        exact f48_pre (mono49 a8 a6 a1 a2 a5 a4) (hv49 (c0 := x0) r0 ) _ _ (Nat.lt_succ_self _) (by exact fun _ _ => trivial) 0 _ (([] : List Int), 0, 0) [⟨.op a8 a6 0, 29, 1, [nilS]⟩, ⟨nilS, 3, 1, ([] : List PV)⟩, ⟨.op a1 a2 0, 35, 1, [vi 0]⟩, ⟨.op a5 a4 0, 3, 1, [vi 0]⟩] [] _ c8 (show ME49 a8 a6 a1 a2 a5 a4 (csl x0.Control + 0) (([] : List Int), 0, 0) [⟨.op a8 a6 0, 29, 1, [nilS]⟩, ⟨nilS, 3, 1, ([] : List PV)⟩, ⟨.op a1 a2 0, 35, 1, [vi 0]⟩, ⟨.op a5 a4 0, 3, 1, [vi 0]⟩] from ⟨⟨nilS, ([] : List PV), rfl, (show All2 tI.R ([] : List Int) [] from trivial), rfl, (by first | decide | simp), (.inl rfl)⟩, by (simp; omega)⟩) e4
      obtain ⟨⟨a0, a3, c6, b8, b9, b6, b7⟩, e8⟩ := d2
      subst c6
      replace a7 : Mem e3 [⟨.op a8 a6 0, 29, 1, [a0]⟩, ⟨a0, 3, 1, a3⟩, ⟨.op a1 a2 0, 35, 1, [vi a9.2.2.1]⟩, ⟨.op a5 a4 0, 3, 1, [vi a9.2.2.2]⟩] := a7
      refine rs_callX rfl rfl d3 ?_
      refine rs_nil ?_
      refine pn_seq ?_
      refine rc_seq ?_
      refine sR ?_
      refine rd_op (ov_load0 (k := 2) a7 rfl rfl rfl) ?_
      refine bN i_neq rfl rfl ?_
      refine nS ?_
      refine rc_br hres rfl ?_ ?_ <;> clear hres <;> intro c hres <;> try simp only [qa, qaD] at c
      · refine sR ?_
        refine rd_op (ov_load0 (k := 3) a7 rfl rfl rfl) ?_
        refine rd_op (ov_load0 (k := 2) a7 rfl rfl rfl) ?_
        refine mV rfl ?_
        refine rd_storeO (k := 2) (v := vi a9.2.2.1) a7 rfl rfl rfl rfl (fun d8 b2 => ?_)
        replace b2 : Mem d8 [⟨.op a8 a6 0, 29, 1, [a0]⟩, ⟨a0, 3, 1, a3⟩, ⟨.op a1 a2 0, 35, 1, [vi a9.2.2.1]⟩, ⟨.op a5 a4 0, 3, 1, [vi a9.2.2.2]⟩] := b2
        refine nS ?_
        subst hres
        exact rc_retV (.tmp rfl (.cell rfl (load_whole (k := 2) b2 rfl rfl) .nil)) (deep_closed (show closed (.tup _) = true from (clL_cons rfl (clL_cons rfl clL_nil)))) rfl
      · refine rc_skip ?_
        refine pn_seq ?_
        refine sR ?_
        refine mI rfl ?_
        refine rd_storeO (k := 2) (v := vi 0) a7 rfl rfl rfl rfl (fun e6 b3 => ?_)
        replace b3 : Mem e6 [⟨.op a8 a6 0, 29, 1, [a0]⟩, ⟨a0, 3, 1, a3⟩, ⟨.op a1 a2 0, 35, 1, [vi 0]⟩, ⟨.op a5 a4 0, 3, 1, [vi a9.2.2.2]⟩] := b3
        refine nS ?_
        subst hres
        exact rc_retV (.tmp rfl (.cell rfl (load_whole (k := 2) b3 rfl rfl) .nil)) (deep_closed (show closed (.tup _) = true from (clL_cons rfl (clL_cons rfl clL_nil)))) rfl

def RF66 (res : (List api_Guard)) (r : PV) : Prop := (tSl api_Guard.t).R res r
theorem f66_ok {x0 : Bool} {c0 : List api_Guard} {c1 : Int} {w0 : PV} (d0 : (tSl api_Guard.t).R c0 w0) (hb : c0.length ≤ 1000) : ∃ r, FnR Try.prog 66 [vb x0, .fp w0, .fp (vi c1)] r ∧ (tSl api_Guard.t).R (units_Build_1_1 x0 c0 c1) r := by
  refine fnT (R := RF66) text66 rfl fun res hres => ?_
  unfold units_Build_1_1 at hres
  refine sR ?_
  refine rd_op (v := nilS) (ov_move rfl) ?_
  refine nS ?_
  refine rc_seq ?_
  refine rc_regionU ?_
  refine rx_step ?_
  refine lD d0 rfl rfl rfl ?_
  refine rx_back ?_
  have b8 : Mem ⟨0, []⟩ [] := (Mem.nil ⟨0, []⟩)
  obtain ⟨b1, a6, hres⟩ := let_ex hres
  obtain ⟨c9, b9, b0, a8⟩ := f64x_ok (x0 := c0) d0 b8 (by first | assumption | omega)
  rw [a6] at a8
  obtain ⟨b5, a0, b7, a1, a4, b6, a5, a3⟩ := a8
  replace a3 := a3.symm; subst a3
  refine rx_callXc rfl rfl b0 ?_
  have d2 := cg_use a6
  refine rx_step ?_
  refine lR rfl rfl rfl ?_
  refine rx_back ?_
  refine rx_step ?_
  refine mV rfl ?_
  refine rx_back ?_
  refine rx_step ?_
  refine rd_op (v := .agg [vi c1, vb x0]) (ov_build (cs := [vi c1, vb x0]) rfl rfl) ?_
  refine rx_back ?_
  refine rx_step ?_
  refine rd_op (v := .fs true [.agg [vi c1, vb x0]]) (ov_bslice rfl (all_cons rfl all_nil)) ?_
  have c6 : (tSl api_Guard.t).R ([({ Unit := c1, Want := x0 } : api_Guard)] : List api_Guard) (.fs true [.agg [vi c1, vb x0]]) := sl_fs ⟨rfl, trivial⟩ (by simp)
  refine rx_back ?_
  refine rx_step ?_
  obtain ⟨a2, b2, a7⟩ := src_of (t := api_Guard.t) (h := b9) c6
  have b3 : fits (a0.length + a2.length) 16 = true := by rw [All2.length_eq a1, All2.length_eq a7]; (try simp only [List.length_cons, List.length_nil]); exact fits_of (by first | omega | (simp only [List.length_append, List.length_cons, List.length_nil] at *; omega)) (by first | omega | (simp only [List.length_append, List.length_cons, List.length_nil] at *; omega))
  refine rd_appW (k := 0) (es := a0) (news := a2) b7 rfl rfl rfl a4 a5 b2 b3 (fun d5 d4 c8 d1 c4 => ?_)
  have b4 : All2 api_Guard.t.R (b1 ++ ([({ Unit := c1, Want := x0 } : api_Guard)] : List api_Guard)) (a0 ++ a2) := All2.app a1 a7
  have a9 : (b1 ++ ([({ Unit := c1, Want := x0 } : api_Guard)] : List api_Guard)).length ≤ 4611686018427387904 := by rw [← All2.length_eq b4, List.length_append]; exact fits_len b3
  refine rx_back ?_
  refine rx_step ?_
  refine mV rfl ?_
  refine rx_back ?_
  refine rx_nil ?_
  refine pn_seq ?_
  obtain ⟨d3, c5, c7⟩ := own_sl (P := Try.prog) (k := 0) (t := api_Guard.t) c4 rfl c8 b4 (Nat.le_trans a9 (by decide))
  subst hres
  exact rc_retV (.tmp rfl .nil) c5 c7

def RF63 (i2_ w2_ i3_ w3_ : Nat) (R_ : List Ent) (res : (List api_Unit)) (r : PV) (h : Heap) : Prop := ∃ aF0_0 : PV, ∃ esF0_0 : List PV, Mem h (⟨.op i2_ w2_ 0, 48, 1, [aF0_0]⟩ :: ⟨aF0_0, 58, 3, esF0_0⟩ :: ⟨.op i3_ w3_ 0, 102, 1, [.fn (.func 63) [] [.op i2_ w2_ 0, .op i3_ w3_ 0]]⟩ :: R_) ∧ (All2 api_Unit.t.R res esF0_0) ∧ (isL aF0_0 = true) ∧ (res.length ≤ 4611686018427387904) ∧ (Wri aF0_0 esF0_0) ∧ r = .tup []
theorem units_Build_1_L1_ok {S : List Fr} {res : (List api_Unit)} {x0 : List api_ControlNode} {x1 : List api_Guard} {c0 : List api_Unit} {rec_ : (List api_ControlNode) → (List api_Guard) → (List api_Unit) → (List api_Unit)} {mu_ : Nat} {v0 v1 : PV} {R_ : List Ent} {c4 : PV} {b9 : List PV} {a8 a7 b0 a9 : Nat} (r0 : (tSl api_ControlNode.t).R x0 v0) (r1 : (tSl api_Guard.t).R x1 v1) (i6 : isL c4 = true) (i8 : c0.length ≤ 4611686018427387904) (i2 : Wri c4 b9) (gl : GU x0) (hc : c0.length + csl x0 ≤ 1000) (hg : x1.length + csl x0 ≤ 1000) (ihR : ∀ {z0 : List api_ControlNode} {z1 : List api_Guard} {zc0 : List api_Unit} {r6 r7 c4 : PV} {b9 : List PV} {R_ : List Ent} {h_ : Heap} {a8 a7 b0 a9 : Nat} (u1 : (tSl api_ControlNode.t).R z0 r6) (u0 : (tSl api_Guard.t).R z1 r7) (q0 : All2 api_Unit.t.R zc0 b9) (i6 : isL c4 = true) (i8 : zc0.length ≤ 4611686018427387904) (i2 : Wri c4 b9) (M_ : Mem h_ (⟨.op a8 a7 0, 48, 1, [c4]⟩ :: ⟨c4, 58, 3, b9⟩ :: ⟨.op b0 a9 0, 102, 1, [.fn (.func 63) [] [.op a8 a7 0, .op b0 a9 0]]⟩ :: R_)) (gl : GU z0) (hc : zc0.length + csl z0 ≤ 1000) (hg : z1.length + csl z0 ≤ 1000), csl z0 < mu_ → ∃ r r9, FnX Try.prog 63 [r6, r7, .op a8 a7 0, .op b0 a9 0] h_ r r9 ∧ RF63 a8 a7 b0 a9 R_ (rec_ z0 z1 zc0) r r9) (hmu : mu_ = csl x0) (hrec : ∀ z0 z1 z2, (rec_ z0 z1 z2).length ≤ z2.length + csl z0) {K0 : (List api_Unit) → (List api_Unit)}
    (s3 : ∀ {a1 : List api_Unit} {a2 : List PV} {a3 : PV} (b5 : All2 api_Unit.t.R a1 a2) (b2 : isL a3 = true) (b6 : Wri a3 a2) (c7 : a1.length ≤ 4611686018427387904) {h : Heap} (M0 : Mem h (⟨.op a8 a7 0, 48, 1, [a3]⟩ :: ⟨a3, 58, 3, a2⟩ :: ⟨.op b0 a9 0, 102, 1, [.fn (.func 63) [] [.op a8 a7 0, .op b0 a9 0]]⟩ :: R_)), K0 a1 = res → PX Try.prog 0 S (retPost Try.prog [] (RF63 a8 a7 b0 a9 R_ res)) [] h) :
    ∀ {m : Nat} {a0 : Int} {a1 : List api_Unit} {a2 : List PV} {a3 : PV} (b5 : All2 api_Unit.t.R a1 a2) (b2 : isL a3 = true) (b6 : Wri a3 a2) (c7 : a1.length ≤ 4611686018427387904) (r8 : m = Int.toNat ((x0.length : Int) - a0)) (k4 : 0 ≤ a0) (h0 : a1.length + csl (x0.drop a0.toNat) ≤ c0.length + csl x0) {h : Heap} (M0 : Mem h (⟨.op a8 a7 0, 48, 1, [a3]⟩ :: ⟨a3, 58, 3, a2⟩ :: ⟨.op b0 a9 0, 102, 1, [.fn (.func 63) [] [.op a8 a7 0, .op b0 a9 0]]⟩ :: R_)), units_Build_1_L1 x0 x1 rec_ K0 m a0 a1 = res → RC Try.prog (.loop ac63_L1) S (retPost Try.prog [] (RF63 a8 a7 b0 a9 R_ res)) [(13, vi a0), (12, vi (x0.length : Int)), (11, v0), (5, .fp v1), (3, .op b0 a9 0), (2, .op a8 a7 0)] h := by
  have hc' := hc
  try simp only [qa, qaD] at hc'
  intro m
  induction m with
  | zero =>
    intro a0 a1 a2 a3 b5 b2 b6 c7 r8 k4 h0 h M0 hres
    rw [units_Build_1_L1] at hres
    refine rc_loop ?_
    refine sR ?_
    refine bN i_lss rfl rfl ?_
    refine nS ?_
    refine rc_seq ?_
    refine rc_cond rfl ?_ ?_ <;> intro c <;> try simp only [qa, qaD] at c
    · omega
    refine rc_exit ?_
    refine px_seq ?_
    refine px_again ?_
    exact wP (s3 b5 b2 b6 c7 (Mem.sub M0 (.cons_cons _ (.cons_cons _ (.cons_cons _ (List.Sublist.refl R_))))) hres) rfl
  | succ m ih =>
    intro a0 a1 a2 a3 b5 b2 b6 c7 r8 k4 h0 h M0 hres
    rw [units_Build_1_L1] at hres
    refine rc_loop ?_
    refine sR ?_
    refine bN i_lss rfl rfl ?_
    refine nS ?_
    refine rc_seq ?_
    refine rc_cond rfl ?_ ?_ <;> intro c <;> try simp only [qa, qaD] at c
    rotate_left
    · omega
    refine rc_skip ?_
    refine pn_seq ?_
    refine rc_seq ?_
    refine rc_block ?_
    refine sR ?_
    obtain ⟨b1, p2, c8⟩ := sl_idx (i := a0) r0 (by omega) (by omega)
    refine rd_op (ov_iaddr rfl rfl p2) ?_
    refine lD c8 rfl rfl rfl ?_
    refine rd_allocO (x := .agg [vi 0, vi 0, nilS, nilS, nilS]) M0 rfl rfl (fun a6 a5 t0 q1 => ?_)
    refine rd_storeO (k := 0) (v := b1) q1 rfl rfl rfl (TR.cnt api_ControlNode.t c8) (fun p3 g4 => ?_)
    replace g4 : Mem p3 (⟨.op a6 a5 0, 40, 5, [b1]⟩ :: ⟨.op a8 a7 0, 48, 1, [a3]⟩ :: ⟨a3, 58, 3, a2⟩ :: ⟨.op b0 a9 0, 102, 1, [.fn (.func 63) [] [.op a8 a7 0, .op b0 a9 0]]⟩ :: R_) := g4
    refine nR ?_
    refine rd_op (ov_faddrO rfl) ?_
    refine rd_op (ov_loadf (k := 0) g4 rfl rfl (api_ControlNode.g_Table c8)) ?_
    refine lD r1 rfl rfl rfl ?_
    obtain ⟨d1, i1, hres⟩ := let_ex hres
    obtain ⟨a4, n9, g1⟩ := f64_ok  r1 (by first | omega | exact gu_cond gl (by omega) (by omega) | exact gu_then gl (by omega) (by omega) | exact gu_else gl (by omega) (by omega) | (have hk := csl_drop (l := x0) (i := a0) (by omega) (by omega); have b8 := csl_ix (l := x0) (i := a0) (by omega) (by omega); (try simp only [ub11_len, under_len, List.length_append, List.length_cons, List.length_nil] at *); omega))
    rw [i1] at g1
    have r5 := cg_use i1
    refine cL n9 rfl rfl (clL_cons (TR.clo (tSl api_Guard.t) r1) clL_nil) ?_
    refine rd_op (v := .agg [vi ((ix x0 a0).Table), nilS, a4]) (ov_build (cs := [vi ((ix x0 a0).Table), nilS, a4]) rfl (by simp only [buildV, cells_one (TR.cnt (tSl api_Guard.t) g1) (TR.agg (tSl api_Guard.t) g1)]; rfl)) ?_
    refine rd_allocO (x := .agg [vi 0, nilS, nilS]) g4 rfl rfl (fun b4 b3 s2 o4 => ?_)
    refine rd_storeO (k := 0) (v := .agg [vi ((ix x0 a0).Table), nilS, a4]) o4 rfl rfl rfl rfl (fun o8 d2 => ?_)
    replace d2 : Mem o8 (⟨.op b4 b3 0, 58, 3, [.agg [vi ((ix x0 a0).Table), nilS, a4]]⟩ :: ⟨.op a6 a5 0, 40, 5, [b1]⟩ :: ⟨.op a8 a7 0, 48, 1, [a3]⟩ :: ⟨a3, 58, 3, a2⟩ :: ⟨.op b0 a9 0, 102, 1, [.fn (.func 63) [] [.op a8 a7 0, .op b0 a9 0]]⟩ :: R_) := d2
    refine nS ?_
    refine rc_seq ?_
    refine sR ?_
    refine rd_op (ov_faddrO rfl) ?_
    refine rd_op (ov_loadf (k := 1) d2 rfl rfl (api_ControlNode.g_Kind c8)) ?_
    refine bN i_eql rfl rfl ?_
    refine nS ?_
    refine rc_br hres rfl ?_ ?_ <;> clear hres <;> intro c hres <;> try simp only [qa, qaD] at c
    · refine sR ?_
      refine rd_op (ov_faddrO rfl) ?_
      refine rd_storeF (k := 0) (v := vi (-1)) d2 rfl rfl rfl rfl rfl (by first | decide | (simp only [List.length_cons, List.length_nil]; omega) | simp) (fun m6 g6 => ?_)
      replace g6 : Mem m6 (⟨.op b4 b3 0, 58, 3, [.agg [vi (-1), nilS, a4]]⟩ :: ⟨.op a6 a5 0, 40, 5, [b1]⟩ :: ⟨.op a8 a7 0, 48, 1, [a3]⟩ :: ⟨a3, 58, 3, a2⟩ :: ⟨.op b0 a9 0, 102, 1, [.fn (.func 63) [] [.op a8 a7 0, .op b0 a9 0]]⟩ :: R_) := g6
      refine nS ?_
      refine rc_region ?_
      refine rd_op (ov_faddrO rfl) ?_
      obtain ⟨m7, o6, k0⟩ := api_ControlNode.g_Cond c8
      refine rd_op (ov_loadf (k := 1) g6 rfl rfl o6) ?_
      obtain ⟨g5, h8, hres⟩ := let_ex hres
      obtain ⟨b7, n3, g3⟩ := f65_ok  k0 (by first | omega | exact gu_cond gl (by omega) (by omega) | exact gu_then gl (by omega) (by omega) | exact gu_else gl (by omega) (by omega) | (have hk := csl_drop (l := x0) (i := a0) (by omega) (by omega); have b8 := csl_ix (l := x0) (i := a0) (by omega) (by omega); (try simp only [ub11_len, under_len, List.length_append, List.length_cons, List.length_nil] at *); omega))
      rw [h8] at g3
      have q5 := ce_use h8
      refine cL n3 rfl rfl (clL_cons (TR.clo (tSl api_ExprNode.t) k0) clL_nil) ?_
      refine rd_op (ov_faddrO rfl) ?_
      refine rd_storeF (k := 0) (v := b7) g6 rfl rfl rfl (cells_one (TR.cnt (tSl api_ExprNode.t) g3) (TR.agg (tSl api_ExprNode.t) g3)) rfl (by first | decide | (simp only [List.length_cons, List.length_nil]; omega) | simp) (fun n6 f0 => ?_)
      replace f0 : Mem n6 (⟨.op b4 b3 0, 58, 3, [.agg [vi (-1), b7, a4]]⟩ :: ⟨.op a6 a5 0, 40, 5, [b1]⟩ :: ⟨.op a8 a7 0, 48, 1, [a3]⟩ :: ⟨a3, 58, 3, a2⟩ :: ⟨.op b0 a9 0, 102, 1, [.fn (.func 63) [] [.op a8 a7 0, .op b0 a9 0]]⟩ :: R_) := f0
      refine nR ?_
      refine rd_op (ov_load0 (k := 2) f0 rfl rfl (mem_one (k := 3) f0 rfl b2).2) ?_
      refine rd_op (ov_bi rfl (own_len (k := 3) f0 rfl Try.underlying48 b2 b5 _)) ?_
      refine rd_allocO (x := vi 0) f0 rfl rfl (fun j9 l9 s9 m5 => ?_)
      refine rd_storeO (k := 0) (v := vi (a1.length : Int)) m5 rfl rfl rfl rfl (fun m3 d6 => ?_)
      replace d6 : Mem m3 (⟨.op j9 l9 0, 3, 1, [vi (a1.length : Int)]⟩ :: ⟨.op b4 b3 0, 58, 3, [.agg [vi (-1), b7, a4]]⟩ :: ⟨.op a6 a5 0, 40, 5, [b1]⟩ :: ⟨.op a8 a7 0, 48, 1, [a3]⟩ :: ⟨a3, 58, 3, a2⟩ :: ⟨.op b0 a9 0, 102, 1, [.fn (.func 63) [] [.op a8 a7 0, .op b0 a9 0]]⟩ :: R_) := d6
      refine nS ?_
      refine rc_seq ?_
      refine rc_regionS ?_
      refine rs_step ?_
      refine rd_op (ov_load0 (k := 3) d6 rfl rfl (mem_one (k := 4) d6 rfl b2).2) ?_
      refine rs_back ?_
      refine rs_step ?_
      refine rd_op (ov_load0 (k := 1) d6 rfl rfl rfl) ?_
      refine rs_back ?_
      refine rs_step ?_
      refine rd_op (v := .fs true [.agg [vi (-1), b7, a4]]) (ov_bslice rfl (all_cons rfl all_nil)) ?_
      have p0 : (tSl api_Unit.t).R ([({ Table := (-1), Cond := g5, Guards := d1 } : api_Unit)] : List api_Unit) (.fs true [.agg [vi (-1), b7, a4]]) := sl_fs ⟨⟨b7, a4, rfl, g3, g1⟩, trivial⟩ (by simp)
      refine rs_back ?_
      refine rs_step ?_
      obtain ⟨c6, j2, i0⟩ := src_of (t := api_Unit.t) (h := m3) p0
      have l0 : fits (a2.length + c6.length) 56 = true := by rw [All2.length_eq b5, All2.length_eq i0]; (try simp only [List.length_cons, List.length_nil]); exact fits_of (by first | omega | (have hk := csl_drop (l := x0) (i := a0) (by omega) (by omega); have b8 := csl_ix (l := x0) (i := a0) (by omega) (by omega); (try simp only [ub11_len, under_len, List.length_append, List.length_cons, List.length_nil] at *); omega)) (by first | omega | (have hk := csl_drop (l := x0) (i := a0) (by omega) (by omega); have b8 := csl_ix (l := x0) (i := a0) (by omega) (by omega); (try simp only [ub11_len, under_len, List.length_append, List.length_cons, List.length_nil] at *); omega))
      refine rd_appW (k := 4) (es := a2) (news := c6) d6 rfl rfl rfl b2 b6 j2 l0 (fun d0 t8 m2 k3 l6 => ?_)
      have k9 : All2 api_Unit.t.R (a1 ++ ([({ Table := (-1), Cond := g5, Guards := d1 } : api_Unit)] : List api_Unit)) (a2 ++ c6) := All2.app b5 i0
      have j1 : (a1 ++ ([({ Table := (-1), Cond := g5, Guards := d1 } : api_Unit)] : List api_Unit)).length ≤ 4611686018427387904 := by rw [← All2.length_eq k9, List.length_append]; exact fits_len l0
      refine rs_back ?_
      refine rs_step ?_
      refine rd_storeO (k := 3) (v := d0) l6 rfl rfl rfl (mem_cnt1 (k := 4) l6 rfl m2) (fun q2 i4 => ?_)
      replace i4 : Mem q2 (⟨.op j9 l9 0, 3, 1, [vi (a1.length : Int)]⟩ :: ⟨.op b4 b3 0, 58, 3, [.agg [vi (-1), b7, a4]]⟩ :: ⟨.op a6 a5 0, 40, 5, [b1]⟩ :: ⟨.op a8 a7 0, 48, 1, [d0]⟩ :: ⟨d0, 58, 3, (a2 ++ c6)⟩ :: ⟨.op b0 a9 0, 102, 1, [.fn (.func 63) [] [.op a8 a7 0, .op b0 a9 0]]⟩ :: R_) := i4
      refine rs_back ?_
      refine rs_freezeP (k := 0) (E' := [(35, d0), (34, .fs true [.agg [vi (-1), b7, a4]]), (33, .agg [vi (-1), b7, a4]), (32, a3), (9, .fp (vi (a1.length : Int))), (31, vi (a1.length : Int)), (30, a3), (29, .op b4 b3 (0 + 1)), (28, b7), (27, m7), (26, .op a6 a5 (0 + 2)), (25, .op b4 b3 (0 + 0)), (24, vb (decide (((ix x0 a0).Kind) = 2))), (23, vi ((ix x0 a0).Kind)), (22, .op a6 a5 (0 + 0)), (8, .op b4 b3 0), (21, .agg [vi ((ix x0 a0).Table), nilS, a4]), (20, a4), (19, v1), (18, vi ((ix x0 a0).Table)), (17, .op a6 a5 (0 + 1)), (7, .op a6 a5 0), (16, b1), (15, .fp b1), (14, vb (decide (a0 < (x0.length : Int)))), (13, vi a0), (12, vi (x0.length : Int)), (11, v0), (5, .fp v1), (3, .op b0 a9 0), (2, .op a8 a7 0)]) i4 rfl (frz_keep rfl (frz_keep rfl (frz_keep rfl (frz_keep rfl (frz_turn rfl (frz_keep rfl (frz_keep rfl (frz_keep rfl (frz_keep rfl (frz_keep rfl (frz_keep rfl (frz_keep rfl (frz_keep rfl (frz_keep rfl (frz_keep rfl (frz_keep rfl (frz_keep rfl (frz_keep rfl (frz_keep rfl (frz_keep rfl (frz_keep rfl (frz_keep rfl (frz_keep rfl (frz_keep rfl (frz_keep rfl (frz_keep rfl (frz_keep rfl (frz_keep rfl (frz_keep rfl (frz_keep rfl (frz_keep rfl frz_nil))))))))))))))))))))))))))))))) (fun l4 f9 => ?_)
      replace f9 : Mem l4 (⟨.op b4 b3 0, 58, 3, [.agg [vi (-1), b7, a4]]⟩ :: ⟨.op a6 a5 0, 40, 5, [b1]⟩ :: ⟨.op a8 a7 0, 48, 1, [d0]⟩ :: ⟨d0, 58, 3, (a2 ++ c6)⟩ :: ⟨.op b0 a9 0, 102, 1, [.fn (.func 63) [] [.op a8 a7 0, .op b0 a9 0]]⟩ :: R_) := f9
      refine rs_nil ?_
      refine pn_seq ?_
      refine sR ?_
      have m1 : (tFn Try.prog tB (tSl api_Guard.t)).R (fun a_ => units_Build_1_1 a_ x1 (a1.length : Int)) (.fn (.func 66) [] [.fp v1, .fp (vi (a1.length : Int))]) := tFn_ofC (clL_cons (clo_fp (TR.clo (tSl api_Guard.t) r1)) (clL_cons rfl clL_nil)) fun a va ra => by obtain rfl := ra; obtain ⟨r, h1, h2⟩ := f66_ok (c1 := (a1.length : Int)) r1 (by first | omega | exact gu_cond gl (by omega) (by omega) | exact gu_then gl (by omega) (by omega) | exact gu_else gl (by omega) (by omega) | (have hk := csl_drop (l := x0) (i := a0) (by omega) (by omega); have b8 := csl_ix (l := x0) (i := a0) (by omega) (by omega); (try simp only [ub11_len, under_len, List.length_append, List.length_cons, List.length_nil] at *); omega)); exact ⟨r, h1, h2⟩
      refine rd_op (v := .fn (.func 66) [] [.fp v1, .fp (vi (a1.length : Int))]) (ov_mkFunc rfl rfl) ?_
      refine mV rfl ?_
      refine nS ?_
      refine rc_seq ?_
      refine rc_regionT ?_
      refine rd_op (ov_load0 (k := 4) f9 rfl rfl rfl) ?_
      refine rd_op (ov_faddrO rfl) ?_
      obtain ⟨s4, o0, n4⟩ := api_ControlNode.g_Then c8
      refine rd_op (ov_loadf (k := 1) f9 rfl rfl o0) ?_
      refine mV rfl ?_
      refine rd_callF rfl m1 rfl (show tB.R true (vb true) from rfl) (fun s7 o1 => ?_)
      refine rd_nil (pn_lastS ?_)
      have p6 : Mem l4 (⟨.op a8 a7 0, 48, 1, [d0]⟩ :: ⟨d0, 58, 3, (a2 ++ c6)⟩ :: ⟨.op b0 a9 0, 102, 1, [.fn (.func 63) [] [.op a8 a7 0, .op b0 a9 0]]⟩ :: ⟨.op b4 b3 0, 58, 3, [.agg [vi (-1), b7, a4]]⟩ :: ⟨.op a6 a5 0, 40, 5, [b1]⟩ :: R_) := (Mem.front (k := 4) (Mem.front (k := 4) (Mem.front (k := 4) f9 rfl) rfl) rfl)
      obtain ⟨n0, h4, hres⟩ := let_ex hres
      obtain ⟨q9, m8, j5, h5⟩ := ihR (z0 := ((ix x0 a0).Then)) (z1 := ((fun a_ => units_Build_1_1 a_ x1 (a1.length : Int)) true)) (zc0 := (a1 ++ ([({ Table := (-1), Cond := g5, Guards := d1 } : api_Unit)] : List api_Unit))) n4 o1 k9 m2 j1 k3 p6 (by first | omega | exact gu_cond gl (by omega) (by omega) | exact gu_then gl (by omega) (by omega) | exact gu_else gl (by omega) (by omega) | (have hk := csl_drop (l := x0) (i := a0) (by omega) (by omega); have b8 := csl_ix (l := x0) (i := a0) (by omega) (by omega); (try simp only [ub11_len, under_len, List.length_append, List.length_cons, List.length_nil] at *); omega)) (by first | omega | exact gu_cond gl (by omega) (by omega) | exact gu_then gl (by omega) (by omega) | exact gu_else gl (by omega) (by omega) | (have hk := csl_drop (l := x0) (i := a0) (by omega) (by omega); have b8 := csl_ix (l := x0) (i := a0) (by omega) (by omega); (try simp only [ub11_len, under_len, List.length_append, List.length_cons, List.length_nil] at *); omega)) (by first | omega | exact gu_cond gl (by omega) (by omega) | exact gu_then gl (by omega) (by omega) | exact gu_else gl (by omega) (by omega) | (have hk := csl_drop (l := x0) (i := a0) (by omega) (by omega); have b8 := csl_ix (l := x0) (i := a0) (by omega) (by omega); (try simp only [ub11_len, under_len, List.length_append, List.length_cons, List.length_nil] at *); omega)) (by first | omega | (have hk := csl_drop (l := x0) (i := a0) (by omega) (by omega); have b8 := csl_ix (l := x0) (i := a0) (by omega) (by omega); (try simp only [ub11_len, under_len, List.length_append, List.length_cons, List.length_nil] at *); omega))
      rw [h4] at h5
      obtain ⟨d3, f1, i3, e6, d9, d7, e9, g2⟩ := h5
      replace g2 := g2.symm; subst g2
      refine rs_callXc rfl rfl j5 ?_
      have q6 := bl_use hrec h4
      refine rs_nil ?_
      refine pn_seq ?_
      refine rc_regionT ?_
      refine rd_op (ov_load0 (k := 2) i3 rfl rfl rfl) ?_
      refine rd_op (ov_faddrO rfl) ?_
      obtain ⟨t9, p5, p9⟩ := api_ControlNode.g_Else c8
      refine rd_op (ov_loadf (k := 4) i3 rfl rfl p5) ?_
      refine mV rfl ?_
      refine rd_callF rfl m1 rfl (show tB.R false (vb false) from rfl) (fun t2 n8 => ?_)
      refine rd_nil (pn_lastS ?_)
      have p4 : Mem m8 (⟨.op a8 a7 0, 48, 1, [d3]⟩ :: ⟨d3, 58, 3, f1⟩ :: ⟨.op b0 a9 0, 102, 1, [.fn (.func 63) [] [.op a8 a7 0, .op b0 a9 0]]⟩ :: ⟨.op b4 b3 0, 58, 3, [.agg [vi (-1), b7, a4]]⟩ :: ⟨.op a6 a5 0, 40, 5, [b1]⟩ :: R_) := (Mem.front (k := 2) (Mem.front (k := 2) (Mem.front (k := 2) i3 rfl) rfl) rfl)
      obtain ⟨s6, h9, hres⟩ := let_ex hres
      obtain ⟨r2, t7, l3, h6⟩ := ihR (z0 := ((ix x0 a0).Else)) (z1 := ((fun a_ => units_Build_1_1 a_ x1 (a1.length : Int)) false)) (zc0 := n0) p9 n8 e6 d9 d7 e9 p4 (by first | omega | exact gu_cond gl (by omega) (by omega) | exact gu_then gl (by omega) (by omega) | exact gu_else gl (by omega) (by omega) | (have hk := csl_drop (l := x0) (i := a0) (by omega) (by omega); have b8 := csl_ix (l := x0) (i := a0) (by omega) (by omega); (try simp only [ub11_len, under_len, List.length_append, List.length_cons, List.length_nil] at *); omega)) (by first | omega | exact gu_cond gl (by omega) (by omega) | exact gu_then gl (by omega) (by omega) | exact gu_else gl (by omega) (by omega) | (have hk := csl_drop (l := x0) (i := a0) (by omega) (by omega); have b8 := csl_ix (l := x0) (i := a0) (by omega) (by omega); (try simp only [ub11_len, under_len, List.length_append, List.length_cons, List.length_nil] at *); omega)) (by first | omega | exact gu_cond gl (by omega) (by omega) | exact gu_then gl (by omega) (by omega) | exact gu_else gl (by omega) (by omega) | (have hk := csl_drop (l := x0) (i := a0) (by omega) (by omega); have b8 := csl_ix (l := x0) (i := a0) (by omega) (by omega); (try simp only [ub11_len, under_len, List.length_append, List.length_cons, List.length_nil] at *); omega)) (by first | omega | (have hk := csl_drop (l := x0) (i := a0) (by omega) (by omega); have b8 := csl_ix (l := x0) (i := a0) (by omega) (by omega); (try simp only [ub11_len, under_len, List.length_append, List.length_cons, List.length_nil] at *); omega))
      rw [h9] at h6
      obtain ⟨l1, j0, n5, e1, f5, f4, f2, f8⟩ := h6
      replace f8 := f8.symm; subst f8
      refine rs_callXc rfl rfl l3 ?_
      have s0 := bl_use hrec h9
      refine rs_nil ?_
      refine pn_blk ?_
      refine pn_seq ?_
      refine rc_region ?_
      refine bN i_add rfl rfl ?_
      refine mV rfl ?_
      refine rd_nil ?_
      refine pn_again ?_
      have hbd := sl_bound r0
      have hinc : wr (a0 + 1) = a0 + 1 := wr_of (by omega) (by omega)
      erw [hinc]
      exact wC (ih  e1 f5 f2 f4 (by omega) (by omega) (by first | omega | (have hk := csl_drop (l := x0) (i := a0) (by omega) (by omega); have b8 := csl_ix (l := x0) (i := a0) (by omega) (by omega); (try simp only [ub11_len, under_len, List.length_append, List.length_cons, List.length_nil] at *); omega)) (Mem.sub n5 (.cons_cons _ (.cons_cons _ (.cons_cons _ (.cons _ (.cons _ (List.Sublist.refl R_))))))) hres) rfl
    · refine rc_skip ?_
      refine pn_seq ?_
      refine sR ?_
      refine rd_op (ov_load0 (k := 2) d2 rfl rfl (mem_one (k := 3) d2 rfl b2).2) ?_
      refine rd_op (ov_bi rfl (own_len (k := 3) d2 rfl Try.underlying48 b2 b5 _)) ?_
      refine rd_allocO (x := vi 0) d2 rfl rfl (fun l7 m4 t4 o9 => ?_)
      refine rd_storeO (k := 0) (v := vi (a1.length : Int)) o9 rfl rfl rfl rfl (fun j7 d8 => ?_)
      replace d8 : Mem j7 (⟨.op l7 m4 0, 3, 1, [vi (a1.length : Int)]⟩ :: ⟨.op b4 b3 0, 58, 3, [.agg [vi ((ix x0 a0).Table), nilS, a4]]⟩ :: ⟨.op a6 a5 0, 40, 5, [b1]⟩ :: ⟨.op a8 a7 0, 48, 1, [a3]⟩ :: ⟨a3, 58, 3, a2⟩ :: ⟨.op b0 a9 0, 102, 1, [.fn (.func 63) [] [.op a8 a7 0, .op b0 a9 0]]⟩ :: R_) := d8
      refine nS ?_
      refine rc_seq ?_
      refine rc_regionS ?_
      refine rs_step ?_
      refine rd_op (ov_load0 (k := 3) d8 rfl rfl (mem_one (k := 4) d8 rfl b2).2) ?_
      refine rs_back ?_
      refine rs_step ?_
      refine rd_op (ov_load0 (k := 1) d8 rfl rfl rfl) ?_
      refine rs_back ?_
      refine rs_step ?_
      refine rd_op (v := .fs true [.agg [vi ((ix x0 a0).Table), nilS, a4]]) (ov_bslice rfl (all_cons rfl all_nil)) ?_
      have p7 : (tSl api_Unit.t).R ([({ Table := (ix x0 a0).Table, Cond := ([] : List api_ExprNode), Guards := d1 } : api_Unit)] : List api_Unit) (.fs true [.agg [vi ((ix x0 a0).Table), nilS, a4]]) := sl_fs ⟨⟨nilS, a4, rfl, sl_nil, g1⟩, trivial⟩ (by simp)
      refine rs_back ?_
      refine rs_step ?_
      obtain ⟨c5, k7, g9⟩ := src_of (t := api_Unit.t) (h := j7) p7
      have j3 : fits (a2.length + c5.length) 56 = true := by rw [All2.length_eq b5, All2.length_eq g9]; (try simp only [List.length_cons, List.length_nil]); exact fits_of (by first | omega | (have hk := csl_drop (l := x0) (i := a0) (by omega) (by omega); have b8 := csl_ix (l := x0) (i := a0) (by omega) (by omega); (try simp only [ub11_len, under_len, List.length_append, List.length_cons, List.length_nil] at *); omega)) (by first | omega | (have hk := csl_drop (l := x0) (i := a0) (by omega) (by omega); have b8 := csl_ix (l := x0) (i := a0) (by omega) (by omega); (try simp only [ub11_len, under_len, List.length_append, List.length_cons, List.length_nil] at *); omega))
      refine rd_appW (k := 4) (es := a2) (news := c5) d8 rfl rfl rfl b2 b6 k7 j3 (fun d4 t1 k5 k8 l8 => ?_)
      have j6 : All2 api_Unit.t.R (a1 ++ ([({ Table := (ix x0 a0).Table, Cond := ([] : List api_ExprNode), Guards := d1 } : api_Unit)] : List api_Unit)) (a2 ++ c5) := All2.app b5 g9
      have j4 : (a1 ++ ([({ Table := (ix x0 a0).Table, Cond := ([] : List api_ExprNode), Guards := d1 } : api_Unit)] : List api_Unit)).length ≤ 4611686018427387904 := by rw [← All2.length_eq j6, List.length_append]; exact fits_len j3
      refine rs_back ?_
      refine rs_step ?_
      refine rd_storeO (k := 3) (v := d4) l8 rfl rfl rfl (mem_cnt1 (k := 4) l8 rfl k5) (fun p8 i7 => ?_)
      replace i7 : Mem p8 (⟨.op l7 m4 0, 3, 1, [vi (a1.length : Int)]⟩ :: ⟨.op b4 b3 0, 58, 3, [.agg [vi ((ix x0 a0).Table), nilS, a4]]⟩ :: ⟨.op a6 a5 0, 40, 5, [b1]⟩ :: ⟨.op a8 a7 0, 48, 1, [d4]⟩ :: ⟨d4, 58, 3, (a2 ++ c5)⟩ :: ⟨.op b0 a9 0, 102, 1, [.fn (.func 63) [] [.op a8 a7 0, .op b0 a9 0]]⟩ :: R_) := i7
      refine rs_back ?_
      refine rs_freezeP (k := 0) (E' := [(35, d4), (34, .fs true [.agg [vi ((ix x0 a0).Table), nilS, a4]]), (33, .agg [vi ((ix x0 a0).Table), nilS, a4]), (32, a3), (9, .fp (vi (a1.length : Int))), (31, vi (a1.length : Int)), (30, a3), (24, vb (decide (((ix x0 a0).Kind) = 2))), (23, vi ((ix x0 a0).Kind)), (22, .op a6 a5 (0 + 0)), (8, .op b4 b3 0), (21, .agg [vi ((ix x0 a0).Table), nilS, a4]), (20, a4), (19, v1), (18, vi ((ix x0 a0).Table)), (17, .op a6 a5 (0 + 1)), (7, .op a6 a5 0), (16, b1), (15, .fp b1), (14, vb (decide (a0 < (x0.length : Int)))), (13, vi a0), (12, vi (x0.length : Int)), (11, v0), (5, .fp v1), (3, .op b0 a9 0), (2, .op a8 a7 0)]) i7 rfl (frz_keep rfl (frz_keep rfl (frz_keep rfl (frz_keep rfl (frz_turn rfl (frz_keep rfl (frz_keep rfl (frz_keep rfl (frz_keep rfl (frz_keep rfl (frz_keep rfl (frz_keep rfl (frz_keep rfl (frz_keep rfl (frz_keep rfl (frz_keep rfl (frz_keep rfl (frz_keep rfl (frz_keep rfl (frz_keep rfl (frz_keep rfl (frz_keep rfl (frz_keep rfl (frz_keep rfl (frz_keep rfl (frz_keep rfl frz_nil)))))))))))))))))))))))))) (fun m0 f6 => ?_)
      replace f6 : Mem m0 (⟨.op b4 b3 0, 58, 3, [.agg [vi ((ix x0 a0).Table), nilS, a4]]⟩ :: ⟨.op a6 a5 0, 40, 5, [b1]⟩ :: ⟨.op a8 a7 0, 48, 1, [d4]⟩ :: ⟨d4, 58, 3, (a2 ++ c5)⟩ :: ⟨.op b0 a9 0, 102, 1, [.fn (.func 63) [] [.op a8 a7 0, .op b0 a9 0]]⟩ :: R_) := f6
      refine rs_nil ?_
      refine pn_seq ?_
      refine sR ?_
      have l5 : (tFn Try.prog tB (tSl api_Guard.t)).R (fun a_ => units_Build_1_1 a_ x1 (a1.length : Int)) (.fn (.func 66) [] [.fp v1, .fp (vi (a1.length : Int))]) := tFn_ofC (clL_cons (clo_fp (TR.clo (tSl api_Guard.t) r1)) (clL_cons rfl clL_nil)) fun a va ra => by obtain rfl := ra; obtain ⟨r, h1, h2⟩ := f66_ok (c1 := (a1.length : Int)) r1 (by first | omega | exact gu_cond gl (by omega) (by omega) | exact gu_then gl (by omega) (by omega) | exact gu_else gl (by omega) (by omega) | (have hk := csl_drop (l := x0) (i := a0) (by omega) (by omega); have b8 := csl_ix (l := x0) (i := a0) (by omega) (by omega); (try simp only [ub11_len, under_len, List.length_append, List.length_cons, List.length_nil] at *); omega)); exact ⟨r, h1, h2⟩
      refine rd_op (v := .fn (.func 66) [] [.fp v1, .fp (vi (a1.length : Int))]) (ov_mkFunc rfl rfl) ?_
      refine mV rfl ?_
      refine nS ?_
      refine rc_seq ?_
      refine rc_regionT ?_
      refine rd_op (ov_load0 (k := 4) f6 rfl rfl rfl) ?_
      refine rd_op (ov_faddrO rfl) ?_
      obtain ⟨t6, o5, o7⟩ := api_ControlNode.g_Then c8
      refine rd_op (ov_loadf (k := 1) f6 rfl rfl o5) ?_
      refine mV rfl ?_
      refine rd_callF rfl l5 rfl (show tB.R true (vb true) from rfl) (fun t3 o3 => ?_)
      refine rd_nil (pn_lastS ?_)
      have m9 : Mem m0 (⟨.op a8 a7 0, 48, 1, [d4]⟩ :: ⟨d4, 58, 3, (a2 ++ c5)⟩ :: ⟨.op b0 a9 0, 102, 1, [.fn (.func 63) [] [.op a8 a7 0, .op b0 a9 0]]⟩ :: ⟨.op b4 b3 0, 58, 3, [.agg [vi ((ix x0 a0).Table), nilS, a4]]⟩ :: ⟨.op a6 a5 0, 40, 5, [b1]⟩ :: R_) := (Mem.front (k := 4) (Mem.front (k := 4) (Mem.front (k := 4) f6 rfl) rfl) rfl)
      obtain ⟨n2, h3, hres⟩ := let_ex hres
      obtain ⟨q8, q3, l2, h7⟩ := ihR (z0 := ((ix x0 a0).Then)) (z1 := ((fun a_ => units_Build_1_1 a_ x1 (a1.length : Int)) true)) (zc0 := (a1 ++ ([({ Table := (ix x0 a0).Table, Cond := ([] : List api_ExprNode), Guards := d1 } : api_Unit)] : List api_Unit))) o7 o3 j6 k5 j4 k8 m9 (by first | omega | exact gu_cond gl (by omega) (by omega) | exact gu_then gl (by omega) (by omega) | exact gu_else gl (by omega) (by omega) | (have hk := csl_drop (l := x0) (i := a0) (by omega) (by omega); have b8 := csl_ix (l := x0) (i := a0) (by omega) (by omega); (try simp only [ub11_len, under_len, List.length_append, List.length_cons, List.length_nil] at *); omega)) (by first | omega | exact gu_cond gl (by omega) (by omega) | exact gu_then gl (by omega) (by omega) | exact gu_else gl (by omega) (by omega) | (have hk := csl_drop (l := x0) (i := a0) (by omega) (by omega); have b8 := csl_ix (l := x0) (i := a0) (by omega) (by omega); (try simp only [ub11_len, under_len, List.length_append, List.length_cons, List.length_nil] at *); omega)) (by first | omega | exact gu_cond gl (by omega) (by omega) | exact gu_then gl (by omega) (by omega) | exact gu_else gl (by omega) (by omega) | (have hk := csl_drop (l := x0) (i := a0) (by omega) (by omega); have b8 := csl_ix (l := x0) (i := a0) (by omega) (by omega); (try simp only [ub11_len, under_len, List.length_append, List.length_cons, List.length_nil] at *); omega)) (by first | omega | (have hk := csl_drop (l := x0) (i := a0) (by omega) (by omega); have b8 := csl_ix (l := x0) (i := a0) (by omega) (by omega); (try simp only [ub11_len, under_len, List.length_append, List.length_cons, List.length_nil] at *); omega))
      rw [h3] at h7
      obtain ⟨c9, e3, i5, d5, e2, e8, e0, g0⟩ := h7
      replace g0 := g0.symm; subst g0
      refine rs_callXc rfl rfl l2 ?_
      have r3 := bl_use hrec h3
      refine rs_nil ?_
      refine pn_seq ?_
      refine rc_regionT ?_
      refine rd_op (ov_load0 (k := 2) i5 rfl rfl rfl) ?_
      refine rd_op (ov_faddrO rfl) ?_
      obtain ⟨t5, o2, n7⟩ := api_ControlNode.g_Else c8
      refine rd_op (ov_loadf (k := 4) i5 rfl rfl o2) ?_
      refine mV rfl ?_
      refine rd_callF rfl l5 rfl (show tB.R false (vb false) from rfl) (fun s8 p1 => ?_)
      refine rd_nil (pn_lastS ?_)
      have q4 : Mem q3 (⟨.op a8 a7 0, 48, 1, [c9]⟩ :: ⟨c9, 58, 3, e3⟩ :: ⟨.op b0 a9 0, 102, 1, [.fn (.func 63) [] [.op a8 a7 0, .op b0 a9 0]]⟩ :: ⟨.op b4 b3 0, 58, 3, [.agg [vi ((ix x0 a0).Table), nilS, a4]]⟩ :: ⟨.op a6 a5 0, 40, 5, [b1]⟩ :: R_) := (Mem.front (k := 2) (Mem.front (k := 2) (Mem.front (k := 2) i5 rfl) rfl) rfl)
      obtain ⟨s5, g8, hres⟩ := let_ex hres
      obtain ⟨q7, s1, j8, g7⟩ := ihR (z0 := ((ix x0 a0).Else)) (z1 := ((fun a_ => units_Build_1_1 a_ x1 (a1.length : Int)) false)) (zc0 := n2) n7 p1 d5 e2 e8 e0 q4 (by first | omega | exact gu_cond gl (by omega) (by omega) | exact gu_then gl (by omega) (by omega) | exact gu_else gl (by omega) (by omega) | (have hk := csl_drop (l := x0) (i := a0) (by omega) (by omega); have b8 := csl_ix (l := x0) (i := a0) (by omega) (by omega); (try simp only [ub11_len, under_len, List.length_append, List.length_cons, List.length_nil] at *); omega)) (by first | omega | exact gu_cond gl (by omega) (by omega) | exact gu_then gl (by omega) (by omega) | exact gu_else gl (by omega) (by omega) | (have hk := csl_drop (l := x0) (i := a0) (by omega) (by omega); have b8 := csl_ix (l := x0) (i := a0) (by omega) (by omega); (try simp only [ub11_len, under_len, List.length_append, List.length_cons, List.length_nil] at *); omega)) (by first | omega | exact gu_cond gl (by omega) (by omega) | exact gu_then gl (by omega) (by omega) | exact gu_else gl (by omega) (by omega) | (have hk := csl_drop (l := x0) (i := a0) (by omega) (by omega); have b8 := csl_ix (l := x0) (i := a0) (by omega) (by omega); (try simp only [ub11_len, under_len, List.length_append, List.length_cons, List.length_nil] at *); omega)) (by first | omega | (have hk := csl_drop (l := x0) (i := a0) (by omega) (by omega); have b8 := csl_ix (l := x0) (i := a0) (by omega) (by omega); (try simp only [ub11_len, under_len, List.length_append, List.length_cons, List.length_nil] at *); omega))
      rw [g8] at g7
      obtain ⟨k6, i9, n1, e7, e5, e4, f3, f7⟩ := g7
      replace f7 := f7.symm; subst f7
      refine rs_callXc rfl rfl j8 ?_
      have r4 := bl_use hrec g8
      refine rs_nil ?_
      refine pn_blk ?_
      refine pn_seq ?_
      refine rc_region ?_
      refine bN i_add rfl rfl ?_
      refine mV rfl ?_
      refine rd_nil ?_
      refine pn_again ?_
      have hbd := sl_bound r0
      have hinc : wr (a0 + 1) = a0 + 1 := wr_of (by omega) (by omega)
      erw [hinc]
      exact wC (ih  e7 e5 f3 e4 (by omega) (by omega) (by first | omega | (have hk := csl_drop (l := x0) (i := a0) (by omega) (by omega); have b8 := csl_ix (l := x0) (i := a0) (by omega) (by omega); (try simp only [ub11_len, under_len, List.length_append, List.length_cons, List.length_nil] at *); omega)) (Mem.sub n1 (.cons_cons _ (.cons_cons _ (.cons_cons _ (.cons _ (.cons _ (List.Sublist.refl R_))))))) hres) rfl

theorem f63_okB {rec_ : (List api_ControlNode) → (List api_Guard) → (List api_Unit) → (List api_Unit)} {mu_ : Nat} {x0 : List api_ControlNode} {x1 : List api_Guard} {c0 : List api_Unit} {v0 v1 a1 : PV} {a0 : List PV} {R_ : List Ent} {h_ : Heap} {a9 b2 b0 b1 : Nat} (r0 : (tSl api_ControlNode.t).R x0 v0) (r1 : (tSl api_Guard.t).R x1 v1) (b3 : All2 api_Unit.t.R c0 a0) (a4 : isL a1 = true) (a6 : c0.length ≤ 4611686018427387904) (a5 : Wri a1 a0) (M_ : Mem h_ (⟨.op a9 b2 0, 48, 1, [a1]⟩ :: ⟨a1, 58, 3, a0⟩ :: ⟨.op b0 b1 0, 102, 1, [.fn (.func 63) [] [.op a9 b2 0, .op b0 b1 0]]⟩ :: R_)) (gl : GU x0) (hc : c0.length + csl x0 ≤ 1000) (hg : x1.length + csl x0 ≤ 1000) (hmu : mu_ = csl x0) (hrec : ∀ z0 z1 z2, (rec_ z0 z1 z2).length ≤ z2.length + csl z0) (ihR : ∀ {z0 : List api_ControlNode} {z1 : List api_Guard} {zc0 : List api_Unit} {c5 c6 a1 : PV} {a0 : List PV} {R_ : List Ent} {h_ : Heap} {a9 b2 b0 b1 : Nat} (c8 : (tSl api_ControlNode.t).R z0 c5) (c7 : (tSl api_Guard.t).R z1 c6) (b3 : All2 api_Unit.t.R zc0 a0) (a4 : isL a1 = true) (a6 : zc0.length ≤ 4611686018427387904) (a5 : Wri a1 a0) (M_ : Mem h_ (⟨.op a9 b2 0, 48, 1, [a1]⟩ :: ⟨a1, 58, 3, a0⟩ :: ⟨.op b0 b1 0, 102, 1, [.fn (.func 63) [] [.op a9 b2 0, .op b0 b1 0]]⟩ :: R_)) (gl : GU z0) (hc : zc0.length + csl z0 ≤ 1000) (hg : z1.length + csl z0 ≤ 1000), csl z0 < mu_ → ∃ r b8, FnX Try.prog 63 [c5, c6, .op a9 b2 0, .op b0 b1 0] h_ r b8 ∧ RF63 a9 b2 b0 b1 R_ (rec_ z0 z1 zc0) r b8) : ∃ r b8, FnX Try.prog 63 [v0, v1, .op a9 b2 0, .op b0 b1 0] h_ r b8 ∧ RF63 a9 b2 b0 b1 R_ (units_Build_1_B rec_ x0 x1 c0) r b8 := by
  refine fnXX (R := RF63 a9 b2 b0 b1 R_) text63 rfl fun res hres => ?_
  unfold units_Build_1_B at hres
  refine sR ?_
  refine rd_op (ov_box rfl (TR.cnt (tSl api_Guard.t) r1)) ?_
  refine nR ?_
  refine mV rfl ?_
  refine rd_op (ov_bi rfl (sl_len r0 Try.underlying28 _)) ?_
  refine mI rfl ?_
  refine nS ?_
  refine rc_block ?_
  refine wC (units_Build_1_L1_ok r0 r1 a4 a6 a5 gl hc hg ihR hmu hrec ?_  b3 a4 a5 a6 rfl (by omega) (by simp) (Mem.sub M_ (.cons_cons _ (.cons_cons _ (.cons_cons _ (List.Sublist.refl R_))))) hres) rfl
  · intro b6 a3 a2 b5 b4 a8 a7 b9 c4 hres
    refine px_blk ?_
    have b7 : Mem b9 (⟨.op a9 b2 0, 48, 1, [a2]⟩ :: ⟨a2, 58, 3, a3⟩ :: ⟨.op b0 b1 0, 102, 1, [.fn (.func 63) [] [.op a9 b2 0, .op b0 b1 0]]⟩ :: R_) := (Mem.front (k := 2) (Mem.front (k := 2) (Mem.front (k := 2) c4 rfl) rfl) rfl)
    subst hres
    exact pn_endX .nil ⟨a2, a3, Mem.sub b7 (.cons_cons _ (.cons_cons _ (.cons_cons _ (List.Sublist.refl R_)))), b5, b4, a7, a8, rfl⟩
theorem f63_okR : ∀ (n_ : Nat) {x0 : List api_ControlNode} {x1 : List api_Guard} {c0 : List api_Unit} {v0 v1 a1 : PV} {a0 : List PV} {R_ : List Ent} {h_ : Heap} {a6 a9 a7 a8 : Nat} (r0 : (tSl api_ControlNode.t).R x0 v0) (r1 : (tSl api_Guard.t).R x1 v1) (a4 : All2 api_Unit.t.R c0 a0) (a2 : isL a1 = true) (a5 : c0.length ≤ 4611686018427387904) (a3 : Wri a1 a0) (M_ : Mem h_ (⟨.op a6 a9 0, 48, 1, [a1]⟩ :: ⟨a1, 58, 3, a0⟩ :: ⟨.op a7 a8 0, 102, 1, [.fn (.func 63) [] [.op a6 a9 0, .op a7 a8 0]]⟩ :: R_)) (gl : GU x0) (hc : c0.length + csl x0 ≤ 1000) (hg : x1.length + csl x0 ≤ 1000), csl x0 < n_ → ∃ r b0, FnX Try.prog 63 [v0, v1, .op a6 a9 0, .op a7 a8 0] h_ r b0 ∧ RF63 a6 a9 a7 a8 R_ (units_Build_1_R n_ x0 x1 c0) r b0 := by
  intro n_
  induction n_ with
  | zero => intros; rename_i hlt; exact absurd hlt (Nat.not_lt_zero _)
  | succ n_ ihn =>
    intro x0 x1 c0 v0 v1 a1 a0 R_ h_ a6 a9 a7 a8 r0 r1 a4 a2 a5 a3 M_ gl hc hg hlt
    have e_ : units_Build_1_R (n_ + 1) x0 x1 c0 = units_Build_1_B (units_Build_1_R n_) x0 x1 c0 := by rw [units_Build_1_R]
    rw [e_]
    exact f63_okB r0 r1 a4 a2 a5 a3 M_ gl hc hg rfl (build_len n_) (fun {z0} {z1} {zc0} {zv0} {zv1} {a1} {a0} {R_} {h_} {a6} {a9} {a7} {a8} zr0 zr1 a4 a2 a5 a3 M_ gl hc hg hz => ihn zr0 zr1 a4 a2 a5 a3 M_ gl hc hg (by omega))
theorem f63_ok {x0 : List api_ControlNode} {x1 : List api_Guard} {c0 : List api_Unit} {v0 v1 a1 : PV} {a0 : List PV} {R_ : List Ent} {h_ : Heap} {a6 a9 a7 a8 : Nat} (r0 : (tSl api_ControlNode.t).R x0 v0) (r1 : (tSl api_Guard.t).R x1 v1) (a4 : All2 api_Unit.t.R c0 a0) (a2 : isL a1 = true) (a5 : c0.length ≤ 4611686018427387904) (a3 : Wri a1 a0) (M_ : Mem h_ (⟨.op a6 a9 0, 48, 1, [a1]⟩ :: ⟨a1, 58, 3, a0⟩ :: ⟨.op a7 a8 0, 102, 1, [.fn (.func 63) [] [.op a6 a9 0, .op a7 a8 0]]⟩ :: R_)) (gl : GU x0) (hc : c0.length + csl x0 ≤ 1000) (hg : x1.length + csl x0 ≤ 1000) : ∃ r b0, FnX Try.prog 63 [v0, v1, .op a6 a9 0, .op a7 a8 0] h_ r b0 ∧ RF63 a6 a9 a7 a8 R_ (units_Build_1 x0 x1 c0) r b0 := f63_okR _ r0 r1 a4 a2 a5 a3 M_ gl hc hg (Nat.lt_succ_self _)

def RF31 (res : (List api_Unit)) (r : PV) : Prop := (tSl api_Unit.t).R res r
theorem f31_ok {x0 : api_Program} {v0 : PV} (r0 : api_Program.t.R x0 v0) (hs : csl x0.Control ≤ 1000) (hu : GU x0.Control) : ∃ r, FnR Try.prog 31 [v0] r ∧ (tSl api_Unit.t).R (units_Build x0) r := by
  refine fnT (R := RF31) text31 rfl fun res hres => ?_
  unfold units_Build at hres
  refine sR ?_
  refine rd_op (ov_box rfl (TR.cnt api_Program.t r0)) ?_
  refine rd_op (v := nilS) (ov_move rfl) ?_
  refine nS ?_
  refine rc_seq ?_
  refine sR ?_
  refine lD r0 rfl rfl rfl ?_
  obtain ⟨d3, b5, hres⟩ := let_ex hres
  have b7 := f16_ok  r0 (by first | assumption | omega)
  rw [b5] at b7
  refine cL b7 rfl rfl (clL_cons (TR.clo api_Program.t r0) clL_nil) ?_
  refine mV rfl ?_
  refine xT rfl rfl ?_
  refine xT rfl rfl ?_
  refine mV rfl ?_
  refine mV rfl ?_
  refine nR ?_
  refine mV rfl ?_
  refine bN i_neq rfl rfl ?_
  refine nS ?_
  refine rc_br hres rfl ?_ ?_ <;> clear hres <;> intro c hres <;> try simp only [qa, qaD] at c
  · refine sR ?_
    refine rd_op (v := nilS) (ov_move rfl) ?_
    refine nS ?_
    exact rR hres rfl (TR.clo (tSl api_Unit.t) sl_nil) sl_nil
  · refine rc_skip ?_
    refine pn_seq ?_
    refine sR ?_
    refine rd_allocO (x := nilS) (Mem.nil ⟨0, []⟩) rfl rfl (fun a2 a6 d2 c5 => ?_)
    refine nR ?_
    refine rd_allocO (x := .sc .nilFunc) c5 rfl rfl (fun a3 a4 d5 c6 => ?_)
    refine nR ?_
    refine rd_op (v := .fn (.func 63) [] [.op a2 a6 0, .op a3 a4 0]) (ov_mkFunc rfl rfl) ?_
    refine rd_storeO (k := 0) (v := .fn (.func 63) [] [.op a2 a6 0, .op a3 a4 0]) c6 rfl rfl rfl rfl (fun b6 a8 => ?_)
    replace a8 : Mem b6 [⟨.op a3 a4 0, 102, 1, [.fn (.func 63) [] [.op a2 a6 0, .op a3 a4 0]]⟩, ⟨.op a2 a6 0, 48, 1, [nilS]⟩] := a8
    refine nS ?_
    refine rc_seq ?_
    refine rc_regionS ?_
    refine rs_step ?_
    refine rd_op (ov_load0 (k := 0) a8 rfl rfl rfl) ?_
    refine rs_back ?_
    refine rs_step ?_
    obtain ⟨d4, d0, b9⟩ := api_Program.g_Control r0
    refine fA rfl d0 ?_
    refine rs_back ?_
    refine rs_step ?_
    refine lD b9 rfl rfl rfl ?_
    refine rs_back ?_
    have c9 := mem_acc (sz := 3) (es := []) a8 58 (.inl ⟨none, rfl, rfl⟩) (by simp)
    have c4 : Mem b6 [⟨.op a2 a6 0, 48, 1, [nilS]⟩, ⟨nilS, 58, 3, ([] : List PV)⟩, ⟨.op a3 a4 0, 102, 1, [.fn (.func 63) [] [.op a2 a6 0, .op a3 a4 0]]⟩] := (Mem.front (k := 2) (Mem.front (k := 1) (Mem.front (k := 1) c9 rfl) rfl) rfl)
    obtain ⟨d8, b8, hres⟩ := let_ex hres
    obtain ⟨d1, d6, b4, a9⟩ := f63_ok (x0 := x0.Control) (x1 := ([] : List api_Guard)) (c0 := ([] : List api_Unit)) b9 sl_nil (show All2 api_Unit.t.R ([] : List api_Unit) [] from trivial) rfl (by first | decide | simp) (.inl rfl) c4 (by first | omega | exact hu | (simp only [List.length_nil]; omega)) (by first | omega | exact hu | (simp only [List.length_nil]; omega)) (by first | omega | exact hu | (simp only [List.length_nil]; omega))
    rw [b8] at a9
    obtain ⟨b3, b2, b0, a1, a0, a5, b1, a7⟩ := a9
    replace a7 := a7.symm; subst a7
    refine rs_callXc rfl rfl b4 ?_
    refine rs_nil ?_
    refine pn_seq ?_
    refine sR ?_
    refine rd_op (ov_load0 (k := 0) b0 rfl rfl (mem_one (k := 1) b0 rfl a0).2) ?_
    refine mV rfl ?_
    refine nS ?_
    obtain ⟨d7, c8, c7⟩ := own_sl (P := Try.prog) (k := 1) (t := api_Unit.t) b0 rfl a0 a1 (Nat.le_trans a5 (by decide))
    subst hres
    exact rc_retV (.tmp rfl .nil) c8 c7

end Go.Proofs.Ytkgnjpoafilicaa
