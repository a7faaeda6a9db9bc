/-
  The code of each function does what its plain program says.
-/
import Derived.Test.YtkgnjpoafilicaaL5W1
set_option linter.unusedVariables false
set_option linter.unusedSimpArgs false
set_option maxRecDepth 100000
namespace Go.Proofs.Ytkgnjpoafilicaa
open Go Go.Pb Go.RowKit
def RF75 (res : Int × Int) (r : PV) : Prop := r = .tup [vi res.1, vi res.2]
theorem f75_ok {x0 : List api_ExprNode} {x1 : expr_Scope} {v0 v1 : PV} (r0 : (tSl api_ExprNode.t).R x0 v0) (r1 : expr_Scope.t.R x1 v1) : FnR Try.prog 75 [v0, v1] (.tup [vi ((expr_Check x0 x1).1), vi ((expr_Check x0 x1).2)]) := by
  refine fnS (R := RF75) text75 (fun _ h => h) rfl fun res hres => ?_
  unfold expr_Check at hres
  refine sR ?_
  refine rd_op (ov_box rfl (TR.cnt expr_Scope.t r1)) ?_
  refine mI rfl ?_
  refine mI rfl ?_
  refine nS ?_
  refine rc_seq ?_
  refine sR ?_
  refine mV rfl ?_
  refine rd_op (ov_bi rfl (sl_len r0 Try.underlying38 _)) ?_
  refine bN i_gtr rfl rfl ?_
  refine nS ?_
  refine rc_br hres rfl ?_ ?_ <;> clear hres <;> intro c hres <;> try simp only [qa, qaD] at c
  · refine sR ?_
    refine mI rfl ?_
    refine mI rfl ?_
    refine nS ?_
    exact rT hres rfl rfl rfl rfl rfl
  · refine rc_skip ?_
    refine pn_seq ?_
    refine sR ?_
    refine lD r1 rfl rfl rfl ?_
    refine mV rfl ?_
    obtain ⟨a2, a0, hres⟩ := let_ex hres
    have a1 := f84_ok (x2 := 0) r1 r0 (by first | assumption | omega) (by first | assumption | omega)
    rw [a0] at a1
    refine cL a1 rfl rfl (clL_cons (TR.clo expr_Scope.t r1) (clL_cons (TR.clo (tSl api_ExprNode.t) r0) (clL_cons rfl clL_nil))) ?_
    refine mV rfl ?_
    refine xT rfl rfl ?_
    refine xT rfl rfl ?_
    refine xT rfl rfl ?_
    refine mV rfl ?_
    refine mV rfl ?_
    refine mV rfl ?_
    refine nS ?_
    refine rc_seq ?_
    refine rc_block ?_
    refine sR ?_
    refine mV rfl ?_
    refine bN i_neq rfl rfl ?_
    refine mV rfl ?_
    refine nS ?_
    refine rc_br hres rfl ?_ ?_ <;> clear hres <;> intro c hres <;> try simp only [qa, qaD] at c
    · refine sR ?_
      refine mV rfl ?_
      refine mI rfl ?_
      refine mV rfl ?_
      refine nS ?_
      exact rT hres rfl rfl rfl rfl rfl
    · refine sR ?_
      refine mV rfl ?_
      refine mV rfl ?_
      refine rd_op (ov_bi rfl (sl_len r0 Try.underlying38 _)) ?_
      refine bN i_lss rfl rfl ?_
      refine mV rfl ?_
      refine nS ?_
      refine rc_br hres rfl ?_ ?_ <;> clear hres <;> intro c hres <;> try simp only [qa, qaD] at c
      · refine sR ?_
        refine mI rfl ?_
        refine mI rfl ?_
        refine nS ?_
        exact rT hres rfl rfl rfl rfl rfl
      · refine rc_skip ?_
        refine pn_blk ?_
        refine pn_seq ?_
        refine sR ?_
        refine mV rfl ?_
        refine mV rfl ?_
        refine mI rfl ?_
        refine nS ?_
        exact rT hres rfl rfl rfl rfl rfl

def RF50 (res : Int) (r : PV) : Prop := r = vi res
theorem control_checkNode_L1_ok {S : List Fr} {res : Int} {x0 : api_Program} {x1 : api_ControlNode} {x2 : List Int} {a1 : Bool} {v1 v2 : PV} (r1 : api_ControlNode.t.R x1 v1) (r2 : (tSl tI).R x2 v2) (a4 : a1 = true) (a6 : ((decide (x1.Table < 0)) || (decide ((x0.Tables.length : Int) ≤ x1.Table))) = false) {K1 : Unit → Int}
    (a8 : K1 () = res → PX Try.prog 1 S (QR Try.prog [(6, none)] (RF50 res)) [(4, .fp v1)] ⟨0, []⟩) :
    ∀ {m : Nat} {a0 : Int} (a7 : m = Int.toNat ((x2.length : Int) - a0)) (a5 : 0 ≤ a0), control_checkNode_L1 x1 x2 K1 m a0 = res → RC Try.prog (.loop ac50_L1) S (QR Try.prog [(6, none)] (RF50 res)) [(29, vi a0), (28, vi (x2.length : Int)), (27, v2), (4, .fp v1)] ⟨0, []⟩ := by
  have a3 := a4
  try simp only [qa, qaD] at a3
  have a2 := a6
  try simp only [qa, qaD] at a2
  intro m
  induction m with
  | zero =>
    intro a0 a7 a5 hres
    rw [control_checkNode_L1] at hres
    refine rc_loop ?_
    refine sR ?_
    refine bN i_lss rfl rfl ?_
    refine nS ?_
    refine rc_seq ?_
    refine rc_cond rfl ?_ ?_ <;> intro c <;> try simp only [qa, qaD] at c
    · omega
    refine rc_exit ?_
    refine px_seq ?_
    refine px_again ?_
    exact wP (a8  hres) rfl
  | succ m ih =>
    intro a0 a7 a5 hres
    rw [control_checkNode_L1] at hres
    refine rc_loop ?_
    refine sR ?_
    refine bN i_lss rfl rfl ?_
    refine nS ?_
    refine rc_seq ?_
    refine rc_cond rfl ?_ ?_ <;> intro c <;> try simp only [qa, qaD] at c
    rotate_left
    · omega
    refine rc_skip ?_
    refine pn_seq ?_
    refine rc_seq ?_
    refine rc_block ?_
    refine sR ?_
    refine rd_op (ov_iaddr rfl rfl (slI r2 (by omega) (by omega))) ?_
    refine lR rfl rfl rfl ?_
    refine mV rfl ?_
    refine nR ?_
    refine mV rfl ?_
    refine fL rfl (api_ControlNode.g_Table r1) rfl rfl ?_
    refine bN i_eql rfl rfl ?_
    refine nS ?_
    refine rc_br hres rfl ?_ ?_ <;> clear hres <;> intro c hres <;> try simp only [qa, qaD] at c
    · refine sR ?_
      refine mI rfl ?_
      refine nS ?_
      exact rR hres rfl rfl rfl
    · refine rc_skip ?_
      refine pn_blk ?_
      refine pn_seq ?_
      refine rc_region ?_
      refine bN i_add rfl rfl ?_
      refine mV rfl ?_
      refine rd_nil ?_
      refine pn_again ?_
      have hbd := sl_bound r2
      have hinc : wr (a0 + 1) = a0 + 1 := wr_of (by omega) (by omega)
      erw [hinc]
      exact wC (ih   (by omega) (by omega) hres) rfl

theorem f50_ok {x0 : api_Program} {x1 : api_ControlNode} {x2 : List Int} {v0 v1 v2 : PV} (r0 : api_Program.t.R x0 v0) (r1 : api_ControlNode.t.R x1 v1) (r2 : (tSl tI).R x2 v2) : FnR Try.prog 50 [v0, v1, v2] (vi (control_checkNode x0 x1 x2)) := by
  refine fnS (R := RF50) text50 (fun _ h => h) rfl fun res hres => ?_
  unfold control_checkNode at hres
  refine sR ?_
  refine rd_op (ov_box rfl (TR.cnt api_Program.t r0)) ?_
  refine rd_op (ov_box rfl (TR.cnt api_ControlNode.t r1)) ?_
  refine mI rfl ?_
  refine nS ?_
  refine rc_seq ?_
  refine sR ?_
  refine fL rfl (api_ControlNode.g_Kind r1) rfl rfl ?_
  refine nS ?_
  refine rc_block ?_
  refine rc_seq ?_
  refine sR ?_
  refine bN i_eql rfl rfl ?_
  refine mV rfl ?_
  refine nS ?_
  obtain ⟨d7, d1, hres⟩ := let_ex hres
  refine rc_join (F := fun b S Q => ∀ (a8 : Bool), d7 a8 = res → RC Try.prog b S Q [(13, vb a8), (12, vi x1.Kind), (4, .fp v1), (3, .fp v0), (2, v2)] ⟨0, []⟩) ?_ ?_
  · intro a8  hres
    rw [← d1] at hres
    refine rc_br hres rfl ?_ ?_ <;> clear hres <;> intro b7 hres <;> have c7 := b7 <;> try simp only [qa, qaD] at c7
    · refine rc_seq ?_
      refine sR ?_
      refine fL rfl (api_ControlNode.g_Table r1) rfl rfl ?_
      refine bN i_lss rfl rfl ?_
      refine mV rfl ?_
      refine rd_cutn 7 (d := 26) (v := vb ((decide (x1.Table < 0)) || (decide ((x0.Tables.length : Int) ≤ x1.Table)))) ?_ ?_
      · intro S Q r
        cases d2 : (decide (x1.Table < 0))
        · intro k
          have c4 := d2
          try simp only [qa, qaD] at c4
          refine rd_yes rfl rfl (ov_faddr rfl (api_ControlNode.g_Table r1)) ?_
          refine rd_yes rfl rfl (ov_load rfl rfl rfl) ?_
          obtain ⟨e1, e0, c6⟩ := api_Program.g_Tables r0
          refine rd_yes rfl rfl (ov_faddr rfl e0) ?_
          refine rd_yes rfl rfl (ov_load rfl (TR.cnt (tSl api_Table.t) c6) (TR.agg (tSl api_Table.t) c6)) ?_
          refine rd_yes rfl rfl (ov_bi rfl (sl_len c6 Try.underlying26 _)) ?_
          refine rd_yes rfl rfl (ov_bin rfl rfl i_geq) ?_
          exact gK rfl rfl rfl rfl rfl k
        · exact gN 6 rfl rfl rfl rfl rfl rfl
      refine nS ?_
      refine rc_br hres rfl ?_ ?_ <;> clear hres <;> intro b8 hres <;> have c5 := b8 <;> try simp only [qa, qaD] at c5
      · refine sR ?_
        refine mI rfl ?_
        refine nS ?_
        exact rR hres rfl rfl rfl
      · refine rc_skip ?_
        refine pn_seq ?_
        refine rc_seq ?_
        refine sR ?_
        refine mV rfl ?_
        refine rd_op (ov_bi rfl (sl_len r2 Try.underlying29 _)) ?_
        refine mI rfl ?_
        refine nS ?_
        refine rc_block ?_
        refine wC (control_checkNode_L1_ok r1 r2 b7 b8 ?_  rfl (by omega) hres) rfl
        · intro  hres
          refine px_blk ?_
          refine pn_seq ?_
          refine sR ?_
          refine fL rfl (api_ControlNode.g_Kind r1) rfl rfl ?_
          refine bN i_eql rfl rfl ?_
          refine mV rfl ?_
          refine rd_cutn 9 (d := 50) (v := vb ((decide (x1.Kind = 1)) && (decide (0 < (wr ((x1.Then.length : Int) + (x1.Else.length : Int))))))) ?_ ?_
          · intro S Q r
            cases d4 : (decide (x1.Kind = 1))
            · exact gN 8 rfl rfl rfl rfl rfl rfl
            · intro k
              have b9 := d4
              try simp only [qa, qaD] at b9
              obtain ⟨e3, d6, c8⟩ := api_ControlNode.g_Then r1
              refine rd_yes rfl rfl (ov_faddr rfl d6) ?_
              refine rd_yes rfl rfl (ov_load rfl (TR.cnt (tSl api_ControlNode.t) c8) (TR.agg (tSl api_ControlNode.t) c8)) ?_
              refine rd_yes rfl rfl (ov_bi rfl (sl_len c8 Try.underlying28 _)) ?_
              obtain ⟨e4, d8, c9⟩ := api_ControlNode.g_Else r1
              refine rd_yes rfl rfl (ov_faddr rfl d8) ?_
              refine rd_yes rfl rfl (ov_load rfl (TR.cnt (tSl api_ControlNode.t) c9) (TR.agg (tSl api_ControlNode.t) c9)) ?_
              refine rd_yes rfl rfl (ov_bi rfl (sl_len c9 Try.underlying28 _)) ?_
              refine rd_yes rfl rfl (ov_bin rfl rfl i_add) ?_
              refine rd_yes rfl rfl (ov_bin rfl rfl i_gtr) ?_
              exact gK rfl rfl rfl rfl rfl k
          refine nS ?_
          refine rc_br hres rfl ?_ ?_ <;> clear hres <;> intro c hres <;> try simp only [qa, qaD] at c
          · refine sR ?_
            refine mI rfl ?_
            refine nS ?_
            exact rR hres rfl rfl rfl
          · refine rc_skip ?_
            refine pn_blk ?_
            refine pn_seq ?_
            refine sR ?_
            refine mI rfl ?_
            refine nS ?_
            exact rR hres rfl rfl rfl
    · refine sR ?_
      refine bN i_eql rfl rfl ?_
      refine mV rfl ?_
      refine nS ?_
      refine rc_br hres rfl ?_ ?_ <;> clear hres <;> intro c hres <;> try simp only [qa, qaD] at c
      · refine sR ?_
        refine gL (api_ControlNode.g_Cond r1) rfl rfl rfl fun e2 d3 => ?_
        refine lD r0 rfl rfl rfl ?_
        obtain ⟨a3, a1, a6, a0, a7, a2, a4, a5, d9, b0, b4, b1, b5, b3, a9, b2, b6⟩ := r0
        subst d9
        refine rd_op (v := .agg [vs x0.Name, a3, a1, a6, a0, a7, a2, a4, a5, nilS]) (ov_build (cs := [vs x0.Name, a3, a1, a6, a0, a7, a2, a4, a5, nilS]) rfl rfl) ?_
        obtain ⟨e5, d5, hres⟩ := let_ex hres
        have d0 := f75_ok  d3 (show expr_Scope.t.R ({ Program := x0, Params := ([] : List api_Field) } : expr_Scope) (.agg [vs x0.Name, a3, a1, a6, a0, a7, a2, a4, a5, nilS]) from ⟨a3, a1, a6, a0, a7, a2, a4, a5, nilS, rfl, b0, b4, b1, b5, b3, a9, b2, b6, sl_nil⟩) 
        rw [d5] at d0
        refine cL d0 rfl rfl (clL_cons (TR.clo (tSl api_ExprNode.t) d3) (clL_cons (TR.clo expr_Scope.t (show expr_Scope.t.R ({ Program := x0, Params := ([] : List api_Field) } : expr_Scope) (.agg [vs x0.Name, a3, a1, a6, a0, a7, a2, a4, a5, nilS]) from ⟨a3, a1, a6, a0, a7, a2, a4, a5, nilS, rfl, b0, b4, b1, b5, b3, a9, b2, b6, sl_nil⟩)) clL_nil)) ?_
        refine mV rfl ?_
        refine xT rfl rfl ?_
        refine xT rfl rfl ?_
        refine mV rfl ?_
        refine mV rfl ?_
        refine nS ?_
        refine rc_seq ?_
        refine sR ?_
        refine mV rfl ?_
        refine bN i_neq rfl rfl ?_
        refine nS ?_
        refine rc_br hres rfl ?_ ?_ <;> clear hres <;> intro c hres <;> try simp only [qa, qaD] at c
        · refine sR ?_
          refine mV rfl ?_
          refine mV rfl ?_
          refine nS ?_
          exact rR hres rfl rfl rfl
        · refine rc_skip ?_
          refine pn_seq ?_
          refine sR ?_
          refine mV rfl ?_
          refine bN i_neq rfl rfl ?_
          refine nS ?_
          refine rc_br hres rfl ?_ ?_ <;> clear hres <;> intro c hres <;> try simp only [qa, qaD] at c
          · refine sR ?_
            refine mI rfl ?_
            refine nS ?_
            exact rR hres rfl rfl rfl
          · refine rc_skip ?_
            refine pn_blk ?_
            refine pn_seq ?_
            refine sR ?_
            refine mI rfl ?_
            refine nS ?_
            exact rR hres rfl rfl rfl
      · refine sR ?_
        refine mI rfl ?_
        refine nS ?_
        exact rR hres rfl rfl rfl
  · intro J
    refine rc_br hres rfl ?_ ?_ <;> clear hres <;> intro c hres <;> try simp only [qa, qaD] at c
    · refine rc_skip ?_
      refine pn_seq (wC (J _  hres) rfl)
    · refine rc_region ?_
      refine bN i_eql rfl rfl ?_
      refine mV rfl ?_
      refine rd_nil ?_
      refine pn_seq (wC (J _  hres) rfl)

def RF51 (res : Bool) (r : PV) : Prop := r = vb res
theorem f51_ok {x0 : api_ControlNode} {v0 : PV} (r0 : api_ControlNode.t.R x0 v0) : FnR Try.prog 51 [v0] (vb (control_applies x0)) := by
  refine fnS (R := RF51) text51 (fun _ h => h) rfl fun res hres => ?_
  unfold control_applies at hres
  refine sR ?_
  refine rd_op (ov_box rfl (TR.cnt api_ControlNode.t r0)) ?_
  refine mB rfl ?_
  refine nR ?_
  refine fL rfl (api_ControlNode.g_Kind r0) rfl rfl ?_
  refine bN i_eql rfl rfl ?_
  refine mV rfl ?_
  refine rd_cutn 4 (d := 10) (v := vb ((decide (x0.Kind = 1)) || (decide (x0.Kind = 3)))) ?_ ?_
  · intro S Q r
    cases a1 : (decide (x0.Kind = 1))
    · intro k
      have a0 := a1
      try simp only [qa, qaD] at a0
      refine rd_yes rfl rfl (ov_faddr rfl (api_ControlNode.g_Kind r0)) ?_
      refine rd_yes rfl rfl (ov_load rfl rfl rfl) ?_
      refine rd_yes rfl rfl (ov_bin rfl rfl i_eql) ?_
      exact gK rfl rfl rfl rfl rfl k
    · exact gN 3 rfl rfl rfl rfl rfl rfl
  refine mV rfl ?_
  refine nS ?_
  exact rR hres rfl rfl rfl

def RF49 (i2_ w2_ i3_ w3_ i4_ w4_ : Nat) (R_ : List Ent) (res : Bool × (List Int) × Int × Int) (r : PV) (h : Heap) : Prop := ∃ aF0_0 : PV, ∃ esF0_0 : List PV, Mem h (⟨.op i2_ w2_ 0, 29, 1, [aF0_0]⟩ :: ⟨aF0_0, 3, 1, esF0_0⟩ :: ⟨.op i3_ w3_ 0, 35, 1, [vi res.2.2.1]⟩ :: ⟨.op i4_ w4_ 0, 3, 1, [vi res.2.2.2]⟩ :: R_) ∧ (All2 tI.R res.2.1 esF0_0) ∧ (isL aF0_0 = true) ∧ (res.2.1.length ≤ 4611686018427387904) ∧ (Wri aF0_0 esF0_0) ∧ r = vb res.1
theorem f49_ok {x0 : api_ControlNode} {c0 : api_Program} {c1 : List Int} {c2 c3 : Int} {v0 w0 a1 : PV} {a0 : List PV} {R_ : List Ent} {h_ : Heap} {b3 b1 b2 b4 b0 b5 : Nat} (r0 : api_ControlNode.t.R x0 v0) (e1 : api_Program.t.R c0 w0) (a3 : All2 tI.R c1 a0) (a2 : isL a1 = true) (a8 : c1.length ≤ 4611686018427387904) (a9 : Wri a1 a0) (M_ : Mem h_ (⟨.op b3 b1 0, 29, 1, [a1]⟩ :: ⟨a1, 3, 1, a0⟩ :: ⟨.op b2 b4 0, 35, 1, [vi c2]⟩ :: ⟨.op b0 b5 0, 3, 1, [vi c3]⟩ :: R_)) (hb : c1.length ≤ 1000000) : ∃ r e6, FnX Try.prog 49 [v0, .fp w0, .op b3 b1 0, .op b2 b4 0, .op b0 b5 0] h_ r e6 ∧ RF49 b3 b1 b2 b4 b0 b5 R_ (control_Check_1 x0 c0 c1 c2 c3) r e6 := by
  refine fnXX (R := RF49 b3 b1 b2 b4 b0 b5 R_) text49 rfl fun res hres => ?_
  unfold control_Check_1 at hres
  refine sR ?_
  refine rd_op (ov_box rfl (TR.cnt api_ControlNode.t r0)) ?_
  refine mB rfl ?_
  refine nS ?_
  refine rc_seq ?_
  refine sR ?_
  refine lD e1 rfl rfl rfl ?_
  refine lD r0 rfl rfl rfl ?_
  refine rd_op (ov_load0 (k := 0) M_ rfl rfl (mem_one (k := 1) M_ rfl a2).2) ?_
  obtain ⟨e7, e4, e2⟩ := own_sl (P := Try.prog) (k := 1) (t := tI) M_ rfl a2 a3 (Nat.le_trans a8 (by decide))
  obtain ⟨a6, c9, hres⟩ := let_ex hres
  have c5 := f50_ok  e1 r0 e2 
  rw [c9] at c5
  refine rd_call (cv_lend rfl rfl (dl_cons (deep_closed (TR.clo api_Program.t e1)) (dl_cons (deep_closed (TR.clo api_ControlNode.t r0)) (dl_cons e4 dl_nil))) c5 rfl) ?_
  refine rd_storeO (k := 2) (v := vi a6) M_ rfl rfl rfl rfl (fun b8 a5 => ?_)
  replace a5 : Mem b8 (⟨.op b3 b1 0, 29, 1, [a1]⟩ :: ⟨a1, 3, 1, a0⟩ :: ⟨.op b2 b4 0, 35, 1, [vi a6]⟩ :: ⟨.op b0 b5 0, 3, 1, [vi c3]⟩ :: R_) := a5
  refine nR ?_
  refine rd_op (ov_load0 (k := 2) a5 rfl rfl rfl) ?_
  refine bN i_neq rfl rfl ?_
  refine nS ?_
  refine rc_br hres rfl ?_ ?_ <;> clear hres <;> intro c hres <;> try simp only [qa, qaD] at c
  · refine sR ?_
    refine mB rfl ?_
    refine nS ?_
    have d5 : Mem b8 (⟨.op b3 b1 0, 29, 1, [a1]⟩ :: ⟨a1, 3, 1, a0⟩ :: ⟨.op b2 b4 0, 35, 1, [vi a6]⟩ :: ⟨.op b0 b5 0, 3, 1, [vi c3]⟩ :: R_) := (Mem.front (k := 3) (Mem.front (k := 3) (Mem.front (k := 3) (Mem.front (k := 3) a5 rfl) rfl) rfl) rfl)
    subst hres
    exact rc_retX (.tmp rfl .nil) ⟨a1, a0, Mem.sub d5 (.cons_cons _ (.cons_cons _ (.cons_cons _ (.cons_cons _ (List.Sublist.refl R_))))), a3, a2, a8, a9, rfl⟩
  · refine rc_skip ?_
    refine pn_seq ?_
    refine rc_seq ?_
    refine sR ?_
    refine lD r0 rfl rfl rfl ?_
    obtain ⟨e8, d2, hres⟩ := let_ex hres
    have d9 := f51_ok  r0 
    rw [d2] at d9
    refine cL d9 rfl rfl (clL_cons (TR.clo api_ControlNode.t r0) clL_nil) ?_
    refine nS ?_
    refine rc_br hres rfl ?_ ?_ <;> clear hres <;> intro c hres <;> try simp only [qa, qaD] at c
    · refine rc_region ?_
      refine rd_op (ov_load0 (k := 0) a5 rfl rfl (mem_one (k := 1) a5 rfl a2).2) ?_
      refine fL rfl (api_ControlNode.g_Table r0) rfl rfl ?_
      refine rd_op (v := .fs true [vi x0.Table]) (ov_bslice rfl (all_cons rfl all_nil)) ?_
      have e5 : (tSl tI).R ([x0.Table] : List Int) (.fs true [vi x0.Table]) := sl_fs ⟨rfl, trivial⟩ (by simp)
      obtain ⟨a4, e0, b7⟩ := src_of (t := tI) (h := b8) e5
      have c8 : fits (a0.length + a4.length) 8 = true := by rw [All2.length_eq a3, All2.length_eq b7]; (try simp only [List.length_cons, List.length_nil]); exact fits_of (by first | omega | (simp only [List.length_append, List.length_cons, List.length_nil] at *; omega)) (by first | omega | (simp only [List.length_append, List.length_cons, List.length_nil] at *; omega))
      refine rd_appW (k := 1) (es := a0) (news := a4) a5 rfl rfl rfl a2 a9 e0 c8 (fun a7 e9 c6 d1 d4 => ?_)
      have d3 : All2 tI.R (c1 ++ ([x0.Table] : List Int)) (a0 ++ a4) := All2.app a3 b7
      have d7 : (c1 ++ ([x0.Table] : List Int)).length ≤ 4611686018427387904 := by rw [← All2.length_eq d3, List.length_append]; exact fits_len c8
      refine rd_storeO (k := 0) (v := a7) d4 rfl rfl rfl (mem_cnt1 (k := 1) d4 rfl c6) (fun e3 b6 => ?_)
      replace b6 : Mem e3 (⟨.op b3 b1 0, 29, 1, [a7]⟩ :: ⟨a7, 3, 1, (a0 ++ a4)⟩ :: ⟨.op b2 b4 0, 35, 1, [vi a6]⟩ :: ⟨.op b0 b5 0, 3, 1, [vi c3]⟩ :: R_) := b6
      refine nR ?_
      refine rd_op (ov_load0 (k := 3) b6 rfl rfl rfl) ?_
      refine bN i_add rfl rfl ?_
      refine rd_storeO (k := 3) (v := vi (wr (c3 + 1))) b6 rfl rfl rfl rfl (fun d8 c4 => ?_)
      replace c4 : Mem d8 (⟨.op b3 b1 0, 29, 1, [a7]⟩ :: ⟨a7, 3, 1, (a0 ++ a4)⟩ :: ⟨.op b2 b4 0, 35, 1, [vi a6]⟩ :: ⟨.op b0 b5 0, 3, 1, [vi (wr (c3 + 1))]⟩ :: R_) := c4
      refine nR ?_
      refine mB rfl ?_
      refine nS ?_
      have d0 : Mem d8 (⟨.op b3 b1 0, 29, 1, [a7]⟩ :: ⟨a7, 3, 1, (a0 ++ a4)⟩ :: ⟨.op b2 b4 0, 35, 1, [vi a6]⟩ :: ⟨.op b0 b5 0, 3, 1, [vi (wr (c3 + 1))]⟩ :: R_) := (Mem.front (k := 3) (Mem.front (k := 3) (Mem.front (k := 3) (Mem.front (k := 3) c4 rfl) rfl) rfl) rfl)
      subst hres
      exact rc_retX (.tmp rfl .nil) ⟨a7, (a0 ++ a4), Mem.sub d0 (.cons_cons _ (.cons_cons _ (.cons_cons _ (.cons_cons _ (List.Sublist.refl R_))))), d3, c6, d7, d1, rfl⟩
    · refine rc_skip ?_
      refine pn_seq ?_
      refine sR ?_
      refine rd_op (ov_load0 (k := 3) a5 rfl rfl rfl) ?_
      refine bN i_add rfl rfl ?_
      refine rd_storeO (k := 3) (v := vi (wr (c3 + 1))) a5 rfl rfl rfl rfl (fun c7 b9 => ?_)
      replace b9 : Mem c7 (⟨.op b3 b1 0, 29, 1, [a1]⟩ :: ⟨a1, 3, 1, a0⟩ :: ⟨.op b2 b4 0, 35, 1, [vi a6]⟩ :: ⟨.op b0 b5 0, 3, 1, [vi (wr (c3 + 1))]⟩ :: R_) := b9
      refine nR ?_
      refine mB rfl ?_
      refine nS ?_
      have d6 : Mem c7 (⟨.op b3 b1 0, 29, 1, [a1]⟩ :: ⟨a1, 3, 1, a0⟩ :: ⟨.op b2 b4 0, 35, 1, [vi a6]⟩ :: ⟨.op b0 b5 0, 3, 1, [vi (wr (c3 + 1))]⟩ :: R_) := (Mem.front (k := 3) (Mem.front (k := 3) (Mem.front (k := 3) (Mem.front (k := 3) b9 rfl) rfl) rfl) rfl)
      subst hres
      exact rc_retX (.tmp rfl .nil) ⟨a1, a0, Mem.sub d6 (.cons_cons _ (.cons_cons _ (.cons_cons _ (.cons_cons _ (List.Sublist.refl R_))))), a3, a2, a8, a9, rfl⟩
def ME49 (i2_ w2_ i3_ w3_ i4_ w4_ k_ : Nat) (s_ : (List Int) × Int × Int) (L_ : List Ent) : Prop := (∃ aV0_0 : PV, ∃ esV0_0 : List PV, L_ = (⟨.op i2_ w2_ 0, 29, 1, [aV0_0]⟩ :: ⟨aV0_0, 3, 1, esV0_0⟩ :: ⟨.op i3_ w3_ 0, 35, 1, [vi s_.2.1]⟩ :: ⟨.op i4_ w4_ 0, 3, 1, [vi s_.2.2]⟩ :: []) ∧ (All2 tI.R s_.1 esV0_0) ∧ (isL aV0_0 = true) ∧ (s_.1.length ≤ 4611686018427387904) ∧ (Wri aV0_0 esV0_0)) ∧ (s_.1.length + k_ ≤ 1000000)
theorem mono49 (a0 a3 a4 a1 a2 a5 : Nat) : ∀ k_ s_ L_, ME49 a0 a3 a4 a1 a2 a5 (k_ + 1) s_ L_ → ME49 a0 a3 a4 a1 a2 a5 k_ s_ L_ := fun k_ s_ L_ h_ => ⟨h_.1, by have hi_ := h_.2; omega⟩
theorem hv49 {c0 : api_Program} {w0 : PV} {b5 b3 b4 b6 b1 b7 : Nat} (b9 : api_Program.t.R c0 w0) : VIS Try.prog 49 [.fp w0, .op b5 b3 0, .op b4 b6 0, .op b1 b7 0] (fun a_ s_ => control_Check_1 a_ c0 s_.1 s_.2.1 s_.2.2) (ME49 b5 b3 b4 b6 b1 b7) (fun _ => True) := by
  intro k_ a_ va_ s_ L_ R_ h_ hg_ ra_ hE_ M_
  obtain ⟨⟨b2, b0, hL_, a6, a5, a8, a9⟩, hi_⟩ := hE_
  subst hL_
  obtain ⟨r_, b8, hX_, hZ_⟩ := f49_ok (x0 := a_) (c0 := c0) (c1 := s_.1) (c2 := s_.2.1) (c3 := s_.2.2) ra_ b9 a6 a5 a8 a9 M_ (by omega)
  obtain ⟨a7, a0, c4, a2, a3, a4, a1, hr_⟩ := hZ_
  subst hr_
  exact ⟨b8, _, hX_, ⟨⟨a7, a0, rfl, a2, a3, a4, a1⟩, by (have hk := check_step a_ c0 s_.1 s_.2.1 s_.2.2; show (control_Check_1 a_ c0 s_.1 s_.2.1 s_.2.2).2.1.length + k_ ≤ 1000000; omega)⟩, c4⟩

def RF16 (res : Int × Int) (r : PV) : Prop := r = .tup [vi res.1, vi res.2]
theorem f16_ok {x0 : api_Program} {v0 : PV} (r0 : api_Program.t.R x0 v0) (hs : csl x0.Control ≤ 1000) : FnR Try.prog 16 [v0] (.tup [vi ((control_Check x0).1), vi ((control_Check x0).2)]) := by
  refine fnS (R := RF16) text16 (fun _ h => h) rfl fun res hres => ?_
  unfold control_Check at hres
  refine sR ?_
  refine rd_op (ov_box rfl (TR.cnt api_Program.t r0)) ?_
  refine mI rfl ?_
  refine rd_allocO (x := vi 0) (Mem.nil ⟨0, []⟩) rfl rfl (fun a2 a1 f0 b3 => ?_)
  refine nS ?_
  refine rc_seq ?_
  refine sR ?_
  refine gL (api_Program.g_Control r0) rfl rfl rfl fun f5 c6 => ?_
  obtain ⟨f4, c4, hres⟩ := let_ex hres
  have d5 := f20_ok  c6 
  rw [c4] at d5
  refine cL d5 rfl rfl (clL_cons (TR.clo (tSl api_ControlNode.t) c6) clL_nil) ?_
  refine bN i_gtr rfl rfl ?_
  refine nS ?_
  refine rc_br hres rfl ?_ ?_ <;> clear hres <;> intro c hres <;> try simp only [qa, qaD] at c
  · refine sR ?_
    refine mI rfl ?_
    refine rd_storeO (k := 0) (v := vi 12) b3 rfl rfl rfl rfl (fun e2 b5 => ?_)
    replace b5 : Mem e2 [⟨.op a2 a1 0, 35, 1, [vi 12]⟩] := b5
    refine nS ?_
    subst hres
    exact rc_retV (.tmp rfl (.cell rfl (load_whole (k := 0) b5 rfl rfl) .nil)) (deep_closed (show closed (.tup _) = true from (clL_cons rfl (clL_cons rfl clL_nil)))) rfl
  · refine rc_skip ?_
    refine pn_seq ?_
    refine rc_seq ?_
    refine sR ?_
    refine gL (api_Program.g_Control r0) rfl rfl rfl fun f3 c9 => ?_
    obtain ⟨f2, c8, hres⟩ := let_ex hres
    have c5 := f22_ok  c9 
    rw [c8] at c5
    refine cL c5 rfl rfl (clL_cons (TR.clo (tSl api_ControlNode.t) c9) clL_nil) ?_
    refine bN i_gtr rfl rfl ?_
    refine nS ?_
    refine rc_br hres rfl ?_ ?_ <;> clear hres <;> intro c hres <;> try simp only [qa, qaD] at c
    · refine sR ?_
      refine mI rfl ?_
      refine rd_storeO (k := 0) (v := vi 14) b3 rfl rfl rfl rfl (fun d9 b1 => ?_)
      replace b1 : Mem d9 [⟨.op a2 a1 0, 35, 1, [vi 14]⟩] := b1
      refine nS ?_
      subst hres
      exact rc_retV (.tmp rfl (.cell rfl (load_whole (k := 0) b1 rfl rfl) .nil)) (deep_closed (show closed (.tup _) = true from (clL_cons rfl (clL_cons rfl clL_nil)))) rfl
    · refine rc_skip ?_
      refine pn_seq ?_
      refine sR ?_
      refine rd_allocO (x := vi 0) b3 rfl rfl (fun a4 a5 e9 d7 => ?_)
      refine rd_storeO (k := 0) (v := vi 0) d7 rfl rfl rfl rfl (fun e4 b2 => ?_)
      replace b2 : Mem e4 [⟨.op a4 a5 0, 3, 1, [vi 0]⟩, ⟨.op a2 a1 0, 35, 1, [vi 0]⟩] := b2
      refine nR ?_
      refine rd_allocO (x := nilS) b2 rfl rfl (fun a8 a6 d0 e5 => ?_)
      refine nS ?_
      refine rc_seq ?_
      refine rc_regionS ?_
      refine rs_step ?_
      obtain ⟨d8, e6, c7⟩ := api_Program.g_Control r0
      refine fA rfl e6 ?_
      refine rs_back ?_
      refine rs_step ?_
      refine lD c7 rfl rfl rfl ?_
      refine rs_back ?_
      refine rs_step ?_
      refine rd_op (v := .fn (.func 49) [] [.fp v0, .op a8 a6 0, .op a2 a1 0, .op a4 a5 0]) (ov_mkFunc rfl rfl) ?_
      refine rs_back ?_
      have e3 := mem_acc (sz := 1) (es := []) e5 3 (.inl ⟨none, rfl, rfl⟩) (by simp)
      have e1 : Mem d0 [⟨.op a8 a6 0, 29, 1, [nilS]⟩, ⟨nilS, 3, 1, ([] : List PV)⟩, ⟨.op a2 a1 0, 35, 1, [vi 0]⟩, ⟨.op a4 a5 0, 3, 1, [vi 0]⟩] := (Mem.front (k := 3) (Mem.front (k := 2) (Mem.front (k := 3) (Mem.front (k := 2) e3 rfl) rfl) rfl) rfl)
      obtain ⟨a9, d1, hres⟩ := let_ex hres
      obtain ⟨e7, f1, d4, d2, a7⟩ : ∃ h2 L2, FnX Try.prog 48 [d8, .fn (.func 49) [] [.fp v0, .op a8 a6 0, .op a2 a1 0, .op a4 a5 0]] d0 (vb a9.1) h2 ∧ ME49 a8 a6 a2 a1 a4 a5 0 a9.2 L2 ∧ Mem h2 (L2 ++ []) := by
        rw [← d1]
        exact f48_pre (mono49 a8 a6 a2 a1 a4 a5) (hv49 (c0 := x0) r0 ) _ _ (Nat.lt_succ_self _) (by exact fun _ _ => trivial) 0 _ (([] : List Int), 0, 0) [⟨.op a8 a6 0, 29, 1, [nilS]⟩, ⟨nilS, 3, 1, ([] : List PV)⟩, ⟨.op a2 a1 0, 35, 1, [vi 0]⟩, ⟨.op a4 a5 0, 3, 1, [vi 0]⟩] [] _ c7 (show ME49 a8 a6 a2 a1 a4 a5 (csl x0.Control + 0) (([] : List Int), 0, 0) [⟨.op a8 a6 0, 29, 1, [nilS]⟩, ⟨nilS, 3, 1, ([] : List PV)⟩, ⟨.op a2 a1 0, 35, 1, [vi 0]⟩, ⟨.op a4 a5 0, 3, 1, [vi 0]⟩] from ⟨⟨nilS, ([] : List PV), rfl, (show All2 tI.R ([] : List Int) [] from trivial), rfl, (by first | decide | simp), (.inl rfl)⟩, by (simp; omega)⟩) e1
      obtain ⟨⟨a0, a3, d3, b8, b9, b6, b7⟩, e8⟩ := d2
      subst d3
      replace a7 : Mem e7 [⟨.op a8 a6 0, 29, 1, [a0]⟩, ⟨a0, 3, 1, a3⟩, ⟨.op a2 a1 0, 35, 1, [vi a9.2.2.1]⟩, ⟨.op a4 a5 0, 3, 1, [vi a9.2.2.2]⟩] := a7
      refine rs_callX rfl rfl d4 ?_
      refine rs_nil ?_
      refine pn_seq ?_
      refine rc_seq ?_
      refine sR ?_
      refine rd_op (ov_load0 (k := 2) a7 rfl rfl rfl) ?_
      refine bN i_neq rfl rfl ?_
      refine nS ?_
      refine rc_br hres rfl ?_ ?_ <;> clear hres <;> intro c hres <;> try simp only [qa, qaD] at c
      · refine sR ?_
        refine rd_op (ov_load0 (k := 3) a7 rfl rfl rfl) ?_
        refine rd_op (ov_load0 (k := 2) a7 rfl rfl rfl) ?_
        refine mV rfl ?_
        refine rd_storeO (k := 2) (v := vi a9.2.2.1) a7 rfl rfl rfl rfl (fun d6 b0 => ?_)
        replace b0 : Mem d6 [⟨.op a8 a6 0, 29, 1, [a0]⟩, ⟨a0, 3, 1, a3⟩, ⟨.op a2 a1 0, 35, 1, [vi a9.2.2.1]⟩, ⟨.op a4 a5 0, 3, 1, [vi a9.2.2.2]⟩] := b0
        refine nS ?_
        subst hres
        exact rc_retV (.tmp rfl (.cell rfl (load_whole (k := 2) b0 rfl rfl) .nil)) (deep_closed (show closed (.tup _) = true from (clL_cons rfl (clL_cons rfl clL_nil)))) rfl
      · refine rc_skip ?_
        refine pn_seq ?_
        refine sR ?_
        refine mI rfl ?_
        refine rd_storeO (k := 2) (v := vi 0) a7 rfl rfl rfl rfl (fun e0 b4 => ?_)
        replace b4 : Mem e0 [⟨.op a8 a6 0, 29, 1, [a0]⟩, ⟨a0, 3, 1, a3⟩, ⟨.op a2 a1 0, 35, 1, [vi 0]⟩, ⟨.op a4 a5 0, 3, 1, [vi a9.2.2.2]⟩] := b4
        refine nS ?_
        subst hres
        exact rc_retV (.tmp rfl (.cell rfl (load_whole (k := 2) b4 rfl rfl) .nil)) (deep_closed (show closed (.tup _) = true from (clL_cons rfl (clL_cons rfl clL_nil)))) rfl

def RF66 (res : (List api_Guard)) (r : PV) : Prop := (tSl api_Guard.t).R res r
theorem f66_ok {x0 : Bool} {c0 : List api_Guard} {c1 : Int} {w0 : PV} (d0 : (tSl api_Guard.t).R c0 w0) (hb : c0.length ≤ 1000) : ∃ r, FnR Try.prog 66 [vb x0, .fp w0, .fp (vi c1)] r ∧ (tSl api_Guard.t).R (units_Build_1_1 x0 c0 c1) r := by
  refine fnT (R := RF66) text66 rfl fun res hres => ?_
  unfold units_Build_1_1 at hres
  refine sR ?_
  refine rd_op (v := nilS) (ov_move rfl) ?_
  refine nS ?_
  refine rc_seq ?_
  refine rc_regionU ?_
  refine rx_step ?_
  refine lD d0 rfl rfl rfl ?_
  refine rx_back ?_
  have c4 : Mem ⟨0, []⟩ [] := (Mem.nil ⟨0, []⟩)
  obtain ⟨b3, a8, hres⟩ := let_ex hres
  obtain ⟨c9, b7, b0, a6⟩ := f64x_ok (x0 := c0) d0 c4 (by first | assumption | omega)
  rw [a8] at a6
  obtain ⟨b6, a0, c7, a1, a5, b5, a4, a3⟩ := a6
  replace a3 := a3.symm; subst a3
  refine rx_callXc rfl rfl b0 ?_
  have d2 := cg_use a8
  refine rx_step ?_
  refine lR rfl rfl rfl ?_
  refine rx_back ?_
  refine rx_step ?_
  refine mV rfl ?_
  refine rx_back ?_
  refine rx_step ?_
  refine rd_op (v := .agg [vi c1, vb x0]) (ov_build (cs := [vi c1, vb x0]) rfl rfl) ?_
  refine rx_back ?_
  refine rx_step ?_
  refine rd_op (v := .fs true [.agg [vi c1, vb x0]]) (ov_bslice rfl (all_cons rfl all_nil)) ?_
  have c8 : (tSl api_Guard.t).R ([({ Unit := c1, Want := x0 } : api_Guard)] : List api_Guard) (.fs true [.agg [vi c1, vb x0]]) := sl_fs ⟨rfl, trivial⟩ (by simp)
  refine rx_back ?_
  refine rx_step ?_
  obtain ⟨a2, b2, a7⟩ := src_of (t := api_Guard.t) (h := b7) c8
  have a9 : fits (a0.length + a2.length) 16 = true := by rw [All2.length_eq a1, All2.length_eq a7]; (try simp only [List.length_cons, List.length_nil]); exact fits_of (by first | omega | (simp only [List.length_append, List.length_cons, List.length_nil] at *; omega)) (by first | omega | (simp only [List.length_append, List.length_cons, List.length_nil] at *; omega))
  refine rd_appW (k := 0) (es := a0) (news := a2) c7 rfl rfl rfl a5 a4 b2 a9 (fun d3 d4 b8 d1 c5 => ?_)
  have b1 : All2 api_Guard.t.R (b3 ++ ([({ Unit := c1, Want := x0 } : api_Guard)] : List api_Guard)) (a0 ++ a2) := All2.app a1 a7
  have b4 : (b3 ++ ([({ Unit := c1, Want := x0 } : api_Guard)] : List api_Guard)).length ≤ 4611686018427387904 := by rw [← All2.length_eq b1, List.length_append]; exact fits_len a9
  refine rx_back ?_
  refine rx_step ?_
  refine mV rfl ?_
  refine rx_back ?_
  refine rx_nil ?_
  refine pn_seq ?_
  obtain ⟨d5, c6, b9⟩ := own_sl (P := Try.prog) (k := 0) (t := api_Guard.t) c5 rfl b8 b1 (Nat.le_trans b4 (by decide))
  subst hres
  exact rc_retV (.tmp rfl .nil) c6 b9

def RF63 (i2_ w2_ i3_ w3_ : Nat) (R_ : List Ent) (res : (List api_Unit)) (r : PV) (h : Heap) : Prop := ∃ aF0_0 : PV, ∃ esF0_0 : List PV, Mem h (⟨.op i2_ w2_ 0, 48, 1, [aF0_0]⟩ :: ⟨aF0_0, 58, 3, esF0_0⟩ :: ⟨.op i3_ w3_ 0, 102, 1, [.fn (.func 63) [] [.op i2_ w2_ 0, .op i3_ w3_ 0]]⟩ :: R_) ∧ (All2 api_Unit.t.R res esF0_0) ∧ (isL aF0_0 = true) ∧ (res.length ≤ 4611686018427387904) ∧ (Wri aF0_0 esF0_0) ∧ r = .tup []
theorem units_Build_1_L1_ok {S : List Fr} {res : (List api_Unit)} {x0 : List api_ControlNode} {x1 : List api_Guard} {c0 : List api_Unit} {rec_ : (List api_ControlNode) → (List api_Guard) → (List api_Unit) → (List api_Unit)} {mu_ : Nat} {v0 v1 : PV} {R_ : List Ent} {b9 : PV} {c4 : List PV} {a9 a8 b0 a7 : Nat} (r0 : (tSl api_ControlNode.t).R x0 v0) (r1 : (tSl api_Guard.t).R x1 v1) (i8 : isL b9 = true) (i7 : c0.length ≤ 4611686018427387904) (i3 : Wri b9 c4) (gl : GU x0) (hc : c0.length + csl x0 ≤ 1000) (hg : x1.length + csl x0 ≤ 1000) (ihR : ∀ {z0 : List api_ControlNode} {z1 : List api_Guard} {zc0 : List api_Unit} {r2 r8 b9 : PV} {c4 : List PV} {R_ : List Ent} {h_ : Heap} {a9 a8 b0 a7 : Nat} (u0 : (tSl api_ControlNode.t).R z0 r2) (u1 : (tSl api_Guard.t).R z1 r8) (m5 : All2 api_Unit.t.R zc0 c4) (i8 : isL b9 = true) (i7 : zc0.length ≤ 4611686018427387904) (i3 : Wri b9 c4) (M_ : Mem h_ (⟨.op a9 a8 0, 48, 1, [b9]⟩ :: ⟨b9, 58, 3, c4⟩ :: ⟨.op b0 a7 0, 102, 1, [.fn (.func 63) [] [.op a9 a8 0, .op b0 a7 0]]⟩ :: R_)) (gl : GU z0) (hc : zc0.length + csl z0 ≤ 1000) (hg : z1.length + csl z0 ≤ 1000), csl z0 < mu_ → ∃ r q7, FnX Try.prog 63 [r2, r8, .op a9 a8 0, .op b0 a7 0] h_ r q7 ∧ RF63 a9 a8 b0 a7 R_ (rec_ z0 z1 zc0) r q7) (hmu : mu_ = csl x0) (hrec : ∀ z0 z1 z2, (rec_ z0 z1 z2).length ≤ z2.length + csl z0) {K0 : (List api_Unit) → (List api_Unit)}
    (s7 : ∀ {a1 : List api_Unit} {a2 : List PV} {a3 : PV} (b5 : All2 api_Unit.t.R a1 a2) (b2 : isL a3 = true) (b6 : Wri a3 a2) (c8 : a1.length ≤ 4611686018427387904) {h : Heap} (M0 : Mem h (⟨.op a9 a8 0, 48, 1, [a3]⟩ :: ⟨a3, 58, 3, a2⟩ :: ⟨.op b0 a7 0, 102, 1, [.fn (.func 63) [] [.op a9 a8 0, .op b0 a7 0]]⟩ :: R_)), K0 a1 = res → PX Try.prog 0 S (retPost Try.prog [] (RF63 a9 a8 b0 a7 R_ res)) [] h) :
    ∀ {m : Nat} {a0 : Int} {a1 : List api_Unit} {a2 : List PV} {a3 : PV} (b5 : All2 api_Unit.t.R a1 a2) (b2 : isL a3 = true) (b6 : Wri a3 a2) (c8 : a1.length ≤ 4611686018427387904) (r7 : m = Int.toNat ((x0.length : Int) - a0)) (j4 : 0 ≤ a0) (h0 : a1.length + csl (x0.drop a0.toNat) ≤ c0.length + csl x0) {h : Heap} (M0 : Mem h (⟨.op a9 a8 0, 48, 1, [a3]⟩ :: ⟨a3, 58, 3, a2⟩ :: ⟨.op b0 a7 0, 102, 1, [.fn (.func 63) [] [.op a9 a8 0, .op b0 a7 0]]⟩ :: R_)), units_Build_1_L1 x0 x1 rec_ K0 m a0 a1 = res → RC Try.prog (.loop ac63_L1) S (retPost Try.prog [] (RF63 a9 a8 b0 a7 R_ res)) [(13, vi a0), (12, vi (x0.length : Int)), (11, v0), (5, .fp v1), (3, .op b0 a7 0), (2, .op a9 a8 0)] h := by
  have hc' := hc
  try simp only [qa, qaD] at hc'
  intro m
  induction m with
  | zero =>
    intro a0 a1 a2 a3 b5 b2 b6 c8 r7 j4 h0 h M0 hres
    rw [units_Build_1_L1] at hres
    refine rc_loop ?_
    refine sR ?_
    refine bN i_lss rfl rfl ?_
    refine nS ?_
    refine rc_seq ?_
    refine rc_cond rfl ?_ ?_ <;> intro c <;> try simp only [qa, qaD] at c
    · omega
    refine rc_exit ?_
    refine px_seq ?_
    refine px_again ?_
    exact wP (s7 b5 b2 b6 c8 (Mem.sub M0 (.cons_cons _ (.cons_cons _ (.cons_cons _ (List.Sublist.refl R_))))) hres) rfl
  | succ m ih =>
    intro a0 a1 a2 a3 b5 b2 b6 c8 r7 j4 h0 h M0 hres
    rw [units_Build_1_L1] at hres
    refine rc_loop ?_
    refine sR ?_
    refine bN i_lss rfl rfl ?_
    refine nS ?_
    refine rc_seq ?_
    refine rc_cond rfl ?_ ?_ <;> intro c <;> try simp only [qa, qaD] at c
    rotate_left
    · omega
    refine rc_skip ?_
    refine pn_seq ?_
    refine rc_seq ?_
    refine rc_block ?_
    refine sR ?_
    obtain ⟨b1, n4, c7⟩ := sl_idx (i := a0) r0 (by omega) (by omega)
    refine rd_op (ov_iaddr rfl rfl n4) ?_
    refine lD c7 rfl rfl rfl ?_
    refine rd_allocO (x := .agg [vi 0, vi 0, nilS, nilS, nilS]) M0 rfl rfl (fun a5 a6 t1 p2 => ?_)
    refine rd_storeO (k := 0) (v := b1) p2 rfl rfl rfl (TR.cnt api_ControlNode.t c7) (fun q0 g4 => ?_)
    replace g4 : Mem q0 (⟨.op a5 a6 0, 40, 5, [b1]⟩ :: ⟨.op a9 a8 0, 48, 1, [a3]⟩ :: ⟨a3, 58, 3, a2⟩ :: ⟨.op b0 a7 0, 102, 1, [.fn (.func 63) [] [.op a9 a8 0, .op b0 a7 0]]⟩ :: R_) := g4
    refine nR ?_
    refine rd_op (ov_faddrO rfl) ?_
    refine rd_op (ov_loadf (k := 0) g4 rfl rfl (api_ControlNode.g_Table c7)) ?_
    refine lD r1 rfl rfl rfl ?_
    obtain ⟨d3, h9, hres⟩ := let_ex hres
    obtain ⟨a4, o1, f7⟩ := f64_ok  r1 (by first | omega | exact gu_cond gl (by omega) (by omega) | exact gu_then gl (by omega) (by omega) | exact gu_else gl (by omega) (by omega) | (have hk := csl_drop (l := x0) (i := a0) (by omega) (by omega); have b8 := csl_ix (l := x0) (i := a0) (by omega) (by omega); (try simp only [ub11_len, under_len, List.length_append, List.length_cons, List.length_nil] at *); omega))
    rw [h9] at f7
    have q8 := cg_use h9
    refine cL o1 rfl rfl (clL_cons (TR.clo (tSl api_Guard.t) r1) clL_nil) ?_
    refine rd_op (v := .agg [vi ((ix x0 a0).Table), nilS, a4]) (ov_build (cs := [vi ((ix x0 a0).Table), nilS, a4]) rfl (by simp only [buildV, cells_one (TR.cnt (tSl api_Guard.t) f7) (TR.agg (tSl api_Guard.t) f7)]; rfl)) ?_
    refine rd_allocO (x := .agg [vi 0, nilS, nilS]) g4 rfl rfl (fun b3 b4 s6 n9 => ?_)
    refine rd_storeO (k := 0) (v := .agg [vi ((ix x0 a0).Table), nilS, a4]) n9 rfl rfl rfl rfl (fun p5 c9 => ?_)
    replace c9 : Mem p5 (⟨.op b3 b4 0, 58, 3, [.agg [vi ((ix x0 a0).Table), nilS, a4]]⟩ :: ⟨.op a5 a6 0, 40, 5, [b1]⟩ :: ⟨.op a9 a8 0, 48, 1, [a3]⟩ :: ⟨a3, 58, 3, a2⟩ :: ⟨.op b0 a7 0, 102, 1, [.fn (.func 63) [] [.op a9 a8 0, .op b0 a7 0]]⟩ :: R_) := c9
    refine nS ?_
    refine rc_seq ?_
    refine sR ?_
    refine rd_op (ov_faddrO rfl) ?_
    refine rd_op (ov_loadf (k := 1) c9 rfl rfl (api_ControlNode.g_Kind c7)) ?_
    refine bN i_eql rfl rfl ?_
    refine nS ?_
    refine rc_br hres rfl ?_ ?_ <;> clear hres <;> intro c hres <;> try simp only [qa, qaD] at c
    · refine sR ?_
      refine rd_op (ov_faddrO rfl) ?_
      refine rd_storeF (k := 0) (v := vi (-1)) c9 rfl rfl rfl rfl rfl (by first | decide | (simp only [List.length_cons, List.length_nil]; omega) | simp) (fun o8 g5 => ?_)
      replace g5 : Mem o8 (⟨.op b3 b4 0, 58, 3, [.agg [vi (-1), nilS, a4]]⟩ :: ⟨.op a5 a6 0, 40, 5, [b1]⟩ :: ⟨.op a9 a8 0, 48, 1, [a3]⟩ :: ⟨a3, 58, 3, a2⟩ :: ⟨.op b0 a7 0, 102, 1, [.fn (.func 63) [] [.op a9 a8 0, .op b0 a7 0]]⟩ :: R_) := g5
      refine nS ?_
      refine rc_region ?_
      refine rd_op (ov_faddrO rfl) ?_
      obtain ⟨n6, p7, l4⟩ := api_ControlNode.g_Cond c7
      refine rd_op (ov_loadf (k := 1) g5 rfl rfl p7) ?_
      obtain ⟨g6, g9, hres⟩ := let_ex hres
      obtain ⟨b7, n7, g3⟩ := f65_ok  l4 (by first | omega | exact gu_cond gl (by omega) (by omega) | exact gu_then gl (by omega) (by omega) | exact gu_else gl (by omega) (by omega) | (have hk := csl_drop (l := x0) (i := a0) (by omega) (by omega); have b8 := csl_ix (l := x0) (i := a0) (by omega) (by omega); (try simp only [ub11_len, under_len, List.length_append, List.length_cons, List.length_nil] at *); omega))
      rw [g9] at g3
      have r5 := ce_use g9
      refine cL n7 rfl rfl (clL_cons (TR.clo (tSl api_ExprNode.t) l4) clL_nil) ?_
      refine rd_op (ov_faddrO rfl) ?_
      refine rd_storeF (k := 0) (v := b7) g5 rfl rfl rfl (cells_one (TR.cnt (tSl api_ExprNode.t) g3) (TR.agg (tSl api_ExprNode.t) g3)) rfl (by first | decide | (simp only [List.length_cons, List.length_nil]; omega) | simp) (fun p6 f1 => ?_)
      replace f1 : Mem p6 (⟨.op b3 b4 0, 58, 3, [.agg [vi (-1), b7, a4]]⟩ :: ⟨.op a5 a6 0, 40, 5, [b1]⟩ :: ⟨.op a9 a8 0, 48, 1, [a3]⟩ :: ⟨a3, 58, 3, a2⟩ :: ⟨.op b0 a7 0, 102, 1, [.fn (.func 63) [] [.op a9 a8 0, .op b0 a7 0]]⟩ :: R_) := f1
      refine nR ?_
      refine rd_op (ov_load0 (k := 2) f1 rfl rfl (mem_one (k := 3) f1 rfl b2).2) ?_
      refine rd_op (ov_bi rfl (own_len (k := 3) f1 rfl Try.underlying48 b2 b5 _)) ?_
      refine rd_allocO (x := vi 0) f1 rfl rfl (fun l5 k6 t2 n0 => ?_)
      refine rd_storeO (k := 0) (v := vi (a1.length : Int)) n0 rfl rfl rfl rfl (fun k8 d7 => ?_)
      replace d7 : Mem k8 (⟨.op l5 k6 0, 3, 1, [vi (a1.length : Int)]⟩ :: ⟨.op b3 b4 0, 58, 3, [.agg [vi (-1), b7, a4]]⟩ :: ⟨.op a5 a6 0, 40, 5, [b1]⟩ :: ⟨.op a9 a8 0, 48, 1, [a3]⟩ :: ⟨a3, 58, 3, a2⟩ :: ⟨.op b0 a7 0, 102, 1, [.fn (.func 63) [] [.op a9 a8 0, .op b0 a7 0]]⟩ :: R_) := d7
      refine nS ?_
      refine rc_seq ?_
      refine rc_regionS ?_
      refine rs_step ?_
      refine rd_op (ov_load0 (k := 3) d7 rfl rfl (mem_one (k := 4) d7 rfl b2).2) ?_
      refine rs_back ?_
      refine rs_step ?_
      refine rd_op (ov_load0 (k := 1) d7 rfl rfl rfl) ?_
      refine rs_back ?_
      refine rs_step ?_
      refine rd_op (v := .fs true [.agg [vi (-1), b7, a4]]) (ov_bslice rfl (all_cons rfl all_nil)) ?_
      have m6 : (tSl api_Unit.t).R ([({ Table := (-1), Cond := g6, Guards := d3 } : api_Unit)] : List api_Unit) (.fs true [.agg [vi (-1), b7, a4]]) := sl_fs ⟨⟨b7, a4, rfl, g3, f7⟩, trivial⟩ (by simp)
      refine rs_back ?_
      refine rs_step ?_
      obtain ⟨c5, l7, h3⟩ := src_of (t := api_Unit.t) (h := k8) m6
      have k5 : fits (a2.length + c5.length) 56 = true := by rw [All2.length_eq b5, All2.length_eq h3]; (try simp only [List.length_cons, List.length_nil]); exact fits_of (by first | omega | (have hk := csl_drop (l := x0) (i := a0) (by omega) (by omega); have b8 := csl_ix (l := x0) (i := a0) (by omega) (by omega); (try simp only [ub11_len, under_len, List.length_append, List.length_cons, List.length_nil] at *); omega)) (by first | omega | (have hk := csl_drop (l := x0) (i := a0) (by omega) (by omega); have b8 := csl_ix (l := x0) (i := a0) (by omega) (by omega); (try simp only [ub11_len, under_len, List.length_append, List.length_cons, List.length_nil] at *); omega))
      refine rd_appW (k := 4) (es := a2) (news := c5) d7 rfl rfl rfl b2 b6 l7 k5 (fun d2 t6 j2 k0 m2 => ?_)
      have k3 : All2 api_Unit.t.R (a1 ++ ([({ Table := (-1), Cond := g6, Guards := d3 } : api_Unit)] : List api_Unit)) (a2 ++ c5) := All2.app b5 h3
      have j7 : (a1 ++ ([({ Table := (-1), Cond := g6, Guards := d3 } : api_Unit)] : List api_Unit)).length ≤ 4611686018427387904 := by rw [← All2.length_eq k3, List.length_append]; exact fits_len k5
      refine rs_back ?_
      refine rs_step ?_
      refine rd_storeO (k := 3) (v := d2) m2 rfl rfl rfl (mem_cnt1 (k := 4) m2 rfl j2) (fun q2 i6 => ?_)
      replace i6 : Mem q2 (⟨.op l5 k6 0, 3, 1, [vi (a1.length : Int)]⟩ :: ⟨.op b3 b4 0, 58, 3, [.agg [vi (-1), b7, a4]]⟩ :: ⟨.op a5 a6 0, 40, 5, [b1]⟩ :: ⟨.op a9 a8 0, 48, 1, [d2]⟩ :: ⟨d2, 58, 3, (a2 ++ c5)⟩ :: ⟨.op b0 a7 0, 102, 1, [.fn (.func 63) [] [.op a9 a8 0, .op b0 a7 0]]⟩ :: R_) := i6
      refine rs_back ?_
      refine rs_freezeP (k := 0) (E' := [(35, d2), (34, .fs true [.agg [vi (-1), b7, a4]]), (33, .agg [vi (-1), b7, a4]), (32, a3), (9, .fp (vi (a1.length : Int))), (31, vi (a1.length : Int)), (30, a3), (29, .op b3 b4 (0 + 1)), (28, b7), (27, n6), (26, .op a5 a6 (0 + 2)), (25, .op b3 b4 (0 + 0)), (24, vb (decide (((ix x0 a0).Kind) = 2))), (23, vi ((ix x0 a0).Kind)), (22, .op a5 a6 (0 + 0)), (8, .op b3 b4 0), (21, .agg [vi ((ix x0 a0).Table), nilS, a4]), (20, a4), (19, v1), (18, vi ((ix x0 a0).Table)), (17, .op a5 a6 (0 + 1)), (7, .op a5 a6 0), (16, b1), (15, .fp b1), (14, vb (decide (a0 < (x0.length : Int)))), (13, vi a0), (12, vi (x0.length : Int)), (11, v0), (5, .fp v1), (3, .op b0 a7 0), (2, .op a9 a8 0)]) i6 rfl (frz_keep rfl (frz_keep rfl (frz_keep rfl (frz_keep rfl (frz_turn rfl (frz_keep rfl (frz_keep rfl (frz_keep rfl (frz_keep rfl (frz_keep rfl (frz_keep rfl (frz_keep rfl (frz_keep rfl (frz_keep rfl (frz_keep rfl (frz_keep rfl (frz_keep rfl (frz_keep rfl (frz_keep rfl (frz_keep rfl (frz_keep rfl (frz_keep rfl (frz_keep rfl (frz_keep rfl (frz_keep rfl (frz_keep rfl (frz_keep rfl (frz_keep rfl (frz_keep rfl (frz_keep rfl (frz_keep rfl frz_nil))))))))))))))))))))))))))))))) (fun m0 g2 => ?_)
      replace g2 : Mem m0 (⟨.op b3 b4 0, 58, 3, [.agg [vi (-1), b7, a4]]⟩ :: ⟨.op a5 a6 0, 40, 5, [b1]⟩ :: ⟨.op a9 a8 0, 48, 1, [d2]⟩ :: ⟨d2, 58, 3, (a2 ++ c5)⟩ :: ⟨.op b0 a7 0, 102, 1, [.fn (.func 63) [] [.op a9 a8 0, .op b0 a7 0]]⟩ :: R_) := g2
      refine rs_nil ?_
      refine pn_seq ?_
      refine sR ?_
      have l6 : (tFn Try.prog tB (tSl api_Guard.t)).R (fun a_ => units_Build_1_1 a_ x1 (a1.length : Int)) (.fn (.func 66) [] [.fp v1, .fp (vi (a1.length : Int))]) := tFn_ofC (clL_cons (clo_fp (TR.clo (tSl api_Guard.t) r1)) (clL_cons rfl clL_nil)) fun a va ra => by obtain rfl := ra; obtain ⟨r, h1, h2⟩ := f66_ok (c1 := (a1.length : Int)) r1 (by first | omega | exact gu_cond gl (by omega) (by omega) | exact gu_then gl (by omega) (by omega) | exact gu_else gl (by omega) (by omega) | (have hk := csl_drop (l := x0) (i := a0) (by omega) (by omega); have b8 := csl_ix (l := x0) (i := a0) (by omega) (by omega); (try simp only [ub11_len, under_len, List.length_append, List.length_cons, List.length_nil] at *); omega)); exact ⟨r, h1, h2⟩
      refine rd_op (v := .fn (.func 66) [] [.fp v1, .fp (vi (a1.length : Int))]) (ov_mkFunc rfl rfl) ?_
      refine mV rfl ?_
      refine nS ?_
      refine rc_seq ?_
      refine rc_regionT ?_
      refine rd_op (ov_load0 (k := 4) g2 rfl rfl rfl) ?_
      refine rd_op (ov_faddrO rfl) ?_
      obtain ⟨t3, q3, p3⟩ := api_ControlNode.g_Then c7
      refine rd_op (ov_loadf (k := 1) g2 rfl rfl q3) ?_
      refine mV rfl ?_
      refine rd_callF rfl l6 rfl (show tB.R true (vb true) from rfl) (fun s3 m8 => ?_)
      refine rd_nil (pn_lastS ?_)
      have n5 : Mem m0 (⟨.op a9 a8 0, 48, 1, [d2]⟩ :: ⟨d2, 58, 3, (a2 ++ c5)⟩ :: ⟨.op b0 a7 0, 102, 1, [.fn (.func 63) [] [.op a9 a8 0, .op b0 a7 0]]⟩ :: ⟨.op b3 b4 0, 58, 3, [.agg [vi (-1), b7, a4]]⟩ :: ⟨.op a5 a6 0, 40, 5, [b1]⟩ :: R_) := (Mem.front (k := 4) (Mem.front (k := 4) (Mem.front (k := 4) g2 rfl) rfl) rfl)
      obtain ⟨m7, g8, hres⟩ := let_ex hres
      obtain ⟨r3, o3, l0, h7⟩ := ihR (z0 := ((ix x0 a0).Then)) (z1 := ((fun a_ => units_Build_1_1 a_ x1 (a1.length : Int)) true)) (zc0 := (a1 ++ ([({ Table := (-1), Cond := g6, Guards := d3 } : api_Unit)] : List api_Unit))) p3 m8 k3 j2 j7 k0 n5 (by first | omega | exact gu_cond gl (by omega) (by omega) | exact gu_then gl (by omega) (by omega) | exact gu_else gl (by omega) (by omega) | (have hk := csl_drop (l := x0) (i := a0) (by omega) (by omega); have b8 := csl_ix (l := x0) (i := a0) (by omega) (by omega); (try simp only [ub11_len, under_len, List.length_append, List.length_cons, List.length_nil] at *); omega)) (by first | omega | exact gu_cond gl (by omega) (by omega) | exact gu_then gl (by omega) (by omega) | exact gu_else gl (by omega) (by omega) | (have hk := csl_drop (l := x0) (i := a0) (by omega) (by omega); have b8 := csl_ix (l := x0) (i := a0) (by omega) (by omega); (try simp only [ub11_len, under_len, List.length_append, List.length_cons, List.length_nil] at *); omega)) (by first | omega | exact gu_cond gl (by omega) (by omega) | exact gu_then gl (by omega) (by omega) | exact gu_else gl (by omega) (by omega) | (have hk := csl_drop (l := x0) (i := a0) (by omega) (by omega); have b8 := csl_ix (l := x0) (i := a0) (by omega) (by omega); (try simp only [ub11_len, under_len, List.length_append, List.length_cons, List.length_nil] at *); omega)) (by first | omega | (have hk := csl_drop (l := x0) (i := a0) (by omega) (by omega); have b8 := csl_ix (l := x0) (i := a0) (by omega) (by omega); (try simp only [ub11_len, under_len, List.length_append, List.length_cons, List.length_nil] at *); omega))
      rw [g8] at h7
      obtain ⟨d0, e8, i4, e0, e5, f2, e2, g0⟩ := h7
      replace g0 := g0.symm; subst g0
      refine rs_callXc rfl rfl l0 ?_
      have q5 := bl_use hrec g8
      refine rs_nil ?_
      refine pn_seq ?_
      refine rc_regionT ?_
      refine rd_op (ov_load0 (k := 2) i4 rfl rfl rfl) ?_
      refine rd_op (ov_faddrO rfl) ?_
      obtain ⟨s5, o2, o6⟩ := api_ControlNode.g_Else c7
      refine rd_op (ov_loadf (k := 4) i4 rfl rfl o2) ?_
      refine mV rfl ?_
      refine rd_callF rfl l6 rfl (show tB.R false (vb false) from rfl) (fun s1 n2 => ?_)
      refine rd_nil (pn_lastS ?_)
      have p9 : Mem o3 (⟨.op a9 a8 0, 48, 1, [d0]⟩ :: ⟨d0, 58, 3, e8⟩ :: ⟨.op b0 a7 0, 102, 1, [.fn (.func 63) [] [.op a9 a8 0, .op b0 a7 0]]⟩ :: ⟨.op b3 b4 0, 58, 3, [.agg [vi (-1), b7, a4]]⟩ :: ⟨.op a5 a6 0, 40, 5, [b1]⟩ :: R_) := (Mem.front (k := 2) (Mem.front (k := 2) (Mem.front (k := 2) i4 rfl) rfl) rfl)
      obtain ⟨s8, g7, hres⟩ := let_ex hres
      obtain ⟨r6, t8, m4, h8⟩ := ihR (z0 := ((ix x0 a0).Else)) (z1 := ((fun a_ => units_Build_1_1 a_ x1 (a1.length : Int)) false)) (zc0 := m7) o6 n2 e0 e5 f2 e2 p9 (by first | omega | exact gu_cond gl (by omega) (by omega) | exact gu_then gl (by omega) (by omega) | exact gu_else gl (by omega) (by omega) | (have hk := csl_drop (l := x0) (i := a0) (by omega) (by omega); have b8 := csl_ix (l := x0) (i := a0) (by omega) (by omega); (try simp only [ub11_len, under_len, List.length_append, List.length_cons, List.length_nil] at *); omega)) (by first | omega | exact gu_cond gl (by omega) (by omega) | exact gu_then gl (by omega) (by omega) | exact gu_else gl (by omega) (by omega) | (have hk := csl_drop (l := x0) (i := a0) (by omega) (by omega); have b8 := csl_ix (l := x0) (i := a0) (by omega) (by omega); (try simp only [ub11_len, under_len, List.length_append, List.length_cons, List.length_nil] at *); omega)) (by first | omega | exact gu_cond gl (by omega) (by omega) | exact gu_then gl (by omega) (by omega) | exact gu_else gl (by omega) (by omega) | (have hk := csl_drop (l := x0) (i := a0) (by omega) (by omega); have b8 := csl_ix (l := x0) (i := a0) (by omega) (by omega); (try simp only [ub11_len, under_len, List.length_append, List.length_cons, List.length_nil] at *); omega)) (by first | omega | (have hk := csl_drop (l := x0) (i := a0) (by omega) (by omega); have b8 := csl_ix (l := x0) (i := a0) (by omega) (by omega); (try simp only [ub11_len, under_len, List.length_append, List.length_cons, List.length_nil] at *); omega))
      rw [g7] at h8
      obtain ⟨j5, j0, p4, d8, d5, e7, d6, f9⟩ := h8
      replace f9 := f9.symm; subst f9
      refine rs_callXc rfl rfl m4 ?_
      have q9 := bl_use hrec g7
      refine rs_nil ?_
      refine pn_blk ?_
      refine pn_seq ?_
      refine rc_region ?_
      refine bN i_add rfl rfl ?_
      refine mV rfl ?_
      refine rd_nil ?_
      refine pn_again ?_
      have hbd := sl_bound r0
      have hinc : wr (a0 + 1) = a0 + 1 := wr_of (by omega) (by omega)
      erw [hinc]
      exact wC (ih  d8 d5 d6 e7 (by omega) (by omega) (by first | omega | (have hk := csl_drop (l := x0) (i := a0) (by omega) (by omega); have b8 := csl_ix (l := x0) (i := a0) (by omega) (by omega); (try simp only [ub11_len, under_len, List.length_append, List.length_cons, List.length_nil] at *); omega)) (Mem.sub p4 (.cons_cons _ (.cons_cons _ (.cons_cons _ (.cons _ (.cons _ (List.Sublist.refl R_))))))) hres) rfl
    · refine rc_skip ?_
      refine pn_seq ?_
      refine sR ?_
      refine rd_op (ov_load0 (k := 2) c9 rfl rfl (mem_one (k := 3) c9 rfl b2).2) ?_
      refine rd_op (ov_bi rfl (own_len (k := 3) c9 rfl Try.underlying48 b2 b5 _)) ?_
      refine rd_allocO (x := vi 0) c9 rfl rfl (fun j9 l2 t0 o7 => ?_)
      refine rd_storeO (k := 0) (v := vi (a1.length : Int)) o7 rfl rfl rfl rfl (fun l3 e1 => ?_)
      replace e1 : Mem l3 (⟨.op j9 l2 0, 3, 1, [vi (a1.length : Int)]⟩ :: ⟨.op b3 b4 0, 58, 3, [.agg [vi ((ix x0 a0).Table), nilS, a4]]⟩ :: ⟨.op a5 a6 0, 40, 5, [b1]⟩ :: ⟨.op a9 a8 0, 48, 1, [a3]⟩ :: ⟨a3, 58, 3, a2⟩ :: ⟨.op b0 a7 0, 102, 1, [.fn (.func 63) [] [.op a9 a8 0, .op b0 a7 0]]⟩ :: R_) := e1
      refine nS ?_
      refine rc_seq ?_
      refine rc_regionS ?_
      refine rs_step ?_
      refine rd_op (ov_load0 (k := 3) e1 rfl rfl (mem_one (k := 4) e1 rfl b2).2) ?_
      refine rs_back ?_
      refine rs_step ?_
      refine rd_op (ov_load0 (k := 1) e1 rfl rfl rfl) ?_
      refine rs_back ?_
      refine rs_step ?_
      refine rd_op (v := .fs true [.agg [vi ((ix x0 a0).Table), nilS, a4]]) (ov_bslice rfl (all_cons rfl all_nil)) ?_
      have n3 : (tSl api_Unit.t).R ([({ Table := (ix x0 a0).Table, Cond := ([] : List api_ExprNode), Guards := d3 } : api_Unit)] : List api_Unit) (.fs true [.agg [vi ((ix x0 a0).Table), nilS, a4]]) := sl_fs ⟨⟨nilS, a4, rfl, sl_nil, f7⟩, trivial⟩ (by simp)
      refine rs_back ?_
      refine rs_step ?_
      obtain ⟨c6, k7, h5⟩ := src_of (t := api_Unit.t) (h := l3) n3
      have k4 : fits (a2.length + c6.length) 56 = true := by rw [All2.length_eq b5, All2.length_eq h5]; (try simp only [List.length_cons, List.length_nil]); exact fits_of (by first | omega | (have hk := csl_drop (l := x0) (i := a0) (by omega) (by omega); have b8 := csl_ix (l := x0) (i := a0) (by omega) (by omega); (try simp only [ub11_len, under_len, List.length_append, List.length_cons, List.length_nil] at *); omega)) (by first | omega | (have hk := csl_drop (l := x0) (i := a0) (by omega) (by omega); have b8 := csl_ix (l := x0) (i := a0) (by omega) (by omega); (try simp only [ub11_len, under_len, List.length_append, List.length_cons, List.length_nil] at *); omega))
      refine rd_appW (k := 4) (es := a2) (news := c6) e1 rfl rfl rfl b2 b6 k7 k4 (fun d4 t9 j1 k9 m3 => ?_)
      have j8 : All2 api_Unit.t.R (a1 ++ ([({ Table := (ix x0 a0).Table, Cond := ([] : List api_ExprNode), Guards := d3 } : api_Unit)] : List api_Unit)) (a2 ++ c6) := All2.app b5 h5
      have m1 : (a1 ++ ([({ Table := (ix x0 a0).Table, Cond := ([] : List api_ExprNode), Guards := d3 } : api_Unit)] : List api_Unit)).length ≤ 4611686018427387904 := by rw [← All2.length_eq j8, List.length_append]; exact fits_len k4
      refine rs_back ?_
      refine rs_step ?_
      refine rd_storeO (k := 3) (v := d4) m3 rfl rfl rfl (mem_cnt1 (k := 4) m3 rfl j1) (fun p0 i2 => ?_)
      replace i2 : Mem p0 (⟨.op j9 l2 0, 3, 1, [vi (a1.length : Int)]⟩ :: ⟨.op b3 b4 0, 58, 3, [.agg [vi ((ix x0 a0).Table), nilS, a4]]⟩ :: ⟨.op a5 a6 0, 40, 5, [b1]⟩ :: ⟨.op a9 a8 0, 48, 1, [d4]⟩ :: ⟨d4, 58, 3, (a2 ++ c6)⟩ :: ⟨.op b0 a7 0, 102, 1, [.fn (.func 63) [] [.op a9 a8 0, .op b0 a7 0]]⟩ :: R_) := i2
      refine rs_back ?_
      refine rs_freezeP (k := 0) (E' := [(35, d4), (34, .fs true [.agg [vi ((ix x0 a0).Table), nilS, a4]]), (33, .agg [vi ((ix x0 a0).Table), nilS, a4]), (32, a3), (9, .fp (vi (a1.length : Int))), (31, vi (a1.length : Int)), (30, a3), (24, vb (decide (((ix x0 a0).Kind) = 2))), (23, vi ((ix x0 a0).Kind)), (22, .op a5 a6 (0 + 0)), (8, .op b3 b4 0), (21, .agg [vi ((ix x0 a0).Table), nilS, a4]), (20, a4), (19, v1), (18, vi ((ix x0 a0).Table)), (17, .op a5 a6 (0 + 1)), (7, .op a5 a6 0), (16, b1), (15, .fp b1), (14, vb (decide (a0 < (x0.length : Int)))), (13, vi a0), (12, vi (x0.length : Int)), (11, v0), (5, .fp v1), (3, .op b0 a7 0), (2, .op a9 a8 0)]) i2 rfl (frz_keep rfl (frz_keep rfl (frz_keep rfl (frz_keep rfl (frz_turn rfl (frz_keep rfl (frz_keep rfl (frz_keep rfl (frz_keep rfl (frz_keep rfl (frz_keep rfl (frz_keep rfl (frz_keep rfl (frz_keep rfl (frz_keep rfl (frz_keep rfl (frz_keep rfl (frz_keep rfl (frz_keep rfl (frz_keep rfl (frz_keep rfl (frz_keep rfl (frz_keep rfl (frz_keep rfl (frz_keep rfl (frz_keep rfl frz_nil)))))))))))))))))))))))))) (fun j6 g1 => ?_)
      replace g1 : Mem j6 (⟨.op b3 b4 0, 58, 3, [.agg [vi ((ix x0 a0).Table), nilS, a4]]⟩ :: ⟨.op a5 a6 0, 40, 5, [b1]⟩ :: ⟨.op a9 a8 0, 48, 1, [d4]⟩ :: ⟨d4, 58, 3, (a2 ++ c6)⟩ :: ⟨.op b0 a7 0, 102, 1, [.fn (.func 63) [] [.op a9 a8 0, .op b0 a7 0]]⟩ :: R_) := g1
      refine rs_nil ?_
      refine pn_seq ?_
      refine sR ?_
      have j3 : (tFn Try.prog tB (tSl api_Guard.t)).R (fun a_ => units_Build_1_1 a_ x1 (a1.length : Int)) (.fn (.func 66) [] [.fp v1, .fp (vi (a1.length : Int))]) := tFn_ofC (clL_cons (clo_fp (TR.clo (tSl api_Guard.t) r1)) (clL_cons rfl clL_nil)) fun a va ra => by obtain rfl := ra; obtain ⟨r, h1, h2⟩ := f66_ok (c1 := (a1.length : Int)) r1 (by first | omega | exact gu_cond gl (by omega) (by omega) | exact gu_then gl (by omega) (by omega) | exact gu_else gl (by omega) (by omega) | (have hk := csl_drop (l := x0) (i := a0) (by omega) (by omega); have b8 := csl_ix (l := x0) (i := a0) (by omega) (by omega); (try simp only [ub11_len, under_len, List.length_append, List.length_cons, List.length_nil] at *); omega)); exact ⟨r, h1, h2⟩
      refine rd_op (v := .fn (.func 66) [] [.fp v1, .fp (vi (a1.length : Int))]) (ov_mkFunc rfl rfl) ?_
      refine mV rfl ?_
      refine nS ?_
      refine rc_seq ?_
      refine rc_regionT ?_
      refine rd_op (ov_load0 (k := 4) g1 rfl rfl rfl) ?_
      refine rd_op (ov_faddrO rfl) ?_
      obtain ⟨t4, n8, n1⟩ := api_ControlNode.g_Then c7
      refine rd_op (ov_loadf (k := 1) g1 rfl rfl n8) ?_
      refine mV rfl ?_
      refine rd_callF rfl j3 rfl (show tB.R true (vb true) from rfl) (fun t5 o5 => ?_)
      refine rd_nil (pn_lastS ?_)
      have q1 : Mem j6 (⟨.op a9 a8 0, 48, 1, [d4]⟩ :: ⟨d4, 58, 3, (a2 ++ c6)⟩ :: ⟨.op b0 a7 0, 102, 1, [.fn (.func 63) [] [.op a9 a8 0, .op b0 a7 0]]⟩ :: ⟨.op b3 b4 0, 58, 3, [.agg [vi ((ix x0 a0).Table), nilS, a4]]⟩ :: ⟨.op a5 a6 0, 40, 5, [b1]⟩ :: R_) := (Mem.front (k := 4) (Mem.front (k := 4) (Mem.front (k := 4) g1 rfl) rfl) rfl)
      obtain ⟨o4, i1, hres⟩ := let_ex hres
      obtain ⟨s0, o0, l9, i0⟩ := ihR (z0 := ((ix x0 a0).Then)) (z1 := ((fun a_ => units_Build_1_1 a_ x1 (a1.length : Int)) true)) (zc0 := (a1 ++ ([({ Table := (ix x0 a0).Table, Cond := ([] : List api_ExprNode), Guards := d3 } : api_Unit)] : List api_Unit))) n1 o5 j8 j1 m1 k9 q1 (by first | omega | exact gu_cond gl (by omega) (by omega) | exact gu_then gl (by omega) (by omega) | exact gu_else gl (by omega) (by omega) | (have hk := csl_drop (l := x0) (i := a0) (by omega) (by omega); have b8 := csl_ix (l := x0) (i := a0) (by omega) (by omega); (try simp only [ub11_len, under_len, List.length_append, List.length_cons, List.length_nil] at *); omega)) (by first | omega | exact gu_cond gl (by omega) (by omega) | exact gu_then gl (by omega) (by omega) | exact gu_else gl (by omega) (by omega) | (have hk := csl_drop (l := x0) (i := a0) (by omega) (by omega); have b8 := csl_ix (l := x0) (i := a0) (by omega) (by omega); (try simp only [ub11_len, under_len, List.length_append, List.length_cons, List.length_nil] at *); omega)) (by first | omega | exact gu_cond gl (by omega) (by omega) | exact gu_then gl (by omega) (by omega) | exact gu_else gl (by omega) (by omega) | (have hk := csl_drop (l := x0) (i := a0) (by omega) (by omega); have b8 := csl_ix (l := x0) (i := a0) (by omega) (by omega); (try simp only [ub11_len, under_len, List.length_append, List.length_cons, List.length_nil] at *); omega)) (by first | omega | (have hk := csl_drop (l := x0) (i := a0) (by omega) (by omega); have b8 := csl_ix (l := x0) (i := a0) (by omega) (by omega); (try simp only [ub11_len, under_len, List.length_append, List.length_cons, List.length_nil] at *); omega))
      rw [i1] at i0
      obtain ⟨d1, f0, i5, d9, f3, e4, e3, f8⟩ := i0
      replace f8 := f8.symm; subst f8
      refine rs_callXc rfl rfl l9 ?_
      have r9 := bl_use hrec i1
      refine rs_nil ?_
      refine pn_seq ?_
      refine rc_regionT ?_
      refine rd_op (ov_load0 (k := 2) i5 rfl rfl rfl) ?_
      refine rd_op (ov_faddrO rfl) ?_
      obtain ⟨s9, p8, o9⟩ := api_ControlNode.g_Else c7
      refine rd_op (ov_loadf (k := 4) i5 rfl rfl p8) ?_
      refine mV rfl ?_
      refine rd_callF rfl j3 rfl (show tB.R false (vb false) from rfl) (fun s4 q4 => ?_)
      refine rd_nil (pn_lastS ?_)
      have m9 : Mem o0 (⟨.op a9 a8 0, 48, 1, [d1]⟩ :: ⟨d1, 58, 3, f0⟩ :: ⟨.op b0 a7 0, 102, 1, [.fn (.func 63) [] [.op a9 a8 0, .op b0 a7 0]]⟩ :: ⟨.op b3 b4 0, 58, 3, [.agg [vi ((ix x0 a0).Table), nilS, a4]]⟩ :: ⟨.op a5 a6 0, 40, 5, [b1]⟩ :: R_) := (Mem.front (k := 2) (Mem.front (k := 2) (Mem.front (k := 2) i5 rfl) rfl) rfl)
      obtain ⟨s2, h6, hres⟩ := let_ex hres
      obtain ⟨q6, t7, l1, h4⟩ := ihR (z0 := ((ix x0 a0).Else)) (z1 := ((fun a_ => units_Build_1_1 a_ x1 (a1.length : Int)) false)) (zc0 := o4) o9 q4 d9 f3 e4 e3 m9 (by first | omega | exact gu_cond gl (by omega) (by omega) | exact gu_then gl (by omega) (by omega) | exact gu_else gl (by omega) (by omega) | (have hk := csl_drop (l := x0) (i := a0) (by omega) (by omega); have b8 := csl_ix (l := x0) (i := a0) (by omega) (by omega); (try simp only [ub11_len, under_len, List.length_append, List.length_cons, List.length_nil] at *); omega)) (by first | omega | exact gu_cond gl (by omega) (by omega) | exact gu_then gl (by omega) (by omega) | exact gu_else gl (by omega) (by omega) | (have hk := csl_drop (l := x0) (i := a0) (by omega) (by omega); have b8 := csl_ix (l := x0) (i := a0) (by omega) (by omega); (try simp only [ub11_len, under_len, List.length_append, List.length_cons, List.length_nil] at *); omega)) (by first | omega | exact gu_cond gl (by omega) (by omega) | exact gu_then gl (by omega) (by omega) | exact gu_else gl (by omega) (by omega) | (have hk := csl_drop (l := x0) (i := a0) (by omega) (by omega); have b8 := csl_ix (l := x0) (i := a0) (by omega) (by omega); (try simp only [ub11_len, under_len, List.length_append, List.length_cons, List.length_nil] at *); omega)) (by first | omega | (have hk := csl_drop (l := x0) (i := a0) (by omega) (by omega); have b8 := csl_ix (l := x0) (i := a0) (by omega) (by omega); (try simp only [ub11_len, under_len, List.length_append, List.length_cons, List.length_nil] at *); omega))
      rw [h6] at h4
      obtain ⟨l8, i9, p1, e6, f4, f5, e9, f6⟩ := h4
      replace f6 := f6.symm; subst f6
      refine rs_callXc rfl rfl l1 ?_
      have r4 := bl_use hrec h6
      refine rs_nil ?_
      refine pn_blk ?_
      refine pn_seq ?_
      refine rc_region ?_
      refine bN i_add rfl rfl ?_
      refine mV rfl ?_
      refine rd_nil ?_
      refine pn_again ?_
      have hbd := sl_bound r0
      have hinc : wr (a0 + 1) = a0 + 1 := wr_of (by omega) (by omega)
      erw [hinc]
      exact wC (ih  e6 f4 e9 f5 (by omega) (by omega) (by first | omega | (have hk := csl_drop (l := x0) (i := a0) (by omega) (by omega); have b8 := csl_ix (l := x0) (i := a0) (by omega) (by omega); (try simp only [ub11_len, under_len, List.length_append, List.length_cons, List.length_nil] at *); omega)) (Mem.sub p1 (.cons_cons _ (.cons_cons _ (.cons_cons _ (.cons _ (.cons _ (List.Sublist.refl R_))))))) hres) rfl

theorem f63_okB {rec_ : (List api_ControlNode) → (List api_Guard) → (List api_Unit) → (List api_Unit)} {mu_ : Nat} {x0 : List api_ControlNode} {x1 : List api_Guard} {c0 : List api_Unit} {v0 v1 a1 : PV} {a0 : List PV} {R_ : List Ent} {h_ : Heap} {b1 a9 b0 b2 : Nat} (r0 : (tSl api_ControlNode.t).R x0 v0) (r1 : (tSl api_Guard.t).R x1 v1) (b3 : All2 api_Unit.t.R c0 a0) (a5 : isL a1 = true) (a4 : c0.length ≤ 4611686018427387904) (a6 : Wri a1 a0) (M_ : Mem h_ (⟨.op b1 a9 0, 48, 1, [a1]⟩ :: ⟨a1, 58, 3, a0⟩ :: ⟨.op b0 b2 0, 102, 1, [.fn (.func 63) [] [.op b1 a9 0, .op b0 b2 0]]⟩ :: R_)) (gl : GU x0) (hc : c0.length + csl x0 ≤ 1000) (hg : x1.length + csl x0 ≤ 1000) (hmu : mu_ = csl x0) (hrec : ∀ z0 z1 z2, (rec_ z0 z1 z2).length ≤ z2.length + csl z0) (ihR : ∀ {z0 : List api_ControlNode} {z1 : List api_Guard} {zc0 : List api_Unit} {c6 c5 a1 : PV} {a0 : List PV} {R_ : List Ent} {h_ : Heap} {b1 a9 b0 b2 : Nat} (c7 : (tSl api_ControlNode.t).R z0 c6) (c8 : (tSl api_Guard.t).R z1 c5) (b3 : All2 api_Unit.t.R zc0 a0) (a5 : isL a1 = true) (a4 : zc0.length ≤ 4611686018427387904) (a6 : Wri a1 a0) (M_ : Mem h_ (⟨.op b1 a9 0, 48, 1, [a1]⟩ :: ⟨a1, 58, 3, a0⟩ :: ⟨.op b0 b2 0, 102, 1, [.fn (.func 63) [] [.op b1 a9 0, .op b0 b2 0]]⟩ :: R_)) (gl : GU z0) (hc : zc0.length + csl z0 ≤ 1000) (hg : z1.length + csl z0 ≤ 1000), csl z0 < mu_ → ∃ r b7, FnX Try.prog 63 [c6, c5, .op b1 a9 0, .op b0 b2 0] h_ r b7 ∧ RF63 b1 a9 b0 b2 R_ (rec_ z0 z1 zc0) r b7) : ∃ r b7, FnX Try.prog 63 [v0, v1, .op b1 a9 0, .op b0 b2 0] h_ r b7 ∧ RF63 b1 a9 b0 b2 R_ (units_Build_1_B rec_ x0 x1 c0) r b7 := by
  refine fnXX (R := RF63 b1 a9 b0 b2 R_) text63 rfl fun res hres => ?_
  unfold units_Build_1_B at hres
  refine sR ?_
  refine rd_op (ov_box rfl (TR.cnt (tSl api_Guard.t) r1)) ?_
  refine nR ?_
  refine mV rfl ?_
  refine rd_op (ov_bi rfl (sl_len r0 Try.underlying28 _)) ?_
  refine mI rfl ?_
  refine nS ?_
  refine rc_block ?_
  refine wC (units_Build_1_L1_ok r0 r1 a5 a4 a6 gl hc hg ihR hmu hrec ?_  b3 a5 a6 a4 rfl (by omega) (by simp) (Mem.sub M_ (.cons_cons _ (.cons_cons _ (.cons_cons _ (List.Sublist.refl R_))))) hres) rfl
  · intro b6 a3 a2 b5 b4 a7 a8 c4 b9 hres
    refine px_blk ?_
    have b8 : Mem c4 (⟨.op b1 a9 0, 48, 1, [a2]⟩ :: ⟨a2, 58, 3, a3⟩ :: ⟨.op b0 b2 0, 102, 1, [.fn (.func 63) [] [.op b1 a9 0, .op b0 b2 0]]⟩ :: R_) := (Mem.front (k := 2) (Mem.front (k := 2) (Mem.front (k := 2) b9 rfl) rfl) rfl)
    subst hres
    exact pn_endX .nil ⟨a2, a3, Mem.sub b8 (.cons_cons _ (.cons_cons _ (.cons_cons _ (List.Sublist.refl R_)))), b5, b4, a8, a7, rfl⟩
theorem f63_okR : ∀ (n_ : Nat) {x0 : List api_ControlNode} {x1 : List api_Guard} {c0 : List api_Unit} {v0 v1 a1 : PV} {a0 : List PV} {R_ : List Ent} {h_ : Heap} {a8 a6 a7 a9 : Nat} (r0 : (tSl api_ControlNode.t).R x0 v0) (r1 : (tSl api_Guard.t).R x1 v1) (a2 : All2 api_Unit.t.R c0 a0) (a4 : isL a1 = true) (a3 : c0.length ≤ 4611686018427387904) (a5 : Wri a1 a0) (M_ : Mem h_ (⟨.op a8 a6 0, 48, 1, [a1]⟩ :: ⟨a1, 58, 3, a0⟩ :: ⟨.op a7 a9 0, 102, 1, [.fn (.func 63) [] [.op a8 a6 0, .op a7 a9 0]]⟩ :: R_)) (gl : GU x0) (hc : c0.length + csl x0 ≤ 1000) (hg : x1.length + csl x0 ≤ 1000), csl x0 < n_ → ∃ r b0, FnX Try.prog 63 [v0, v1, .op a8 a6 0, .op a7 a9 0] h_ r b0 ∧ RF63 a8 a6 a7 a9 R_ (units_Build_1_R n_ x0 x1 c0) r b0 := by
  intro n_
  induction n_ with
  | zero => intros; rename_i hlt; exact absurd hlt (Nat.not_lt_zero _)
  | succ n_ ihn =>
    intro x0 x1 c0 v0 v1 a1 a0 R_ h_ a8 a6 a7 a9 r0 r1 a2 a4 a3 a5 M_ gl hc hg hlt
    have e_ : units_Build_1_R (n_ + 1) x0 x1 c0 = units_Build_1_B (units_Build_1_R n_) x0 x1 c0 := by rw [units_Build_1_R]
    rw [e_]
    exact f63_okB r0 r1 a2 a4 a3 a5 M_ gl hc hg rfl (build_len n_) (fun {z0} {z1} {zc0} {zv0} {zv1} {a1} {a0} {R_} {h_} {a8} {a6} {a7} {a9} zr0 zr1 a2 a4 a3 a5 M_ gl hc hg hz => ihn zr0 zr1 a2 a4 a3 a5 M_ gl hc hg (by omega))
theorem f63_ok {x0 : List api_ControlNode} {x1 : List api_Guard} {c0 : List api_Unit} {v0 v1 a1 : PV} {a0 : List PV} {R_ : List Ent} {h_ : Heap} {a8 a6 a7 a9 : Nat} (r0 : (tSl api_ControlNode.t).R x0 v0) (r1 : (tSl api_Guard.t).R x1 v1) (a2 : All2 api_Unit.t.R c0 a0) (a4 : isL a1 = true) (a3 : c0.length ≤ 4611686018427387904) (a5 : Wri a1 a0) (M_ : Mem h_ (⟨.op a8 a6 0, 48, 1, [a1]⟩ :: ⟨a1, 58, 3, a0⟩ :: ⟨.op a7 a9 0, 102, 1, [.fn (.func 63) [] [.op a8 a6 0, .op a7 a9 0]]⟩ :: R_)) (gl : GU x0) (hc : c0.length + csl x0 ≤ 1000) (hg : x1.length + csl x0 ≤ 1000) : ∃ r b0, FnX Try.prog 63 [v0, v1, .op a8 a6 0, .op a7 a9 0] h_ r b0 ∧ RF63 a8 a6 a7 a9 R_ (units_Build_1 x0 x1 c0) r b0 := f63_okR _ r0 r1 a2 a4 a3 a5 M_ gl hc hg (Nat.lt_succ_self _)

def RF31 (res : (List api_Unit)) (r : PV) : Prop := (tSl api_Unit.t).R res r
theorem f31_ok {x0 : api_Program} {v0 : PV} (r0 : api_Program.t.R x0 v0) (hs : csl x0.Control ≤ 1000) (hu : GU x0.Control) : ∃ r, FnR Try.prog 31 [v0] r ∧ (tSl api_Unit.t).R (units_Build x0) r := by
  refine fnT (R := RF31) text31 rfl fun res hres => ?_
  unfold units_Build at hres
  refine sR ?_
  refine rd_op (ov_box rfl (TR.cnt api_Program.t r0)) ?_
  refine rd_op (v := nilS) (ov_move rfl) ?_
  refine nS ?_
  refine rc_seq ?_
  refine sR ?_
  refine lD r0 rfl rfl rfl ?_
  obtain ⟨d6, b8, hres⟩ := let_ex hres
  have b9 := f16_ok  r0 (by first | assumption | omega)
  rw [b8] at b9
  refine cL b9 rfl rfl (clL_cons (TR.clo api_Program.t r0) clL_nil) ?_
  refine mV rfl ?_
  refine xT rfl rfl ?_
  refine xT rfl rfl ?_
  refine mV rfl ?_
  refine mV rfl ?_
  refine nR ?_
  refine mV rfl ?_
  refine bN i_neq rfl rfl ?_
  refine nS ?_
  refine rc_br hres rfl ?_ ?_ <;> clear hres <;> intro c hres <;> try simp only [qa, qaD] at c
  · refine sR ?_
    refine rd_op (v := nilS) (ov_move rfl) ?_
    refine nS ?_
    exact rR hres rfl (TR.clo (tSl api_Unit.t) sl_nil) sl_nil
  · refine rc_skip ?_
    refine pn_seq ?_
    refine sR ?_
    refine rd_allocO (x := nilS) (Mem.nil ⟨0, []⟩) rfl rfl (fun a3 a5 d4 d0 => ?_)
    refine nR ?_
    refine rd_allocO (x := .sc .nilFunc) d0 rfl rfl (fun a4 a6 d3 c8 => ?_)
    refine nR ?_
    refine rd_op (v := .fn (.func 63) [] [.op a3 a5 0, .op a4 a6 0]) (ov_mkFunc rfl rfl) ?_
    refine rd_storeO (k := 0) (v := .fn (.func 63) [] [.op a3 a5 0, .op a4 a6 0]) c8 rfl rfl rfl rfl (fun b3 a8 => ?_)
    replace a8 : Mem b3 [⟨.op a4 a6 0, 102, 1, [.fn (.func 63) [] [.op a3 a5 0, .op a4 a6 0]]⟩, ⟨.op a3 a5 0, 48, 1, [nilS]⟩] := a8
    refine nS ?_
    refine rc_seq ?_
    refine rc_regionS ?_
    refine rs_step ?_
    refine rd_op (ov_load0 (k := 0) a8 rfl rfl rfl) ?_
    refine rs_back ?_
    refine rs_step ?_
    obtain ⟨d5, c9, b5⟩ := api_Program.g_Control r0
    refine fA rfl c9 ?_
    refine rs_back ?_
    refine rs_step ?_
    refine lD b5 rfl rfl rfl ?_
    refine rs_back ?_
    have c4 := mem_acc (sz := 3) (es := []) a8 58 (.inl ⟨none, rfl, rfl⟩) (by simp)
    have c6 : Mem b3 [⟨.op a3 a5 0, 48, 1, [nilS]⟩, ⟨nilS, 58, 3, ([] : List PV)⟩, ⟨.op a4 a6 0, 102, 1, [.fn (.func 63) [] [.op a3 a5 0, .op a4 a6 0]]⟩] := (Mem.front (k := 2) (Mem.front (k := 1) (Mem.front (k := 1) c4 rfl) rfl) rfl)
    obtain ⟨d7, b6, hres⟩ := let_ex hres
    obtain ⟨d1, d8, b7, a9⟩ := f63_ok (x0 := x0.Control) (x1 := ([] : List api_Guard)) (c0 := ([] : List api_Unit)) b5 sl_nil (show All2 api_Unit.t.R ([] : List api_Unit) [] from trivial) rfl (by first | decide | simp) (.inl rfl) c6 (by first | omega | exact hu | (simp only [List.length_nil]; omega)) (by first | omega | exact hu | (simp only [List.length_nil]; omega)) (by first | omega | exact hu | (simp only [List.length_nil]; omega))
    rw [b6] at a9
    obtain ⟨b4, b1, b0, a1, a0, a2, b2, a7⟩ := a9
    replace a7 := a7.symm; subst a7
    refine rs_callXc rfl rfl b7 ?_
    refine rs_nil ?_
    refine pn_seq ?_
    refine sR ?_
    refine rd_op (ov_load0 (k := 0) b0 rfl rfl (mem_one (k := 1) b0 rfl a0).2) ?_
    refine mV rfl ?_
    refine nS ?_
    obtain ⟨d2, c5, c7⟩ := own_sl (P := Try.prog) (k := 1) (t := api_Unit.t) b0 rfl a0 a1 (Nat.le_trans a2 (by decide))
    subst hres
    exact rc_retV (.tmp rfl .nil) c5 c7

end Go.Proofs.Ytkgnjpoafilicaa
