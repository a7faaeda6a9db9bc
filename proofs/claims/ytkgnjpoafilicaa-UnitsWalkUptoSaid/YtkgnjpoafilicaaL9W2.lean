/-
  The code of each function does what its plain program says.
-/
import Derived.Test.YtkgnjpoafilicaaL9W1
set_option linter.unusedVariables false
set_option linter.unusedSimpArgs false
set_option maxRecDepth 100000
namespace Go.Proofs.Ytkgnjpoafilicaa
open Go Go.Pb Go.RowKit
def RF75 (res : Int × Int) (r : PV) : Prop := r = .tup [vi res.1, vi res.2]
theorem f75_ok {x0 : List api_ExprNode} {x1 : expr_Scope} {v0 v1 : PV} (r0 : (tSl api_ExprNode.t).R x0 v0) (r1 : expr_Scope.t.R x1 v1) : FnR Try.prog 75 [v0, v1] (.tup [vi ((expr_Check x0 x1).1), vi ((expr_Check x0 x1).2)]) := by
  refine fnS (R := RF75) text75 (fun _ h => h) rfl fun res hres => ?_
  unfold expr_Check at hres
  refine sR ?_
  refine rd_op (ov_box rfl (TR.cnt expr_Scope.t r1)) ?_
  refine mI rfl ?_
  refine mI rfl ?_
  refine nS ?_
  refine rc_seq ?_
  refine sR ?_
  refine mV rfl ?_
  refine rd_op (ov_bi rfl (sl_len r0 Try.underlying38 _)) ?_
  refine bN i_gtr rfl rfl ?_
  refine nS ?_
  refine rc_br hres rfl ?_ ?_ <;> clear hres <;> intro c hres <;> try simp only [qa, qaD] at c
  · refine sR ?_
    refine mI rfl ?_
    refine mI rfl ?_
    refine nS ?_
    exact rT hres rfl rfl rfl rfl rfl
  · refine rc_skip ?_
    refine pn_seq ?_
    refine sR ?_
    refine lD r1 rfl rfl rfl ?_
    refine mV rfl ?_
    obtain ⟨a2, a1, hres⟩ := let_ex hres
    have a0 := f84_ok (x2 := 0) r1 r0 (by first | assumption | omega) (by first | assumption | omega)
    rw [a1] at a0
    refine cL a0 rfl rfl (clL_cons (TR.clo expr_Scope.t r1) (clL_cons (TR.clo (tSl api_ExprNode.t) r0) (clL_cons rfl clL_nil))) ?_
    refine mV rfl ?_
    refine xT rfl rfl ?_
    refine xT rfl rfl ?_
    refine xT rfl rfl ?_
    refine mV rfl ?_
    refine mV rfl ?_
    refine mV rfl ?_
    refine nS ?_
    refine rc_seq ?_
    refine rc_block ?_
    refine sR ?_
    refine mV rfl ?_
    refine bN i_neq rfl rfl ?_
    refine mV rfl ?_
    refine nS ?_
    refine rc_br hres rfl ?_ ?_ <;> clear hres <;> intro c hres <;> try simp only [qa, qaD] at c
    · refine sR ?_
      refine mV rfl ?_
      refine mI rfl ?_
      refine mV rfl ?_
      refine nS ?_
      exact rT hres rfl rfl rfl rfl rfl
    · refine sR ?_
      refine mV rfl ?_
      refine mV rfl ?_
      refine rd_op (ov_bi rfl (sl_len r0 Try.underlying38 _)) ?_
      refine bN i_lss rfl rfl ?_
      refine mV rfl ?_
      refine nS ?_
      refine rc_br hres rfl ?_ ?_ <;> clear hres <;> intro c hres <;> try simp only [qa, qaD] at c
      · refine sR ?_
        refine mI rfl ?_
        refine mI rfl ?_
        refine nS ?_
        exact rT hres rfl rfl rfl rfl rfl
      · refine rc_skip ?_
        refine pn_blk ?_
        refine pn_seq ?_
        refine sR ?_
        refine mV rfl ?_
        refine mV rfl ?_
        refine mI rfl ?_
        refine nS ?_
        exact rT hres rfl rfl rfl rfl rfl

def RF50 (res : Int) (r : PV) : Prop := r = vi res
theorem control_checkNode_L1_ok {S : List Fr} {res : Int} {x0 : api_Program} {x1 : api_ControlNode} {x2 : List Int} {a1 : Bool} {v1 v2 : PV} (r1 : api_ControlNode.t.R x1 v1) (r2 : (tSl tI).R x2 v2) (a5 : a1 = true) (a6 : ((decide (x1.Table < 0)) || (decide ((x0.Tables.length : Int) ≤ x1.Table))) = false) {K1 : Unit → Int}
    (a8 : K1 () = res → PX Try.prog 1 S (QR Try.prog [(6, none)] (RF50 res)) [(4, .fp v1)] ⟨0, []⟩) :
    ∀ {m : Nat} {a0 : Int} (a7 : m = Int.toNat ((x2.length : Int) - a0)) (a4 : 0 ≤ a0), control_checkNode_L1 x1 x2 K1 m a0 = res → RC Try.prog (.loop ac50_L1) S (QR Try.prog [(6, none)] (RF50 res)) [(29, vi a0), (28, vi (x2.length : Int)), (27, v2), (4, .fp v1)] ⟨0, []⟩ := by
  have a2 := a5
  try simp only [qa, qaD] at a2
  have a3 := a6
  try simp only [qa, qaD] at a3
  intro m
  induction m with
  | zero =>
    intro a0 a7 a4 hres
    rw [control_checkNode_L1] at hres
    refine rc_loop ?_
    refine sR ?_
    refine bN i_lss rfl rfl ?_
    refine nS ?_
    refine rc_seq ?_
    refine rc_cond rfl ?_ ?_ <;> intro c <;> try simp only [qa, qaD] at c
    · omega
    refine rc_exit ?_
    refine px_seq ?_
    refine px_again ?_
    exact wP (a8  hres) rfl
  | succ m ih =>
    intro a0 a7 a4 hres
    rw [control_checkNode_L1] at hres
    refine rc_loop ?_
    refine sR ?_
    refine bN i_lss rfl rfl ?_
    refine nS ?_
    refine rc_seq ?_
    refine rc_cond rfl ?_ ?_ <;> intro c <;> try simp only [qa, qaD] at c
    rotate_left
    · omega
    refine rc_skip ?_
    refine pn_seq ?_
    refine rc_seq ?_
    refine rc_block ?_
    refine sR ?_
    refine rd_op (ov_iaddr rfl rfl (slI r2 (by omega) (by omega))) ?_
    refine lR rfl rfl rfl ?_
    refine mV rfl ?_
    refine nR ?_
    refine mV rfl ?_
    refine fL rfl (api_ControlNode.g_Table r1) rfl rfl ?_
    refine bN i_eql rfl rfl ?_
    refine nS ?_
    refine rc_br hres rfl ?_ ?_ <;> clear hres <;> intro c hres <;> try simp only [qa, qaD] at c
    · refine sR ?_
      refine mI rfl ?_
      refine nS ?_
      exact rR hres rfl rfl rfl
    · refine rc_skip ?_
      refine pn_blk ?_
      refine pn_seq ?_
      refine rc_region ?_
      refine bN i_add rfl rfl ?_
      refine mV rfl ?_
      refine rd_nil ?_
      refine pn_again ?_
      have hbd := sl_bound r2
      have hinc : wr (a0 + 1) = a0 + 1 := wr_of (by omega) (by omega)
      erw [hinc]
      exact wC (ih   (by omega) (by omega) hres) rfl

theorem f50_ok {x0 : api_Program} {x1 : api_ControlNode} {x2 : List Int} {v0 v1 v2 : PV} (r0 : api_Program.t.R x0 v0) (r1 : api_ControlNode.t.R x1 v1) (r2 : (tSl tI).R x2 v2) : FnR Try.prog 50 [v0, v1, v2] (vi (control_checkNode x0 x1 x2)) := by
  refine fnS (R := RF50) text50 (fun _ h => h) rfl fun res hres => ?_
  unfold control_checkNode at hres
  refine sR ?_
  refine rd_op (ov_box rfl (TR.cnt api_Program.t r0)) ?_
  refine rd_op (ov_box rfl (TR.cnt api_ControlNode.t r1)) ?_
  refine mI rfl ?_
  refine nS ?_
  refine rc_seq ?_
  refine sR ?_
  refine fL rfl (api_ControlNode.g_Kind r1) rfl rfl ?_
  refine nS ?_
  refine rc_block ?_
  refine rc_seq ?_
  refine sR ?_
  refine bN i_eql rfl rfl ?_
  refine mV rfl ?_
  refine nS ?_
  obtain ⟨d6, d5, hres⟩ := let_ex hres
  refine rc_join (F := fun b S Q => ∀ (a8 : Bool), d6 a8 = res → RC Try.prog b S Q [(13, vb a8), (12, vi x1.Kind), (4, .fp v1), (3, .fp v0), (2, v2)] ⟨0, []⟩) ?_ ?_
  · intro a8  hres
    rw [← d5] at hres
    refine rc_br hres rfl ?_ ?_ <;> clear hres <;> intro b7 hres <;> have c5 := b7 <;> try simp only [qa, qaD] at c5
    · refine rc_seq ?_
      refine sR ?_
      refine fL rfl (api_ControlNode.g_Table r1) rfl rfl ?_
      refine bN i_lss rfl rfl ?_
      refine mV rfl ?_
      refine rd_cutn 7 (d := 26) (v := vb ((decide (x1.Table < 0)) || (decide ((x0.Tables.length : Int) ≤ x1.Table)))) ?_ ?_
      · intro S Q r
        cases d3 : (decide (x1.Table < 0))
        · intro k
          have c9 := d3
          try simp only [qa, qaD] at c9
          refine rd_yes rfl rfl (ov_faddr rfl (api_ControlNode.g_Table r1)) ?_
          refine rd_yes rfl rfl (ov_load rfl rfl rfl) ?_
          obtain ⟨e5, e0, c4⟩ := api_Program.g_Tables r0
          refine rd_yes rfl rfl (ov_faddr rfl e0) ?_
          refine rd_yes rfl rfl (ov_load rfl (TR.cnt (tSl api_Table.t) c4) (TR.agg (tSl api_Table.t) c4)) ?_
          refine rd_yes rfl rfl (ov_bi rfl (sl_len c4 Try.underlying26 _)) ?_
          refine rd_yes rfl rfl (ov_bin rfl rfl i_geq) ?_
          exact gK rfl rfl rfl rfl rfl k
        · exact gN 6 rfl rfl rfl rfl rfl rfl
      refine nS ?_
      refine rc_br hres rfl ?_ ?_ <;> clear hres <;> intro b8 hres <;> have c7 := b8 <;> try simp only [qa, qaD] at c7
      · refine sR ?_
        refine mI rfl ?_
        refine nS ?_
        exact rR hres rfl rfl rfl
      · refine rc_skip ?_
        refine pn_seq ?_
        refine rc_seq ?_
        refine sR ?_
        refine mV rfl ?_
        refine rd_op (ov_bi rfl (sl_len r2 Try.underlying29 _)) ?_
        refine mI rfl ?_
        refine nS ?_
        refine rc_block ?_
        refine wC (control_checkNode_L1_ok r1 r2 b7 b8 ?_  rfl (by omega) hres) rfl
        · intro  hres
          refine px_blk ?_
          refine pn_seq ?_
          refine sR ?_
          refine fL rfl (api_ControlNode.g_Kind r1) rfl rfl ?_
          refine bN i_eql rfl rfl ?_
          refine mV rfl ?_
          refine rd_cutn 9 (d := 50) (v := vb ((decide (x1.Kind = 1)) && (decide (0 < (wr ((x1.Then.length : Int) + (x1.Else.length : Int))))))) ?_ ?_
          · intro S Q r
            cases d2 : (decide (x1.Kind = 1))
            · exact gN 8 rfl rfl rfl rfl rfl rfl
            · intro k
              have c8 := d2
              try simp only [qa, qaD] at c8
              obtain ⟨e2, d9, b9⟩ := api_ControlNode.g_Then r1
              refine rd_yes rfl rfl (ov_faddr rfl d9) ?_
              refine rd_yes rfl rfl (ov_load rfl (TR.cnt (tSl api_ControlNode.t) b9) (TR.agg (tSl api_ControlNode.t) b9)) ?_
              refine rd_yes rfl rfl (ov_bi rfl (sl_len b9 Try.underlying28 _)) ?_
              obtain ⟨e4, d8, c6⟩ := api_ControlNode.g_Else r1
              refine rd_yes rfl rfl (ov_faddr rfl d8) ?_
              refine rd_yes rfl rfl (ov_load rfl (TR.cnt (tSl api_ControlNode.t) c6) (TR.agg (tSl api_ControlNode.t) c6)) ?_
              refine rd_yes rfl rfl (ov_bi rfl (sl_len c6 Try.underlying28 _)) ?_
              refine rd_yes rfl rfl (ov_bin rfl rfl i_add) ?_
              refine rd_yes rfl rfl (ov_bin rfl rfl i_gtr) ?_
              exact gK rfl rfl rfl rfl rfl k
          refine nS ?_
          refine rc_br hres rfl ?_ ?_ <;> clear hres <;> intro c hres <;> try simp only [qa, qaD] at c
          · refine sR ?_
            refine mI rfl ?_
            refine nS ?_
            exact rR hres rfl rfl rfl
          · refine rc_skip ?_
            refine pn_blk ?_
            refine pn_seq ?_
            refine sR ?_
            refine mI rfl ?_
            refine nS ?_
            exact rR hres rfl rfl rfl
    · refine sR ?_
      refine bN i_eql rfl rfl ?_
      refine mV rfl ?_
      refine nS ?_
      refine rc_br hres rfl ?_ ?_ <;> clear hres <;> intro c hres <;> try simp only [qa, qaD] at c
      · refine sR ?_
        refine gL (api_ControlNode.g_Cond r1) rfl rfl rfl fun e3 d0 => ?_
        refine lD r0 rfl rfl rfl ?_
        obtain ⟨a0, a1, a5, a4, a7, a6, a2, a3, d7, b6, b1, b0, b3, a9, b2, b4, b5⟩ := r0
        subst d7
        refine rd_op (v := .agg [vs x0.Name, a0, a1, a5, a4, a7, a6, a2, a3, nilS]) (ov_build (cs := [vs x0.Name, a0, a1, a5, a4, a7, a6, a2, a3, nilS]) rfl rfl) ?_
        obtain ⟨e1, d4, hres⟩ := let_ex hres
        have d1 := f75_ok  d0 (show expr_Scope.t.R ({ Program := x0, Params := ([] : List api_Field) } : expr_Scope) (.agg [vs x0.Name, a0, a1, a5, a4, a7, a6, a2, a3, nilS]) from ⟨a0, a1, a5, a4, a7, a6, a2, a3, nilS, rfl, b6, b1, b0, b3, a9, b2, b4, b5, sl_nil⟩) 
        rw [d4] at d1
        refine cL d1 rfl rfl (clL_cons (TR.clo (tSl api_ExprNode.t) d0) (clL_cons (TR.clo expr_Scope.t (show expr_Scope.t.R ({ Program := x0, Params := ([] : List api_Field) } : expr_Scope) (.agg [vs x0.Name, a0, a1, a5, a4, a7, a6, a2, a3, nilS]) from ⟨a0, a1, a5, a4, a7, a6, a2, a3, nilS, rfl, b6, b1, b0, b3, a9, b2, b4, b5, sl_nil⟩)) clL_nil)) ?_
        refine mV rfl ?_
        refine xT rfl rfl ?_
        refine xT rfl rfl ?_
        refine mV rfl ?_
        refine mV rfl ?_
        refine nS ?_
        refine rc_seq ?_
        refine sR ?_
        refine mV rfl ?_
        refine bN i_neq rfl rfl ?_
        refine nS ?_
        refine rc_br hres rfl ?_ ?_ <;> clear hres <;> intro c hres <;> try simp only [qa, qaD] at c
        · refine sR ?_
          refine mV rfl ?_
          refine mV rfl ?_
          refine nS ?_
          exact rR hres rfl rfl rfl
        · refine rc_skip ?_
          refine pn_seq ?_
          refine sR ?_
          refine mV rfl ?_
          refine bN i_neq rfl rfl ?_
          refine nS ?_
          refine rc_br hres rfl ?_ ?_ <;> clear hres <;> intro c hres <;> try simp only [qa, qaD] at c
          · refine sR ?_
            refine mI rfl ?_
            refine nS ?_
            exact rR hres rfl rfl rfl
          · refine rc_skip ?_
            refine pn_blk ?_
            refine pn_seq ?_
            refine sR ?_
            refine mI rfl ?_
            refine nS ?_
            exact rR hres rfl rfl rfl
      · refine sR ?_
        refine mI rfl ?_
        refine nS ?_
        exact rR hres rfl rfl rfl
  · intro J
    refine rc_br hres rfl ?_ ?_ <;> clear hres <;> intro c hres <;> try simp only [qa, qaD] at c
    · refine rc_skip ?_
      refine pn_seq (wC (J _  hres) rfl)
    · refine rc_region ?_
      refine bN i_eql rfl rfl ?_
      refine mV rfl ?_
      refine rd_nil ?_
      refine pn_seq (wC (J _  hres) rfl)

def RF51 (res : Bool) (r : PV) : Prop := r = vb res
theorem f51_ok {x0 : api_ControlNode} {v0 : PV} (r0 : api_ControlNode.t.R x0 v0) : FnR Try.prog 51 [v0] (vb (control_applies x0)) := by
  refine fnS (R := RF51) text51 (fun _ h => h) rfl fun res hres => ?_
  unfold control_applies at hres
  refine sR ?_
  refine rd_op (ov_box rfl (TR.cnt api_ControlNode.t r0)) ?_
  refine mB rfl ?_
  refine nR ?_
  refine fL rfl (api_ControlNode.g_Kind r0) rfl rfl ?_
  refine bN i_eql rfl rfl ?_
  refine mV rfl ?_
  refine rd_cutn 4 (d := 10) (v := vb ((decide (x0.Kind = 1)) || (decide (x0.Kind = 3)))) ?_ ?_
  · intro S Q r
    cases a1 : (decide (x0.Kind = 1))
    · intro k
      have a0 := a1
      try simp only [qa, qaD] at a0
      refine rd_yes rfl rfl (ov_faddr rfl (api_ControlNode.g_Kind r0)) ?_
      refine rd_yes rfl rfl (ov_load rfl rfl rfl) ?_
      refine rd_yes rfl rfl (ov_bin rfl rfl i_eql) ?_
      exact gK rfl rfl rfl rfl rfl k
    · exact gN 3 rfl rfl rfl rfl rfl rfl
  refine mV rfl ?_
  refine nS ?_
  exact rR hres rfl rfl rfl

def RF49 (i2_ w2_ i3_ w3_ i4_ w4_ : Nat) (R_ : List Ent) (res : Bool × (List Int) × Int × Int) (r : PV) (h : Heap) : Prop := ∃ aF0_0 : PV, ∃ esF0_0 : List PV, Mem h (⟨.op i2_ w2_ 0, 29, 1, [aF0_0]⟩ :: ⟨aF0_0, 3, 1, esF0_0⟩ :: ⟨.op i3_ w3_ 0, 35, 1, [vi res.2.2.1]⟩ :: ⟨.op i4_ w4_ 0, 3, 1, [vi res.2.2.2]⟩ :: R_) ∧ (All2 tI.R res.2.1 esF0_0) ∧ (isL aF0_0 = true) ∧ (res.2.1.length ≤ 4611686018427387904) ∧ (Wri aF0_0 esF0_0) ∧ r = vb res.1
theorem f49_ok {x0 : api_ControlNode} {c0 : api_Program} {c1 : List Int} {c2 c3 : Int} {v0 w0 a1 : PV} {a0 : List PV} {R_ : List Ent} {h_ : Heap} {b2 b4 b3 b5 b1 b0 : Nat} (r0 : api_ControlNode.t.R x0 v0) (e4 : api_Program.t.R c0 w0) (a3 : All2 tI.R c1 a0) (a2 : isL a1 = true) (a9 : c1.length ≤ 4611686018427387904) (a8 : Wri a1 a0) (M_ : Mem h_ (⟨.op b2 b4 0, 29, 1, [a1]⟩ :: ⟨a1, 3, 1, a0⟩ :: ⟨.op b3 b5 0, 35, 1, [vi c2]⟩ :: ⟨.op b1 b0 0, 3, 1, [vi c3]⟩ :: R_)) (hb : c1.length ≤ 1000000) : ∃ r e6, FnX Try.prog 49 [v0, .fp w0, .op b2 b4 0, .op b3 b5 0, .op b1 b0 0] h_ r e6 ∧ RF49 b2 b4 b3 b5 b1 b0 R_ (control_Check_1 x0 c0 c1 c2 c3) r e6 := by
  refine fnXX (R := RF49 b2 b4 b3 b5 b1 b0 R_) text49 rfl fun res hres => ?_
  unfold control_Check_1 at hres
  refine sR ?_
  refine rd_op (ov_box rfl (TR.cnt api_ControlNode.t r0)) ?_
  refine mB rfl ?_
  refine nS ?_
  refine rc_seq ?_
  refine sR ?_
  refine lD e4 rfl rfl rfl ?_
  refine lD r0 rfl rfl rfl ?_
  refine rd_op (ov_load0 (k := 0) M_ rfl rfl (mem_one (k := 1) M_ rfl a2).2) ?_
  obtain ⟨e7, e3, e5⟩ := own_sl (P := Try.prog) (k := 1) (t := tI) M_ rfl a2 a3 (Nat.le_trans a9 (by decide))
  obtain ⟨a7, c5, hres⟩ := let_ex hres
  have d6 := f50_ok  e4 r0 e5 
  rw [c5] at d6
  refine rd_call (cv_lend rfl rfl (dl_cons (deep_closed (TR.clo api_Program.t e4)) (dl_cons (deep_closed (TR.clo api_ControlNode.t r0)) (dl_cons e3 dl_nil))) d6 rfl) ?_
  refine rd_storeO (k := 2) (v := vi a7) M_ rfl rfl rfl rfl (fun b8 a5 => ?_)
  replace a5 : Mem b8 (⟨.op b2 b4 0, 29, 1, [a1]⟩ :: ⟨a1, 3, 1, a0⟩ :: ⟨.op b3 b5 0, 35, 1, [vi a7]⟩ :: ⟨.op b1 b0 0, 3, 1, [vi c3]⟩ :: R_) := a5
  refine nR ?_
  refine rd_op (ov_load0 (k := 2) a5 rfl rfl rfl) ?_
  refine bN i_neq rfl rfl ?_
  refine nS ?_
  refine rc_br hres rfl ?_ ?_ <;> clear hres <;> intro c hres <;> try simp only [qa, qaD] at c
  · refine sR ?_
    refine mB rfl ?_
    refine nS ?_
    have c9 : Mem b8 (⟨.op b2 b4 0, 29, 1, [a1]⟩ :: ⟨a1, 3, 1, a0⟩ :: ⟨.op b3 b5 0, 35, 1, [vi a7]⟩ :: ⟨.op b1 b0 0, 3, 1, [vi c3]⟩ :: R_) := (Mem.front (k := 3) (Mem.front (k := 3) (Mem.front (k := 3) (Mem.front (k := 3) a5 rfl) rfl) rfl) rfl)
    subst hres
    exact rc_retX (.tmp rfl .nil) ⟨a1, a0, Mem.sub c9 (.cons_cons _ (.cons_cons _ (.cons_cons _ (.cons_cons _ (List.Sublist.refl R_))))), a3, a2, a9, a8, rfl⟩
  · refine rc_skip ?_
    refine pn_seq ?_
    refine rc_seq ?_
    refine sR ?_
    refine lD r0 rfl rfl rfl ?_
    obtain ⟨e8, d9, hres⟩ := let_ex hres
    have c8 := f51_ok  r0 
    rw [d9] at c8
    refine cL c8 rfl rfl (clL_cons (TR.clo api_ControlNode.t r0) clL_nil) ?_
    refine nS ?_
    refine rc_br hres rfl ?_ ?_ <;> clear hres <;> intro c hres <;> try simp only [qa, qaD] at c
    · refine rc_region ?_
      refine rd_op (ov_load0 (k := 0) a5 rfl rfl (mem_one (k := 1) a5 rfl a2).2) ?_
      refine fL rfl (api_ControlNode.g_Table r0) rfl rfl ?_
      refine rd_op (v := .fs true [vi x0.Table]) (ov_bslice rfl (all_cons rfl all_nil)) ?_
      have e1 : (tSl tI).R ([x0.Table] : List Int) (.fs true [vi x0.Table]) := sl_fs ⟨rfl, trivial⟩ (by simp)
      obtain ⟨a4, d8, b7⟩ := src_of (t := tI) (h := b8) e1
      have d2 : fits (a0.length + a4.length) 8 = true := by rw [All2.length_eq a3, All2.length_eq b7]; (try simp only [List.length_cons, List.length_nil]); exact fits_of (by first | omega | (simp only [List.length_append, List.length_cons, List.length_nil] at *; omega)) (by first | omega | (simp only [List.length_append, List.length_cons, List.length_nil] at *; omega))
      refine rd_appW (k := 1) (es := a0) (news := a4) a5 rfl rfl rfl a2 a8 d8 d2 (fun a6 e9 d3 d4 c6 => ?_)
      have c7 : All2 tI.R (c1 ++ ([x0.Table] : List Int)) (a0 ++ a4) := All2.app a3 b7
      have d1 : (c1 ++ ([x0.Table] : List Int)).length ≤ 4611686018427387904 := by rw [← All2.length_eq c7, List.length_append]; exact fits_len d2
      refine rd_storeO (k := 0) (v := a6) c6 rfl rfl rfl (mem_cnt1 (k := 1) c6 rfl d3) (fun e2 b6 => ?_)
      replace b6 : Mem e2 (⟨.op b2 b4 0, 29, 1, [a6]⟩ :: ⟨a6, 3, 1, (a0 ++ a4)⟩ :: ⟨.op b3 b5 0, 35, 1, [vi a7]⟩ :: ⟨.op b1 b0 0, 3, 1, [vi c3]⟩ :: R_) := b6
      refine nR ?_
      refine rd_op (ov_load0 (k := 3) b6 rfl rfl rfl) ?_
      refine bN i_add rfl rfl ?_
      refine rd_storeO (k := 3) (v := vi (wr (c3 + 1))) b6 rfl rfl rfl rfl (fun d0 b9 => ?_)
      replace b9 : Mem d0 (⟨.op b2 b4 0, 29, 1, [a6]⟩ :: ⟨a6, 3, 1, (a0 ++ a4)⟩ :: ⟨.op b3 b5 0, 35, 1, [vi a7]⟩ :: ⟨.op b1 b0 0, 3, 1, [vi (wr (c3 + 1))]⟩ :: R_) := b9
      refine nR ?_
      refine mB rfl ?_
      refine nS ?_
      have e0 : Mem d0 (⟨.op b2 b4 0, 29, 1, [a6]⟩ :: ⟨a6, 3, 1, (a0 ++ a4)⟩ :: ⟨.op b3 b5 0, 35, 1, [vi a7]⟩ :: ⟨.op b1 b0 0, 3, 1, [vi (wr (c3 + 1))]⟩ :: R_) := (Mem.front (k := 3) (Mem.front (k := 3) (Mem.front (k := 3) (Mem.front (k := 3) b9 rfl) rfl) rfl) rfl)
      subst hres
      exact rc_retX (.tmp rfl .nil) ⟨a6, (a0 ++ a4), Mem.sub e0 (.cons_cons _ (.cons_cons _ (.cons_cons _ (.cons_cons _ (List.Sublist.refl R_))))), c7, d3, d1, d4, rfl⟩
    · refine rc_skip ?_
      refine pn_seq ?_
      refine sR ?_
      refine rd_op (ov_load0 (k := 3) a5 rfl rfl rfl) ?_
      refine bN i_add rfl rfl ?_
      refine rd_storeO (k := 3) (v := vi (wr (c3 + 1))) a5 rfl rfl rfl rfl (fun d5 c4 => ?_)
      replace c4 : Mem d5 (⟨.op b2 b4 0, 29, 1, [a1]⟩ :: ⟨a1, 3, 1, a0⟩ :: ⟨.op b3 b5 0, 35, 1, [vi a7]⟩ :: ⟨.op b1 b0 0, 3, 1, [vi (wr (c3 + 1))]⟩ :: R_) := c4
      refine nR ?_
      refine mB rfl ?_
      refine nS ?_
      have d7 : Mem d5 (⟨.op b2 b4 0, 29, 1, [a1]⟩ :: ⟨a1, 3, 1, a0⟩ :: ⟨.op b3 b5 0, 35, 1, [vi a7]⟩ :: ⟨.op b1 b0 0, 3, 1, [vi (wr (c3 + 1))]⟩ :: R_) := (Mem.front (k := 3) (Mem.front (k := 3) (Mem.front (k := 3) (Mem.front (k := 3) c4 rfl) rfl) rfl) rfl)
      subst hres
      exact rc_retX (.tmp rfl .nil) ⟨a1, a0, Mem.sub d7 (.cons_cons _ (.cons_cons _ (.cons_cons _ (.cons_cons _ (List.Sublist.refl R_))))), a3, a2, a9, a8, rfl⟩
def ME49 (i2_ w2_ i3_ w3_ i4_ w4_ k_ : Nat) (s_ : (List Int) × Int × Int) (L_ : List Ent) : Prop := (∃ aV0_0 : PV, ∃ esV0_0 : List PV, L_ = (⟨.op i2_ w2_ 0, 29, 1, [aV0_0]⟩ :: ⟨aV0_0, 3, 1, esV0_0⟩ :: ⟨.op i3_ w3_ 0, 35, 1, [vi s_.2.1]⟩ :: ⟨.op i4_ w4_ 0, 3, 1, [vi s_.2.2]⟩ :: []) ∧ (All2 tI.R s_.1 esV0_0) ∧ (isL aV0_0 = true) ∧ (s_.1.length ≤ 4611686018427387904) ∧ (Wri aV0_0 esV0_0)) ∧ (s_.1.length + k_ ≤ 1000000)
theorem mono49 (a4 a2 a0 a5 a3 a1 : Nat) : ∀ k_ s_ L_, ME49 a4 a2 a0 a5 a3 a1 (k_ + 1) s_ L_ → ME49 a4 a2 a0 a5 a3 a1 k_ s_ L_ := fun k_ s_ L_ h_ => ⟨h_.1, by have hi_ := h_.2; omega⟩
theorem hv49 {c0 : api_Program} {w0 : PV} {b3 b6 b5 b7 b2 b1 : Nat} (b8 : api_Program.t.R c0 w0) : VIS Try.prog 49 [.fp w0, .op b3 b6 0, .op b5 b7 0, .op b2 b1 0] (fun a_ s_ => control_Check_1 a_ c0 s_.1 s_.2.1 s_.2.2) (ME49 b3 b6 b5 b7 b2 b1) (fun _ => True) := by
  intro k_ a_ va_ s_ L_ R_ h_ hg_ ra_ hE_ M_
  obtain ⟨⟨b4, b0, hL_, a9, a7, a8, a5⟩, hi_⟩ := hE_
  subst hL_
  obtain ⟨r_, b9, hX_, hZ_⟩ := f49_ok (x0 := a_) (c0 := c0) (c1 := s_.1) (c2 := s_.2.1) (c3 := s_.2.2) ra_ b8 a9 a7 a8 a5 M_ (by omega)
  obtain ⟨a6, a2, c4, a0, a3, a4, a1, hr_⟩ := hZ_
  subst hr_
  exact ⟨b9, _, hX_, ⟨⟨a6, a2, rfl, a0, a3, a4, a1⟩, by (have hk := check_step a_ c0 s_.1 s_.2.1 s_.2.2; show (control_Check_1 a_ c0 s_.1 s_.2.1 s_.2.2).2.1.length + k_ ≤ 1000000; omega)⟩, c4⟩

def RF16 (res : Int × Int) (r : PV) : Prop := r = .tup [vi res.1, vi res.2]
theorem f16_ok {x0 : api_Program} {v0 : PV} (r0 : api_Program.t.R x0 v0) (hs : csl x0.Control ≤ 1000) : FnR Try.prog 16 [v0] (.tup [vi ((control_Check x0).1), vi ((control_Check x0).2)]) := by
  refine fnS (R := RF16) text16 (fun _ h => h) rfl fun res hres => ?_
  unfold control_Check at hres
  refine sR ?_
  refine rd_op (ov_box rfl (TR.cnt api_Program.t r0)) ?_
  refine mI rfl ?_
  refine rd_allocO (x := vi 0) (Mem.nil ⟨0, []⟩) rfl rfl (fun a1 a2 f2 b1 => ?_)
  refine nS ?_
  refine rc_seq ?_
  refine sR ?_
  refine gL (api_Program.g_Control r0) rfl rfl rfl fun f5 c7 => ?_
  obtain ⟨f1, d5, hres⟩ := let_ex hres
  have c4 := f20_ok  c7 
  rw [d5] at c4
  refine cL c4 rfl rfl (clL_cons (TR.clo (tSl api_ControlNode.t) c7) clL_nil) ?_
  refine bN i_gtr rfl rfl ?_
  refine nS ?_
  refine rc_br hres rfl ?_ ?_ <;> clear hres <;> intro c hres <;> try simp only [qa, qaD] at c
  · refine sR ?_
    refine mI rfl ?_
    refine rd_storeO (k := 0) (v := vi 12) b1 rfl rfl rfl rfl (fun e6 b4 => ?_)
    replace b4 : Mem e6 [⟨.op a1 a2 0, 35, 1, [vi 12]⟩] := b4
    refine nS ?_
    subst hres
    exact rc_retV (.tmp rfl (.cell rfl (load_whole (k := 0) b4 rfl rfl) .nil)) (deep_closed (show closed (.tup _) = true from (clL_cons rfl (clL_cons rfl clL_nil)))) rfl
  · refine rc_skip ?_
    refine pn_seq ?_
    refine rc_seq ?_
    refine sR ?_
    refine gL (api_Program.g_Control r0) rfl rfl rfl fun f0 c6 => ?_
    obtain ⟨f4, d1, hres⟩ := let_ex hres
    have d3 := f22_ok  c6 
    rw [d1] at d3
    refine cL d3 rfl rfl (clL_cons (TR.clo (tSl api_ControlNode.t) c6) clL_nil) ?_
    refine bN i_gtr rfl rfl ?_
    refine nS ?_
    refine rc_br hres rfl ?_ ?_ <;> clear hres <;> intro c hres <;> try simp only [qa, qaD] at c
    · refine sR ?_
      refine mI rfl ?_
      refine rd_storeO (k := 0) (v := vi 14) b1 rfl rfl rfl rfl (fun d8 b5 => ?_)
      replace b5 : Mem d8 [⟨.op a1 a2 0, 35, 1, [vi 14]⟩] := b5
      refine nS ?_
      subst hres
      exact rc_retV (.tmp rfl (.cell rfl (load_whole (k := 0) b5 rfl rfl) .nil)) (deep_closed (show closed (.tup _) = true from (clL_cons rfl (clL_cons rfl clL_nil)))) rfl
    · refine rc_skip ?_
      refine pn_seq ?_
      refine sR ?_
      refine rd_allocO (x := vi 0) b1 rfl rfl (fun a4 a5 f3 e7 => ?_)
      refine rd_storeO (k := 0) (v := vi 0) e7 rfl rfl rfl rfl (fun e1 b0 => ?_)
      replace b0 : Mem e1 [⟨.op a4 a5 0, 3, 1, [vi 0]⟩, ⟨.op a1 a2 0, 35, 1, [vi 0]⟩] := b0
      refine nR ?_
      refine rd_allocO (x := nilS) b0 rfl rfl (fun a7 a8 c8 e5 => ?_)
      refine nS ?_
      refine rc_seq ?_
      refine rc_regionS ?_
      refine rs_step ?_
      obtain ⟨d7, d6, c5⟩ := api_Program.g_Control r0
      refine fA rfl d6 ?_
      refine rs_back ?_
      refine rs_step ?_
      refine lD c5 rfl rfl rfl ?_
      refine rs_back ?_
      refine rs_step ?_
      refine rd_op (v := .fn (.func 49) [] [.fp v0, .op a7 a8 0, .op a1 a2 0, .op a4 a5 0]) (ov_mkFunc rfl rfl) ?_
      refine rs_back ?_
      have e4 := mem_acc (sz := 1) (es := []) e5 3 (.inl ⟨none, rfl, rfl⟩) (by simp)
      have e3 : Mem c8 [⟨.op a7 a8 0, 29, 1, [nilS]⟩, ⟨nilS, 3, 1, ([] : List PV)⟩, ⟨.op a1 a2 0, 35, 1, [vi 0]⟩, ⟨.op a4 a5 0, 3, 1, [vi 0]⟩] := (Mem.front (k := 3) (Mem.front (k := 2) (Mem.front (k := 3) (Mem.front (k := 2) e4 rfl) rfl) rfl) rfl)
      obtain ⟨a9, d4, hres⟩ := let_ex hres
      obtain ⟨e0, e9, d2, c9, a6⟩ : ∃ h2 L2, FnX Try.prog 48 [d7, .fn (.func 49) [] [.fp v0, .op a7 a8 0, .op a1 a2 0, .op a4 a5 0]] c8 (vb a9.1) h2 ∧ ME49 a7 a8 a1 a2 a4 a5 0 a9.2 L2 ∧ Mem h2 (L2 ++ []) := by
        rw [← d4]
        exact f48_pre (mono49 a7 a8 a1 a2 a4 a5) (hv49 (c0 := x0) r0 ) _ _ (Nat.lt_succ_self _) (by exact fun _ _ => trivial) 0 _ (([] : List Int), 0, 0) [⟨.op a7 a8 0, 29, 1, [nilS]⟩, ⟨nilS, 3, 1, ([] : List PV)⟩, ⟨.op a1 a2 0, 35, 1, [vi 0]⟩, ⟨.op a4 a5 0, 3, 1, [vi 0]⟩] [] _ c5 (show ME49 a7 a8 a1 a2 a4 a5 (csl x0.Control + 0) (([] : List Int), 0, 0) [⟨.op a7 a8 0, 29, 1, [nilS]⟩, ⟨nilS, 3, 1, ([] : List PV)⟩, ⟨.op a1 a2 0, 35, 1, [vi 0]⟩, ⟨.op a4 a5 0, 3, 1, [vi 0]⟩] from ⟨⟨nilS, ([] : List PV), rfl, (show All2 tI.R ([] : List Int) [] from trivial), rfl, (by first | decide | simp), (.inl rfl)⟩, by (simp; omega)⟩) e3
      obtain ⟨⟨a0, a3, d0, b6, b8, b7, b9⟩, e8⟩ := c9
      subst d0
      replace a6 : Mem e0 [⟨.op a7 a8 0, 29, 1, [a0]⟩, ⟨a0, 3, 1, a3⟩, ⟨.op a1 a2 0, 35, 1, [vi a9.2.2.1]⟩, ⟨.op a4 a5 0, 3, 1, [vi a9.2.2.2]⟩] := a6
      refine rs_callX rfl rfl d2 ?_
      refine rs_nil ?_
      refine pn_seq ?_
      refine rc_seq ?_
      refine sR ?_
      refine rd_op (ov_load0 (k := 2) a6 rfl rfl rfl) ?_
      refine bN i_neq rfl rfl ?_
      refine nS ?_
      refine rc_br hres rfl ?_ ?_ <;> clear hres <;> intro c hres <;> try simp only [qa, qaD] at c
      · refine sR ?_
        refine rd_op (ov_load0 (k := 3) a6 rfl rfl rfl) ?_
        refine rd_op (ov_load0 (k := 2) a6 rfl rfl rfl) ?_
        refine mV rfl ?_
        refine rd_storeO (k := 2) (v := vi a9.2.2.1) a6 rfl rfl rfl rfl (fun e2 b3 => ?_)
        replace b3 : Mem e2 [⟨.op a7 a8 0, 29, 1, [a0]⟩, ⟨a0, 3, 1, a3⟩, ⟨.op a1 a2 0, 35, 1, [vi a9.2.2.1]⟩, ⟨.op a4 a5 0, 3, 1, [vi a9.2.2.2]⟩] := b3
        refine nS ?_
        subst hres
        exact rc_retV (.tmp rfl (.cell rfl (load_whole (k := 2) b3 rfl rfl) .nil)) (deep_closed (show closed (.tup _) = true from (clL_cons rfl (clL_cons rfl clL_nil)))) rfl
      · refine rc_skip ?_
        refine pn_seq ?_
        refine sR ?_
        refine mI rfl ?_
        refine rd_storeO (k := 2) (v := vi 0) a6 rfl rfl rfl rfl (fun d9 b2 => ?_)
        replace b2 : Mem d9 [⟨.op a7 a8 0, 29, 1, [a0]⟩, ⟨a0, 3, 1, a3⟩, ⟨.op a1 a2 0, 35, 1, [vi 0]⟩, ⟨.op a4 a5 0, 3, 1, [vi a9.2.2.2]⟩] := b2
        refine nS ?_
        subst hres
        exact rc_retV (.tmp rfl (.cell rfl (load_whole (k := 2) b2 rfl rfl) .nil)) (deep_closed (show closed (.tup _) = true from (clL_cons rfl (clL_cons rfl clL_nil)))) rfl

def RF66 (res : (List api_Guard)) (r : PV) : Prop := (tSl api_Guard.t).R res r
theorem f66_ok {x0 : Bool} {c0 : List api_Guard} {c1 : Int} {w0 : PV} (d2 : (tSl api_Guard.t).R c0 w0) (hb : c0.length ≤ 1000) : ∃ r, FnR Try.prog 66 [vb x0, .fp w0, .fp (vi c1)] r ∧ (tSl api_Guard.t).R (units_Build_1_1 x0 c0 c1) r := by
  refine fnT (R := RF66) text66 rfl fun res hres => ?_
  unfold units_Build_1_1 at hres
  refine sR ?_
  refine rd_op (v := nilS) (ov_move rfl) ?_
  refine nS ?_
  refine rc_seq ?_
  refine rc_regionU ?_
  refine rx_step ?_
  refine lD d2 rfl rfl rfl ?_
  refine rx_back ?_
  have b8 : Mem ⟨0, []⟩ [] := (Mem.nil ⟨0, []⟩)
  obtain ⟨a9, a8, hres⟩ := let_ex hres
  obtain ⟨c9, c6, b2, a7⟩ := f64x_ok (x0 := c0) d2 b8 (by first | assumption | omega)
  rw [a8] at a7
  obtain ⟨b6, a0, c7, a1, a5, b5, a4, a2⟩ := a7
  replace a2 := a2.symm; subst a2
  refine rx_callXc rfl rfl b2 ?_
  have d0 := cg_use a8
  refine rx_step ?_
  refine lR rfl rfl rfl ?_
  refine rx_back ?_
  refine rx_step ?_
  refine mV rfl ?_
  refine rx_back ?_
  refine rx_step ?_
  refine rd_op (v := .agg [vi c1, vb x0]) (ov_build (cs := [vi c1, vb x0]) rfl rfl) ?_
  refine rx_back ?_
  refine rx_step ?_
  refine rd_op (v := .fs true [.agg [vi c1, vb x0]]) (ov_bslice rfl (all_cons rfl all_nil)) ?_
  have b7 : (tSl api_Guard.t).R ([({ Unit := c1, Want := x0 } : api_Guard)] : List api_Guard) (.fs true [.agg [vi c1, vb x0]]) := sl_fs ⟨rfl, trivial⟩ (by simp)
  refine rx_back ?_
  refine rx_step ?_
  obtain ⟨a3, b3, a6⟩ := src_of (t := api_Guard.t) (h := c6) b7
  have b1 : fits (a0.length + a3.length) 16 = true := by rw [All2.length_eq a1, All2.length_eq a6]; (try simp only [List.length_cons, List.length_nil]); exact fits_of (by first | omega | (simp only [List.length_append, List.length_cons, List.length_nil] at *; omega)) (by first | omega | (simp only [List.length_append, List.length_cons, List.length_nil] at *; omega))
  refine rd_appW (k := 0) (es := a0) (news := a3) c7 rfl rfl rfl a5 a4 b3 b1 (fun d5 d4 c4 d1 c8 => ?_)
  have b0 : All2 api_Guard.t.R (a9 ++ ([({ Unit := c1, Want := x0 } : api_Guard)] : List api_Guard)) (a0 ++ a3) := All2.app a1 a6
  have b4 : (a9 ++ ([({ Unit := c1, Want := x0 } : api_Guard)] : List api_Guard)).length ≤ 4611686018427387904 := by rw [← All2.length_eq b0, List.length_append]; exact fits_len b1
  refine rx_back ?_
  refine rx_step ?_
  refine mV rfl ?_
  refine rx_back ?_
  refine rx_nil ?_
  refine pn_seq ?_
  obtain ⟨d3, b9, c5⟩ := own_sl (P := Try.prog) (k := 0) (t := api_Guard.t) c8 rfl c4 b0 (Nat.le_trans b4 (by decide))
  subst hres
  exact rc_retV (.tmp rfl .nil) b9 c5

def RF63 (i2_ w2_ i3_ w3_ : Nat) (R_ : List Ent) (res : (List api_Unit)) (r : PV) (h : Heap) : Prop := ∃ aF0_0 : PV, ∃ esF0_0 : List PV, Mem h (⟨.op i2_ w2_ 0, 48, 1, [aF0_0]⟩ :: ⟨aF0_0, 58, 3, esF0_0⟩ :: ⟨.op i3_ w3_ 0, 102, 1, [.fn (.func 63) [] [.op i2_ w2_ 0, .op i3_ w3_ 0]]⟩ :: R_) ∧ (All2 api_Unit.t.R res esF0_0) ∧ (isL aF0_0 = true) ∧ (res.length ≤ 4611686018427387904) ∧ (Wri aF0_0 esF0_0) ∧ r = .tup []
theorem units_Build_1_L1_ok {S : List Fr} {res : (List api_Unit)} {x0 : List api_ControlNode} {x1 : List api_Guard} {c0 : List api_Unit} {rec_ : (List api_ControlNode) → (List api_Guard) → (List api_Unit) → (List api_Unit)} {mu_ : Nat} {v0 v1 : PV} {R_ : List Ent} {c4 : PV} {b9 : List PV} {a9 a7 a8 b0 : Nat} (r0 : (tSl api_ControlNode.t).R x0 v0) (r1 : (tSl api_Guard.t).R x1 v1) (i8 : isL c4 = true) (i2 : c0.length ≤ 4611686018427387904) (i7 : Wri c4 b9) (gl : GU x0) (hc : c0.length + csl x0 ≤ 1000) (hg : x1.length + csl x0 ≤ 1000) (ihR : ∀ {z0 : List api_ControlNode} {z1 : List api_Guard} {zc0 : List api_Unit} {s0 q5 c4 : PV} {b9 : List PV} {R_ : List Ent} {h_ : Heap} {a9 a7 a8 b0 : Nat} (u1 : (tSl api_ControlNode.t).R z0 s0) (u0 : (tSl api_Guard.t).R z1 q5) (o0 : All2 api_Unit.t.R zc0 b9) (i8 : isL c4 = true) (i2 : zc0.length ≤ 4611686018427387904) (i7 : Wri c4 b9) (M_ : Mem h_ (⟨.op a9 a7 0, 48, 1, [c4]⟩ :: ⟨c4, 58, 3, b9⟩ :: ⟨.op a8 b0 0, 102, 1, [.fn (.func 63) [] [.op a9 a7 0, .op a8 b0 0]]⟩ :: R_)) (gl : GU z0) (hc : zc0.length + csl z0 ≤ 1000) (hg : z1.length + csl z0 ≤ 1000), csl z0 < mu_ → ∃ r q6, FnX Try.prog 63 [s0, q5, .op a9 a7 0, .op a8 b0 0] h_ r q6 ∧ RF63 a9 a7 a8 b0 R_ (rec_ z0 z1 zc0) r q6) (hmu : mu_ = csl x0) (hrec : ∀ z0 z1 z2, (rec_ z0 z1 z2).length ≤ z2.length + csl z0) {K0 : (List api_Unit) → (List api_Unit)}
    (t9 : ∀ {a1 : List api_Unit} {a2 : List PV} {a3 : PV} (b5 : All2 api_Unit.t.R a1 a2) (b2 : isL a3 = true) (b7 : Wri a3 a2) (c7 : a1.length ≤ 4611686018427387904) {h : Heap} (M0 : Mem h (⟨.op a9 a7 0, 48, 1, [a3]⟩ :: ⟨a3, 58, 3, a2⟩ :: ⟨.op a8 b0 0, 102, 1, [.fn (.func 63) [] [.op a9 a7 0, .op a8 b0 0]]⟩ :: R_)), K0 a1 = res → PX Try.prog 0 S (retPost Try.prog [] (RF63 a9 a7 a8 b0 R_ res)) [] h) :
    ∀ {m : Nat} {a0 : Int} {a1 : List api_Unit} {a2 : List PV} {a3 : PV} (b5 : All2 api_Unit.t.R a1 a2) (b2 : isL a3 = true) (b7 : Wri a3 a2) (c7 : a1.length ≤ 4611686018427387904) (r4 : m = Int.toNat ((x0.length : Int) - a0)) (l3 : 0 ≤ a0) (h8 : a1.length + csl (x0.drop a0.toNat) ≤ c0.length + csl x0) {h : Heap} (M0 : Mem h (⟨.op a9 a7 0, 48, 1, [a3]⟩ :: ⟨a3, 58, 3, a2⟩ :: ⟨.op a8 b0 0, 102, 1, [.fn (.func 63) [] [.op a9 a7 0, .op a8 b0 0]]⟩ :: R_)), units_Build_1_L1 x0 x1 rec_ K0 m a0 a1 = res → RC Try.prog (.loop ac63_L1) S (retPost Try.prog [] (RF63 a9 a7 a8 b0 R_ res)) [(13, vi a0), (12, vi (x0.length : Int)), (11, v0), (5, .fp v1), (3, .op a8 b0 0), (2, .op a9 a7 0)] h := by
  have hc' := hc
  try simp only [qa, qaD] at hc'
  intro m
  induction m with
  | zero =>
    intro a0 a1 a2 a3 b5 b2 b7 c7 r4 l3 h8 h M0 hres
    rw [units_Build_1_L1] at hres
    refine rc_loop ?_
    refine sR ?_
    refine bN i_lss rfl rfl ?_
    refine nS ?_
    refine rc_seq ?_
    refine rc_cond rfl ?_ ?_ <;> intro c <;> try simp only [qa, qaD] at c
    · omega
    refine rc_exit ?_
    refine px_seq ?_
    refine px_again ?_
    exact wP (t9 b5 b2 b7 c7 (Mem.sub M0 (.cons_cons _ (.cons_cons _ (.cons_cons _ (List.Sublist.refl R_))))) hres) rfl
  | succ m ih =>
    intro a0 a1 a2 a3 b5 b2 b7 c7 r4 l3 h8 h M0 hres
    rw [units_Build_1_L1] at hres
    refine rc_loop ?_
    refine sR ?_
    refine bN i_lss rfl rfl ?_
    refine nS ?_
    refine rc_seq ?_
    refine rc_cond rfl ?_ ?_ <;> intro c <;> try simp only [qa, qaD] at c
    rotate_left
    · omega
    refine rc_skip ?_
    refine pn_seq ?_
    refine rc_seq ?_
    refine rc_block ?_
    refine sR ?_
    obtain ⟨b1, o4, c8⟩ := sl_idx (i := a0) r0 (by omega) (by omega)
    refine rd_op (ov_iaddr rfl rfl o4) ?_
    refine lD c8 rfl rfl rfl ?_
    refine rd_allocO (x := .agg [vi 0, vi 0, nilS, nilS, nilS]) M0 rfl rfl (fun a6 a5 t7 o7 => ?_)
    refine rd_storeO (k := 0) (v := b1) o7 rfl rfl rfl (TR.cnt api_ControlNode.t c8) (fun o3 g5 => ?_)
    replace g5 : Mem o3 (⟨.op a6 a5 0, 40, 5, [b1]⟩ :: ⟨.op a9 a7 0, 48, 1, [a3]⟩ :: ⟨a3, 58, 3, a2⟩ :: ⟨.op a8 b0 0, 102, 1, [.fn (.func 63) [] [.op a9 a7 0, .op a8 b0 0]]⟩ :: R_) := g5
    refine nR ?_
    refine rd_op (ov_faddrO rfl) ?_
    refine rd_op (ov_loadf (k := 0) g5 rfl rfl (api_ControlNode.g_Table c8)) ?_
    refine lD r1 rfl rfl rfl ?_
    obtain ⟨d0, h3, hres⟩ := let_ex hres
    obtain ⟨a4, n2, f6⟩ := f64_ok  r1 (by first | omega | exact gu_cond gl (by omega) (by omega) | exact gu_then gl (by omega) (by omega) | exact gu_else gl (by omega) (by omega) | (have hk := csl_drop (l := x0) (i := a0) (by omega) (by omega); have b8 := csl_ix (l := x0) (i := a0) (by omega) (by omega); (try simp only [ub11_len, under_len, List.length_append, List.length_cons, List.length_nil] at *); omega))
    rw [h3] at f6
    have r6 := cg_use h3
    refine cL n2 rfl rfl (clL_cons (TR.clo (tSl api_Guard.t) r1) clL_nil) ?_
    refine rd_op (v := .agg [vi ((ix x0 a0).Table), nilS, a4]) (ov_build (cs := [vi ((ix x0 a0).Table), nilS, a4]) rfl (by simp only [buildV, cells_one (TR.cnt (tSl api_Guard.t) f6) (TR.agg (tSl api_Guard.t) f6)]; rfl)) ?_
    refine rd_allocO (x := .agg [vi 0, nilS, nilS]) g5 rfl rfl (fun b4 b3 s8 q4 => ?_)
    refine rd_storeO (k := 0) (v := .agg [vi ((ix x0 a0).Table), nilS, a4]) q4 rfl rfl rfl rfl (fun p4 d2 => ?_)
    replace d2 : Mem p4 (⟨.op b4 b3 0, 58, 3, [.agg [vi ((ix x0 a0).Table), nilS, a4]]⟩ :: ⟨.op a6 a5 0, 40, 5, [b1]⟩ :: ⟨.op a9 a7 0, 48, 1, [a3]⟩ :: ⟨a3, 58, 3, a2⟩ :: ⟨.op a8 b0 0, 102, 1, [.fn (.func 63) [] [.op a9 a7 0, .op a8 b0 0]]⟩ :: R_) := d2
    refine nS ?_
    refine rc_seq ?_
    refine sR ?_
    refine rd_op (ov_faddrO rfl) ?_
    refine rd_op (ov_loadf (k := 1) d2 rfl rfl (api_ControlNode.g_Kind c8)) ?_
    refine bN i_eql rfl rfl ?_
    refine nS ?_
    refine rc_br hres rfl ?_ ?_ <;> clear hres <;> intro c hres <;> try simp only [qa, qaD] at c
    · refine sR ?_
      refine rd_op (ov_faddrO rfl) ?_
      refine rd_storeF (k := 0) (v := vi (-1)) d2 rfl rfl rfl rfl rfl (by first | decide | (simp only [List.length_cons, List.length_nil]; omega) | simp) (fun p2 g6 => ?_)
      replace g6 : Mem p2 (⟨.op b4 b3 0, 58, 3, [.agg [vi (-1), nilS, a4]]⟩ :: ⟨.op a6 a5 0, 40, 5, [b1]⟩ :: ⟨.op a9 a7 0, 48, 1, [a3]⟩ :: ⟨a3, 58, 3, a2⟩ :: ⟨.op a8 b0 0, 102, 1, [.fn (.func 63) [] [.op a9 a7 0, .op a8 b0 0]]⟩ :: R_) := g6
      refine nS ?_
      refine rc_region ?_
      refine rd_op (ov_faddrO rfl) ?_
      obtain ⟨o2, p3, l9⟩ := api_ControlNode.g_Cond c8
      refine rd_op (ov_loadf (k := 1) g6 rfl rfl p3) ?_
      obtain ⟨g3, h5, hres⟩ := let_ex hres
      obtain ⟨b6, n3, g4⟩ := f65_ok  l9 (by first | omega | exact gu_cond gl (by omega) (by omega) | exact gu_then gl (by omega) (by omega) | exact gu_else gl (by omega) (by omega) | (have hk := csl_drop (l := x0) (i := a0) (by omega) (by omega); have b8 := csl_ix (l := x0) (i := a0) (by omega) (by omega); (try simp only [ub11_len, under_len, List.length_append, List.length_cons, List.length_nil] at *); omega))
      rw [h5] at g4
      have r3 := ce_use h5
      refine cL n3 rfl rfl (clL_cons (TR.clo (tSl api_ExprNode.t) l9) clL_nil) ?_
      refine rd_op (ov_faddrO rfl) ?_
      refine rd_storeF (k := 0) (v := b6) g6 rfl rfl rfl (cells_one (TR.cnt (tSl api_ExprNode.t) g4) (TR.agg (tSl api_ExprNode.t) g4)) rfl (by first | decide | (simp only [List.length_cons, List.length_nil]; omega) | simp) (fun o9 e1 => ?_)
      replace e1 : Mem o9 (⟨.op b4 b3 0, 58, 3, [.agg [vi (-1), b6, a4]]⟩ :: ⟨.op a6 a5 0, 40, 5, [b1]⟩ :: ⟨.op a9 a7 0, 48, 1, [a3]⟩ :: ⟨a3, 58, 3, a2⟩ :: ⟨.op a8 b0 0, 102, 1, [.fn (.func 63) [] [.op a9 a7 0, .op a8 b0 0]]⟩ :: R_) := e1
      refine nR ?_
      refine rd_op (ov_load0 (k := 2) e1 rfl rfl (mem_one (k := 3) e1 rfl b2).2) ?_
      refine rd_op (ov_bi rfl (own_len (k := 3) e1 rfl Try.underlying48 b2 b5 _)) ?_
      refine rd_allocO (x := vi 0) e1 rfl rfl (fun k7 l6 t6 m7 => ?_)
      refine rd_storeO (k := 0) (v := vi (a1.length : Int)) m7 rfl rfl rfl rfl (fun k0 e8 => ?_)
      replace e8 : Mem k0 (⟨.op k7 l6 0, 3, 1, [vi (a1.length : Int)]⟩ :: ⟨.op b4 b3 0, 58, 3, [.agg [vi (-1), b6, a4]]⟩ :: ⟨.op a6 a5 0, 40, 5, [b1]⟩ :: ⟨.op a9 a7 0, 48, 1, [a3]⟩ :: ⟨a3, 58, 3, a2⟩ :: ⟨.op a8 b0 0, 102, 1, [.fn (.func 63) [] [.op a9 a7 0, .op a8 b0 0]]⟩ :: R_) := e8
      refine nS ?_
      refine rc_seq ?_
      refine rc_regionS ?_
      refine rs_step ?_
      refine rd_op (ov_load0 (k := 3) e8 rfl rfl (mem_one (k := 4) e8 rfl b2).2) ?_
      refine rs_back ?_
      refine rs_step ?_
      refine rd_op (ov_load0 (k := 1) e8 rfl rfl rfl) ?_
      refine rs_back ?_
      refine rs_step ?_
      refine rd_op (v := .fs true [.agg [vi (-1), b6, a4]]) (ov_bslice rfl (all_cons rfl all_nil)) ?_
      have o1 : (tSl api_Unit.t).R ([({ Table := (-1), Cond := g3, Guards := d0 } : api_Unit)] : List api_Unit) (.fs true [.agg [vi (-1), b6, a4]]) := sl_fs ⟨⟨b6, a4, rfl, g4, f6⟩, trivial⟩ (by simp)
      refine rs_back ?_
      refine rs_step ?_
      obtain ⟨c5, l2, g8⟩ := src_of (t := api_Unit.t) (h := k0) o1
      have j1 : fits (a2.length + c5.length) 56 = true := by rw [All2.length_eq b5, All2.length_eq g8]; (try simp only [List.length_cons, List.length_nil]); exact fits_of (by first | omega | (have hk := csl_drop (l := x0) (i := a0) (by omega) (by omega); have b8 := csl_ix (l := x0) (i := a0) (by omega) (by omega); (try simp only [ub11_len, under_len, List.length_append, List.length_cons, List.length_nil] at *); omega)) (by first | omega | (have hk := csl_drop (l := x0) (i := a0) (by omega) (by omega); have b8 := csl_ix (l := x0) (i := a0) (by omega) (by omega); (try simp only [ub11_len, under_len, List.length_append, List.length_cons, List.length_nil] at *); omega))
      refine rd_appW (k := 4) (es := a2) (news := c5) e8 rfl rfl rfl b2 b7 l2 j1 (fun c9 s7 j6 j7 k3 => ?_)
      have k5 : All2 api_Unit.t.R (a1 ++ ([({ Table := (-1), Cond := g3, Guards := d0 } : api_Unit)] : List api_Unit)) (a2 ++ c5) := All2.app b5 g8
      have m3 : (a1 ++ ([({ Table := (-1), Cond := g3, Guards := d0 } : api_Unit)] : List api_Unit)).length ≤ 4611686018427387904 := by rw [← All2.length_eq k5, List.length_append]; exact fits_len j1
      refine rs_back ?_
      refine rs_step ?_
      refine rd_storeO (k := 3) (v := c9) k3 rfl rfl rfl (mem_cnt1 (k := 4) k3 rfl j6) (fun q2 i5 => ?_)
      replace i5 : Mem q2 (⟨.op k7 l6 0, 3, 1, [vi (a1.length : Int)]⟩ :: ⟨.op b4 b3 0, 58, 3, [.agg [vi (-1), b6, a4]]⟩ :: ⟨.op a6 a5 0, 40, 5, [b1]⟩ :: ⟨.op a9 a7 0, 48, 1, [c9]⟩ :: ⟨c9, 58, 3, (a2 ++ c5)⟩ :: ⟨.op a8 b0 0, 102, 1, [.fn (.func 63) [] [.op a9 a7 0, .op a8 b0 0]]⟩ :: R_) := i5
      refine rs_back ?_
      refine rs_freezeP (k := 0) (E' := [(35, c9), (34, .fs true [.agg [vi (-1), b6, a4]]), (33, .agg [vi (-1), b6, a4]), (32, a3), (9, .fp (vi (a1.length : Int))), (31, vi (a1.length : Int)), (30, a3), (29, .op b4 b3 (0 + 1)), (28, b6), (27, o2), (26, .op a6 a5 (0 + 2)), (25, .op b4 b3 (0 + 0)), (24, vb (decide (((ix x0 a0).Kind) = 2))), (23, vi ((ix x0 a0).Kind)), (22, .op a6 a5 (0 + 0)), (8, .op b4 b3 0), (21, .agg [vi ((ix x0 a0).Table), nilS, a4]), (20, a4), (19, v1), (18, vi ((ix x0 a0).Table)), (17, .op a6 a5 (0 + 1)), (7, .op a6 a5 0), (16, b1), (15, .fp b1), (14, vb (decide (a0 < (x0.length : Int)))), (13, vi a0), (12, vi (x0.length : Int)), (11, v0), (5, .fp v1), (3, .op a8 b0 0), (2, .op a9 a7 0)]) i5 rfl (frz_keep rfl (frz_keep rfl (frz_keep rfl (frz_keep rfl (frz_turn rfl (frz_keep rfl (frz_keep rfl (frz_keep rfl (frz_keep rfl (frz_keep rfl (frz_keep rfl (frz_keep rfl (frz_keep rfl (frz_keep rfl (frz_keep rfl (frz_keep rfl (frz_keep rfl (frz_keep rfl (frz_keep rfl (frz_keep rfl (frz_keep rfl (frz_keep rfl (frz_keep rfl (frz_keep rfl (frz_keep rfl (frz_keep rfl (frz_keep rfl (frz_keep rfl (frz_keep rfl (frz_keep rfl (frz_keep rfl frz_nil))))))))))))))))))))))))))))))) (fun m0 f8 => ?_)
      replace f8 : Mem m0 (⟨.op b4 b3 0, 58, 3, [.agg [vi (-1), b6, a4]]⟩ :: ⟨.op a6 a5 0, 40, 5, [b1]⟩ :: ⟨.op a9 a7 0, 48, 1, [c9]⟩ :: ⟨c9, 58, 3, (a2 ++ c5)⟩ :: ⟨.op a8 b0 0, 102, 1, [.fn (.func 63) [] [.op a9 a7 0, .op a8 b0 0]]⟩ :: R_) := f8
      refine rs_nil ?_
      refine pn_seq ?_
      refine sR ?_
      have k6 : (tFn Try.prog tB (tSl api_Guard.t)).R (fun a_ => units_Build_1_1 a_ x1 (a1.length : Int)) (.fn (.func 66) [] [.fp v1, .fp (vi (a1.length : Int))]) := tFn_ofC (clL_cons (clo_fp (TR.clo (tSl api_Guard.t) r1)) (clL_cons rfl clL_nil)) fun a va ra => by obtain rfl := ra; obtain ⟨r, h1, h2⟩ := f66_ok (c1 := (a1.length : Int)) r1 (by first | omega | exact gu_cond gl (by omega) (by omega) | exact gu_then gl (by omega) (by omega) | exact gu_else gl (by omega) (by omega) | (have hk := csl_drop (l := x0) (i := a0) (by omega) (by omega); have b8 := csl_ix (l := x0) (i := a0) (by omega) (by omega); (try simp only [ub11_len, under_len, List.length_append, List.length_cons, List.length_nil] at *); omega)); exact ⟨r, h1, h2⟩
      refine rd_op (v := .fn (.func 66) [] [.fp v1, .fp (vi (a1.length : Int))]) (ov_mkFunc rfl rfl) ?_
      refine mV rfl ?_
      refine nS ?_
      refine rc_seq ?_
      refine rc_regionT ?_
      refine rd_op (ov_load0 (k := 4) f8 rfl rfl rfl) ?_
      refine rd_op (ov_faddrO rfl) ?_
      obtain ⟨t3, p7, q1⟩ := api_ControlNode.g_Then c8
      refine rd_op (ov_loadf (k := 1) f8 rfl rfl p7) ?_
      refine mV rfl ?_
      refine rd_callF rfl k6 rfl (show tB.R true (vb true) from rfl) (fun s5 p5 => ?_)
      refine rd_nil (pn_lastS ?_)
      have p1 : Mem m0 (⟨.op a9 a7 0, 48, 1, [c9]⟩ :: ⟨c9, 58, 3, (a2 ++ c5)⟩ :: ⟨.op a8 b0 0, 102, 1, [.fn (.func 63) [] [.op a9 a7 0, .op a8 b0 0]]⟩ :: ⟨.op b4 b3 0, 58, 3, [.agg [vi (-1), b6, a4]]⟩ :: ⟨.op a6 a5 0, 40, 5, [b1]⟩ :: R_) := (Mem.front (k := 4) (Mem.front (k := 4) (Mem.front (k := 4) f8 rfl) rfl) rfl)
      obtain ⟨n5, i0, hres⟩ := let_ex hres
      obtain ⟨r9, p6, k9, g9⟩ := ihR (z0 := ((ix x0 a0).Then)) (z1 := ((fun a_ => units_Build_1_1 a_ x1 (a1.length : Int)) true)) (zc0 := (a1 ++ ([({ Table := (-1), Cond := g3, Guards := d0 } : api_Unit)] : List api_Unit))) q1 p5 k5 j6 m3 j7 p1 (by first | omega | exact gu_cond gl (by omega) (by omega) | exact gu_then gl (by omega) (by omega) | exact gu_else gl (by omega) (by omega) | (have hk := csl_drop (l := x0) (i := a0) (by omega) (by omega); have b8 := csl_ix (l := x0) (i := a0) (by omega) (by omega); (try simp only [ub11_len, under_len, List.length_append, List.length_cons, List.length_nil] at *); omega)) (by first | omega | exact gu_cond gl (by omega) (by omega) | exact gu_then gl (by omega) (by omega) | exact gu_else gl (by omega) (by omega) | (have hk := csl_drop (l := x0) (i := a0) (by omega) (by omega); have b8 := csl_ix (l := x0) (i := a0) (by omega) (by omega); (try simp only [ub11_len, under_len, List.length_append, List.length_cons, List.length_nil] at *); omega)) (by first | omega | exact gu_cond gl (by omega) (by omega) | exact gu_then gl (by omega) (by omega) | exact gu_else gl (by omega) (by omega) | (have hk := csl_drop (l := x0) (i := a0) (by omega) (by omega); have b8 := csl_ix (l := x0) (i := a0) (by omega) (by omega); (try simp only [ub11_len, under_len, List.length_append, List.length_cons, List.length_nil] at *); omega)) (by first | omega | (have hk := csl_drop (l := x0) (i := a0) (by omega) (by omega); have b8 := csl_ix (l := x0) (i := a0) (by omega) (by omega); (try simp only [ub11_len, under_len, List.length_append, List.length_cons, List.length_nil] at *); omega))
      rw [i0] at g9
      obtain ⟨d3, d9, i4, f1, d6, e9, e6, g0⟩ := g9
      replace g0 := g0.symm; subst g0
      refine rs_callXc rfl rfl k9 ?_
      have q9 := bl_use hrec i0
      refine rs_nil ?_
      refine pn_seq ?_
      refine rc_regionT ?_
      refine rd_op (ov_load0 (k := 2) i4 rfl rfl rfl) ?_
      refine rd_op (ov_faddrO rfl) ?_
      obtain ⟨s6, q0, o8⟩ := api_ControlNode.g_Else c8
      refine rd_op (ov_loadf (k := 4) i4 rfl rfl q0) ?_
      refine mV rfl ?_
      refine rd_callF rfl k6 rfl (show tB.R false (vb false) from rfl) (fun s4 o5 => ?_)
      refine rd_nil (pn_lastS ?_)
      have m5 : Mem p6 (⟨.op a9 a7 0, 48, 1, [d3]⟩ :: ⟨d3, 58, 3, d9⟩ :: ⟨.op a8 b0 0, 102, 1, [.fn (.func 63) [] [.op a9 a7 0, .op a8 b0 0]]⟩ :: ⟨.op b4 b3 0, 58, 3, [.agg [vi (-1), b6, a4]]⟩ :: ⟨.op a6 a5 0, 40, 5, [b1]⟩ :: R_) := (Mem.front (k := 2) (Mem.front (k := 2) (Mem.front (k := 2) i4 rfl) rfl) rfl)
      obtain ⟨t8, h4, hres⟩ := let_ex hres
      obtain ⟨r5, t4, l8, i1⟩ := ihR (z0 := ((ix x0 a0).Else)) (z1 := ((fun a_ => units_Build_1_1 a_ x1 (a1.length : Int)) false)) (zc0 := n5) o8 o5 f1 d6 e9 e6 m5 (by first | omega | exact gu_cond gl (by omega) (by omega) | exact gu_then gl (by omega) (by omega) | exact gu_else gl (by omega) (by omega) | (have hk := csl_drop (l := x0) (i := a0) (by omega) (by omega); have b8 := csl_ix (l := x0) (i := a0) (by omega) (by omega); (try simp only [ub11_len, under_len, List.length_append, List.length_cons, List.length_nil] at *); omega)) (by first | omega | exact gu_cond gl (by omega) (by omega) | exact gu_then gl (by omega) (by omega) | exact gu_else gl (by omega) (by omega) | (have hk := csl_drop (l := x0) (i := a0) (by omega) (by omega); have b8 := csl_ix (l := x0) (i := a0) (by omega) (by omega); (try simp only [ub11_len, under_len, List.length_append, List.length_cons, List.length_nil] at *); omega)) (by first | omega | exact gu_cond gl (by omega) (by omega) | exact gu_then gl (by omega) (by omega) | exact gu_else gl (by omega) (by omega) | (have hk := csl_drop (l := x0) (i := a0) (by omega) (by omega); have b8 := csl_ix (l := x0) (i := a0) (by omega) (by omega); (try simp only [ub11_len, under_len, List.length_append, List.length_cons, List.length_nil] at *); omega)) (by first | omega | (have hk := csl_drop (l := x0) (i := a0) (by omega) (by omega); have b8 := csl_ix (l := x0) (i := a0) (by omega) (by omega); (try simp only [ub11_len, under_len, List.length_append, List.length_cons, List.length_nil] at *); omega))
      rw [h4] at i1
      obtain ⟨l1, i9, p0, d5, f3, e7, f5, g1⟩ := i1
      replace g1 := g1.symm; subst g1
      refine rs_callXc rfl rfl l8 ?_
      have r2 := bl_use hrec h4
      refine rs_nil ?_
      refine pn_blk ?_
      refine pn_seq ?_
      refine rc_region ?_
      refine bN i_add rfl rfl ?_
      refine mV rfl ?_
      refine rd_nil ?_
      refine pn_again ?_
      have hbd := sl_bound r0
      have hinc : wr (a0 + 1) = a0 + 1 := wr_of (by omega) (by omega)
      erw [hinc]
      exact wC (ih  d5 f3 f5 e7 (by omega) (by omega) (by first | omega | (have hk := csl_drop (l := x0) (i := a0) (by omega) (by omega); have b8 := csl_ix (l := x0) (i := a0) (by omega) (by omega); (try simp only [ub11_len, under_len, List.length_append, List.length_cons, List.length_nil] at *); omega)) (Mem.sub p0 (.cons_cons _ (.cons_cons _ (.cons_cons _ (.cons _ (.cons _ (List.Sublist.refl R_))))))) hres) rfl
    · refine rc_skip ?_
      refine pn_seq ?_
      refine sR ?_
      refine rd_op (ov_load0 (k := 2) d2 rfl rfl (mem_one (k := 3) d2 rfl b2).2) ?_
      refine rd_op (ov_bi rfl (own_len (k := 3) d2 rfl Try.underlying48 b2 b5 _)) ?_
      refine rd_allocO (x := vi 0) d2 rfl rfl (fun m2 k8 t0 n6 => ?_)
      refine rd_storeO (k := 0) (v := vi (a1.length : Int)) n6 rfl rfl rfl rfl (fun j3 d7 => ?_)
      replace d7 : Mem j3 (⟨.op m2 k8 0, 3, 1, [vi (a1.length : Int)]⟩ :: ⟨.op b4 b3 0, 58, 3, [.agg [vi ((ix x0 a0).Table), nilS, a4]]⟩ :: ⟨.op a6 a5 0, 40, 5, [b1]⟩ :: ⟨.op a9 a7 0, 48, 1, [a3]⟩ :: ⟨a3, 58, 3, a2⟩ :: ⟨.op a8 b0 0, 102, 1, [.fn (.func 63) [] [.op a9 a7 0, .op a8 b0 0]]⟩ :: R_) := d7
      refine nS ?_
      refine rc_seq ?_
      refine rc_regionS ?_
      refine rs_step ?_
      refine rd_op (ov_load0 (k := 3) d7 rfl rfl (mem_one (k := 4) d7 rfl b2).2) ?_
      refine rs_back ?_
      refine rs_step ?_
      refine rd_op (ov_load0 (k := 1) d7 rfl rfl rfl) ?_
      refine rs_back ?_
      refine rs_step ?_
      refine rd_op (v := .fs true [.agg [vi ((ix x0 a0).Table), nilS, a4]]) (ov_bslice rfl (all_cons rfl all_nil)) ?_
      have m8 : (tSl api_Unit.t).R ([({ Table := (ix x0 a0).Table, Cond := ([] : List api_ExprNode), Guards := d0 } : api_Unit)] : List api_Unit) (.fs true [.agg [vi ((ix x0 a0).Table), nilS, a4]]) := sl_fs ⟨⟨nilS, a4, rfl, sl_nil, f6⟩, trivial⟩ (by simp)
      refine rs_back ?_
      refine rs_step ?_
      obtain ⟨c6, j5, g7⟩ := src_of (t := api_Unit.t) (h := j3) m8
      have l4 : fits (a2.length + c6.length) 56 = true := by rw [All2.length_eq b5, All2.length_eq g7]; (try simp only [List.length_cons, List.length_nil]); exact fits_of (by first | omega | (have hk := csl_drop (l := x0) (i := a0) (by omega) (by omega); have b8 := csl_ix (l := x0) (i := a0) (by omega) (by omega); (try simp only [ub11_len, under_len, List.length_append, List.length_cons, List.length_nil] at *); omega)) (by first | omega | (have hk := csl_drop (l := x0) (i := a0) (by omega) (by omega); have b8 := csl_ix (l := x0) (i := a0) (by omega) (by omega); (try simp only [ub11_len, under_len, List.length_append, List.length_cons, List.length_nil] at *); omega))
      refine rd_appW (k := 4) (es := a2) (news := c6) d7 rfl rfl rfl b2 b7 j5 l4 (fun d1 s2 l5 j4 l0 => ?_)
      have j2 : All2 api_Unit.t.R (a1 ++ ([({ Table := (ix x0 a0).Table, Cond := ([] : List api_ExprNode), Guards := d0 } : api_Unit)] : List api_Unit)) (a2 ++ c6) := All2.app b5 g7
      have j8 : (a1 ++ ([({ Table := (ix x0 a0).Table, Cond := ([] : List api_ExprNode), Guards := d0 } : api_Unit)] : List api_Unit)).length ≤ 4611686018427387904 := by rw [← All2.length_eq j2, List.length_append]; exact fits_len l4
      refine rs_back ?_
      refine rs_step ?_
      refine rd_storeO (k := 3) (v := d1) l0 rfl rfl rfl (mem_cnt1 (k := 4) l0 rfl l5) (fun q3 i3 => ?_)
      replace i3 : Mem q3 (⟨.op m2 k8 0, 3, 1, [vi (a1.length : Int)]⟩ :: ⟨.op b4 b3 0, 58, 3, [.agg [vi ((ix x0 a0).Table), nilS, a4]]⟩ :: ⟨.op a6 a5 0, 40, 5, [b1]⟩ :: ⟨.op a9 a7 0, 48, 1, [d1]⟩ :: ⟨d1, 58, 3, (a2 ++ c6)⟩ :: ⟨.op a8 b0 0, 102, 1, [.fn (.func 63) [] [.op a9 a7 0, .op a8 b0 0]]⟩ :: R_) := i3
      refine rs_back ?_
      refine rs_freezeP (k := 0) (E' := [(35, d1), (34, .fs true [.agg [vi ((ix x0 a0).Table), nilS, a4]]), (33, .agg [vi ((ix x0 a0).Table), nilS, a4]), (32, a3), (9, .fp (vi (a1.length : Int))), (31, vi (a1.length : Int)), (30, a3), (24, vb (decide (((ix x0 a0).Kind) = 2))), (23, vi ((ix x0 a0).Kind)), (22, .op a6 a5 (0 + 0)), (8, .op b4 b3 0), (21, .agg [vi ((ix x0 a0).Table), nilS, a4]), (20, a4), (19, v1), (18, vi ((ix x0 a0).Table)), (17, .op a6 a5 (0 + 1)), (7, .op a6 a5 0), (16, b1), (15, .fp b1), (14, vb (decide (a0 < (x0.length : Int)))), (13, vi a0), (12, vi (x0.length : Int)), (11, v0), (5, .fp v1), (3, .op a8 b0 0), (2, .op a9 a7 0)]) i3 rfl (frz_keep rfl (frz_keep rfl (frz_keep rfl (frz_keep rfl (frz_turn rfl (frz_keep rfl (frz_keep rfl (frz_keep rfl (frz_keep rfl (frz_keep rfl (frz_keep rfl (frz_keep rfl (frz_keep rfl (frz_keep rfl (frz_keep rfl (frz_keep rfl (frz_keep rfl (frz_keep rfl (frz_keep rfl (frz_keep rfl (frz_keep rfl (frz_keep rfl (frz_keep rfl (frz_keep rfl (frz_keep rfl (frz_keep rfl frz_nil)))))))))))))))))))))))))) (fun k4 f9 => ?_)
      replace f9 : Mem k4 (⟨.op b4 b3 0, 58, 3, [.agg [vi ((ix x0 a0).Table), nilS, a4]]⟩ :: ⟨.op a6 a5 0, 40, 5, [b1]⟩ :: ⟨.op a9 a7 0, 48, 1, [d1]⟩ :: ⟨d1, 58, 3, (a2 ++ c6)⟩ :: ⟨.op a8 b0 0, 102, 1, [.fn (.func 63) [] [.op a9 a7 0, .op a8 b0 0]]⟩ :: R_) := f9
      refine rs_nil ?_
      refine pn_seq ?_
      refine sR ?_
      have l7 : (tFn Try.prog tB (tSl api_Guard.t)).R (fun a_ => units_Build_1_1 a_ x1 (a1.length : Int)) (.fn (.func 66) [] [.fp v1, .fp (vi (a1.length : Int))]) := tFn_ofC (clL_cons (clo_fp (TR.clo (tSl api_Guard.t) r1)) (clL_cons rfl clL_nil)) fun a va ra => by obtain rfl := ra; obtain ⟨r, h1, h2⟩ := f66_ok (c1 := (a1.length : Int)) r1 (by first | omega | exact gu_cond gl (by omega) (by omega) | exact gu_then gl (by omega) (by omega) | exact gu_else gl (by omega) (by omega) | (have hk := csl_drop (l := x0) (i := a0) (by omega) (by omega); have b8 := csl_ix (l := x0) (i := a0) (by omega) (by omega); (try simp only [ub11_len, under_len, List.length_append, List.length_cons, List.length_nil] at *); omega)); exact ⟨r, h1, h2⟩
      refine rd_op (v := .fn (.func 66) [] [.fp v1, .fp (vi (a1.length : Int))]) (ov_mkFunc rfl rfl) ?_
      refine mV rfl ?_
      refine nS ?_
      refine rc_seq ?_
      refine rc_regionT ?_
      refine rd_op (ov_load0 (k := 4) f9 rfl rfl rfl) ?_
      refine rd_op (ov_faddrO rfl) ?_
      obtain ⟨t5, n9, n0⟩ := api_ControlNode.g_Then c8
      refine rd_op (ov_loadf (k := 1) f9 rfl rfl n9) ?_
      refine mV rfl ?_
      refine rd_callF rfl l7 rfl (show tB.R true (vb true) from rfl) (fun s3 n1 => ?_)
      refine rd_nil (pn_lastS ?_)
      have n7 : Mem k4 (⟨.op a9 a7 0, 48, 1, [d1]⟩ :: ⟨d1, 58, 3, (a2 ++ c6)⟩ :: ⟨.op a8 b0 0, 102, 1, [.fn (.func 63) [] [.op a9 a7 0, .op a8 b0 0]]⟩ :: ⟨.op b4 b3 0, 58, 3, [.agg [vi ((ix x0 a0).Table), nilS, a4]]⟩ :: ⟨.op a6 a5 0, 40, 5, [b1]⟩ :: R_) := (Mem.front (k := 4) (Mem.front (k := 4) (Mem.front (k := 4) f9 rfl) rfl) rfl)
      obtain ⟨o6, h7, hres⟩ := let_ex hres
      obtain ⟨r8, n4, m4, h9⟩ := ihR (z0 := ((ix x0 a0).Then)) (z1 := ((fun a_ => units_Build_1_1 a_ x1 (a1.length : Int)) true)) (zc0 := (a1 ++ ([({ Table := (ix x0 a0).Table, Cond := ([] : List api_ExprNode), Guards := d0 } : api_Unit)] : List api_Unit))) n0 n1 j2 l5 j8 j4 n7 (by first | omega | exact gu_cond gl (by omega) (by omega) | exact gu_then gl (by omega) (by omega) | exact gu_else gl (by omega) (by omega) | (have hk := csl_drop (l := x0) (i := a0) (by omega) (by omega); have b8 := csl_ix (l := x0) (i := a0) (by omega) (by omega); (try simp only [ub11_len, under_len, List.length_append, List.length_cons, List.length_nil] at *); omega)) (by first | omega | exact gu_cond gl (by omega) (by omega) | exact gu_then gl (by omega) (by omega) | exact gu_else gl (by omega) (by omega) | (have hk := csl_drop (l := x0) (i := a0) (by omega) (by omega); have b8 := csl_ix (l := x0) (i := a0) (by omega) (by omega); (try simp only [ub11_len, under_len, List.length_append, List.length_cons, List.length_nil] at *); omega)) (by first | omega | exact gu_cond gl (by omega) (by omega) | exact gu_then gl (by omega) (by omega) | exact gu_else gl (by omega) (by omega) | (have hk := csl_drop (l := x0) (i := a0) (by omega) (by omega); have b8 := csl_ix (l := x0) (i := a0) (by omega) (by omega); (try simp only [ub11_len, under_len, List.length_append, List.length_cons, List.length_nil] at *); omega)) (by first | omega | (have hk := csl_drop (l := x0) (i := a0) (by omega) (by omega); have b8 := csl_ix (l := x0) (i := a0) (by omega) (by omega); (try simp only [ub11_len, under_len, List.length_append, List.length_cons, List.length_nil] at *); omega))
      rw [h7] at h9
      obtain ⟨d4, f2, i6, e0, f4, d8, f0, g2⟩ := h9
      replace g2 := g2.symm; subst g2
      refine rs_callXc rfl rfl m4 ?_
      have q7 := bl_use hrec h7
      refine rs_nil ?_
      refine pn_seq ?_
      refine rc_regionT ?_
      refine rd_op (ov_load0 (k := 2) i6 rfl rfl rfl) ?_
      refine rd_op (ov_faddrO rfl) ?_
      obtain ⟨s9, m9, p9⟩ := api_ControlNode.g_Else c8
      refine rd_op (ov_loadf (k := 4) i6 rfl rfl m9) ?_
      refine mV rfl ?_
      refine rd_callF rfl l7 rfl (show tB.R false (vb false) from rfl) (fun s1 m6 => ?_)
      refine rd_nil (pn_lastS ?_)
      have p8 : Mem n4 (⟨.op a9 a7 0, 48, 1, [d4]⟩ :: ⟨d4, 58, 3, f2⟩ :: ⟨.op a8 b0 0, 102, 1, [.fn (.func 63) [] [.op a9 a7 0, .op a8 b0 0]]⟩ :: ⟨.op b4 b3 0, 58, 3, [.agg [vi ((ix x0 a0).Table), nilS, a4]]⟩ :: ⟨.op a6 a5 0, 40, 5, [b1]⟩ :: R_) := (Mem.front (k := 2) (Mem.front (k := 2) (Mem.front (k := 2) i6 rfl) rfl) rfl)
      obtain ⟨t2, h0, hres⟩ := let_ex hres
      obtain ⟨r7, t1, j9, h6⟩ := ihR (z0 := ((ix x0 a0).Else)) (z1 := ((fun a_ => units_Build_1_1 a_ x1 (a1.length : Int)) false)) (zc0 := o6) p9 m6 e0 f4 d8 f0 p8 (by first | omega | exact gu_cond gl (by omega) (by omega) | exact gu_then gl (by omega) (by omega) | exact gu_else gl (by omega) (by omega) | (have hk := csl_drop (l := x0) (i := a0) (by omega) (by omega); have b8 := csl_ix (l := x0) (i := a0) (by omega) (by omega); (try simp only [ub11_len, under_len, List.length_append, List.length_cons, List.length_nil] at *); omega)) (by first | omega | exact gu_cond gl (by omega) (by omega) | exact gu_then gl (by omega) (by omega) | exact gu_else gl (by omega) (by omega) | (have hk := csl_drop (l := x0) (i := a0) (by omega) (by omega); have b8 := csl_ix (l := x0) (i := a0) (by omega) (by omega); (try simp only [ub11_len, under_len, List.length_append, List.length_cons, List.length_nil] at *); omega)) (by first | omega | exact gu_cond gl (by omega) (by omega) | exact gu_then gl (by omega) (by omega) | exact gu_else gl (by omega) (by omega) | (have hk := csl_drop (l := x0) (i := a0) (by omega) (by omega); have b8 := csl_ix (l := x0) (i := a0) (by omega) (by omega); (try simp only [ub11_len, under_len, List.length_append, List.length_cons, List.length_nil] at *); omega)) (by first | omega | (have hk := csl_drop (l := x0) (i := a0) (by omega) (by omega); have b8 := csl_ix (l := x0) (i := a0) (by omega) (by omega); (try simp only [ub11_len, under_len, List.length_append, List.length_cons, List.length_nil] at *); omega))
      rw [h0] at h6
      obtain ⟨m1, j0, n8, e4, e3, e2, e5, f7⟩ := h6
      replace f7 := f7.symm; subst f7
      refine rs_callXc rfl rfl j9 ?_
      have q8 := bl_use hrec h0
      refine rs_nil ?_
      refine pn_blk ?_
      refine pn_seq ?_
      refine rc_region ?_
      refine bN i_add rfl rfl ?_
      refine mV rfl ?_
      refine rd_nil ?_
      refine pn_again ?_
      have hbd := sl_bound r0
      have hinc : wr (a0 + 1) = a0 + 1 := wr_of (by omega) (by omega)
      erw [hinc]
      exact wC (ih  e4 e3 e5 e2 (by omega) (by omega) (by first | omega | (have hk := csl_drop (l := x0) (i := a0) (by omega) (by omega); have b8 := csl_ix (l := x0) (i := a0) (by omega) (by omega); (try simp only [ub11_len, under_len, List.length_append, List.length_cons, List.length_nil] at *); omega)) (Mem.sub n8 (.cons_cons _ (.cons_cons _ (.cons_cons _ (.cons _ (.cons _ (List.Sublist.refl R_))))))) hres) rfl

theorem f63_okB {rec_ : (List api_ControlNode) → (List api_Guard) → (List api_Unit) → (List api_Unit)} {mu_ : Nat} {x0 : List api_ControlNode} {x1 : List api_Guard} {c0 : List api_Unit} {v0 v1 a1 : PV} {a0 : List PV} {R_ : List Ent} {h_ : Heap} {a9 b1 b0 b2 : Nat} (r0 : (tSl api_ControlNode.t).R x0 v0) (r1 : (tSl api_Guard.t).R x1 v1) (b3 : All2 api_Unit.t.R c0 a0) (a6 : isL a1 = true) (a5 : c0.length ≤ 4611686018427387904) (a4 : Wri a1 a0) (M_ : Mem h_ (⟨.op a9 b1 0, 48, 1, [a1]⟩ :: ⟨a1, 58, 3, a0⟩ :: ⟨.op b0 b2 0, 102, 1, [.fn (.func 63) [] [.op a9 b1 0, .op b0 b2 0]]⟩ :: R_)) (gl : GU x0) (hc : c0.length + csl x0 ≤ 1000) (hg : x1.length + csl x0 ≤ 1000) (hmu : mu_ = csl x0) (hrec : ∀ z0 z1 z2, (rec_ z0 z1 z2).length ≤ z2.length + csl z0) (ihR : ∀ {z0 : List api_ControlNode} {z1 : List api_Guard} {zc0 : List api_Unit} {c6 c5 a1 : PV} {a0 : List PV} {R_ : List Ent} {h_ : Heap} {a9 b1 b0 b2 : Nat} (c7 : (tSl api_ControlNode.t).R z0 c6) (c8 : (tSl api_Guard.t).R z1 c5) (b3 : All2 api_Unit.t.R zc0 a0) (a6 : isL a1 = true) (a5 : zc0.length ≤ 4611686018427387904) (a4 : Wri a1 a0) (M_ : Mem h_ (⟨.op a9 b1 0, 48, 1, [a1]⟩ :: ⟨a1, 58, 3, a0⟩ :: ⟨.op b0 b2 0, 102, 1, [.fn (.func 63) [] [.op a9 b1 0, .op b0 b2 0]]⟩ :: R_)) (gl : GU z0) (hc : zc0.length + csl z0 ≤ 1000) (hg : z1.length + csl z0 ≤ 1000), csl z0 < mu_ → ∃ r b8, FnX Try.prog 63 [c6, c5, .op a9 b1 0, .op b0 b2 0] h_ r b8 ∧ RF63 a9 b1 b0 b2 R_ (rec_ z0 z1 zc0) r b8) : ∃ r b8, FnX Try.prog 63 [v0, v1, .op a9 b1 0, .op b0 b2 0] h_ r b8 ∧ RF63 a9 b1 b0 b2 R_ (units_Build_1_B rec_ x0 x1 c0) r b8 := by
  refine fnXX (R := RF63 a9 b1 b0 b2 R_) text63 rfl fun res hres => ?_
  unfold units_Build_1_B at hres
  refine sR ?_
  refine rd_op (ov_box rfl (TR.cnt (tSl api_Guard.t) r1)) ?_
  refine nR ?_
  refine mV rfl ?_
  refine rd_op (ov_bi rfl (sl_len r0 Try.underlying28 _)) ?_
  refine mI rfl ?_
  refine nS ?_
  refine rc_block ?_
  refine wC (units_Build_1_L1_ok r0 r1 a6 a5 a4 gl hc hg ihR hmu hrec ?_  b3 a6 a4 a5 rfl (by omega) (by simp) (Mem.sub M_ (.cons_cons _ (.cons_cons _ (.cons_cons _ (List.Sublist.refl R_))))) hres) rfl
  · intro b6 a3 a2 b4 b5 a8 a7 b9 c4 hres
    refine px_blk ?_
    have b7 : Mem b9 (⟨.op a9 b1 0, 48, 1, [a2]⟩ :: ⟨a2, 58, 3, a3⟩ :: ⟨.op b0 b2 0, 102, 1, [.fn (.func 63) [] [.op a9 b1 0, .op b0 b2 0]]⟩ :: R_) := (Mem.front (k := 2) (Mem.front (k := 2) (Mem.front (k := 2) c4 rfl) rfl) rfl)
    subst hres
    exact pn_endX .nil ⟨a2, a3, Mem.sub b7 (.cons_cons _ (.cons_cons _ (.cons_cons _ (List.Sublist.refl R_)))), b4, b5, a7, a8, rfl⟩
theorem f63_okR : ∀ (n_ : Nat) {x0 : List api_ControlNode} {x1 : List api_Guard} {c0 : List api_Unit} {v0 v1 a1 : PV} {a0 : List PV} {R_ : List Ent} {h_ : Heap} {a6 a8 a7 a9 : Nat} (r0 : (tSl api_ControlNode.t).R x0 v0) (r1 : (tSl api_Guard.t).R x1 v1) (a2 : All2 api_Unit.t.R c0 a0) (a5 : isL a1 = true) (a4 : c0.length ≤ 4611686018427387904) (a3 : Wri a1 a0) (M_ : Mem h_ (⟨.op a6 a8 0, 48, 1, [a1]⟩ :: ⟨a1, 58, 3, a0⟩ :: ⟨.op a7 a9 0, 102, 1, [.fn (.func 63) [] [.op a6 a8 0, .op a7 a9 0]]⟩ :: R_)) (gl : GU x0) (hc : c0.length + csl x0 ≤ 1000) (hg : x1.length + csl x0 ≤ 1000), csl x0 < n_ → ∃ r b0, FnX Try.prog 63 [v0, v1, .op a6 a8 0, .op a7 a9 0] h_ r b0 ∧ RF63 a6 a8 a7 a9 R_ (units_Build_1_R n_ x0 x1 c0) r b0 := by
  intro n_
  induction n_ with
  | zero => intros; rename_i hlt; exact absurd hlt (Nat.not_lt_zero _)
  | succ n_ ihn =>
    intro x0 x1 c0 v0 v1 a1 a0 R_ h_ a6 a8 a7 a9 r0 r1 a2 a5 a4 a3 M_ gl hc hg hlt
    have e_ : units_Build_1_R (n_ + 1) x0 x1 c0 = units_Build_1_B (units_Build_1_R n_) x0 x1 c0 := by rw [units_Build_1_R]
    rw [e_]
    exact f63_okB r0 r1 a2 a5 a4 a3 M_ gl hc hg rfl (build_len n_) (fun {z0} {z1} {zc0} {zv0} {zv1} {a1} {a0} {R_} {h_} {a6} {a8} {a7} {a9} zr0 zr1 a2 a5 a4 a3 M_ gl hc hg hz => ihn zr0 zr1 a2 a5 a4 a3 M_ gl hc hg (by omega))
theorem f63_ok {x0 : List api_ControlNode} {x1 : List api_Guard} {c0 : List api_Unit} {v0 v1 a1 : PV} {a0 : List PV} {R_ : List Ent} {h_ : Heap} {a6 a8 a7 a9 : Nat} (r0 : (tSl api_ControlNode.t).R x0 v0) (r1 : (tSl api_Guard.t).R x1 v1) (a2 : All2 api_Unit.t.R c0 a0) (a5 : isL a1 = true) (a4 : c0.length ≤ 4611686018427387904) (a3 : Wri a1 a0) (M_ : Mem h_ (⟨.op a6 a8 0, 48, 1, [a1]⟩ :: ⟨a1, 58, 3, a0⟩ :: ⟨.op a7 a9 0, 102, 1, [.fn (.func 63) [] [.op a6 a8 0, .op a7 a9 0]]⟩ :: R_)) (gl : GU x0) (hc : c0.length + csl x0 ≤ 1000) (hg : x1.length + csl x0 ≤ 1000) : ∃ r b0, FnX Try.prog 63 [v0, v1, .op a6 a8 0, .op a7 a9 0] h_ r b0 ∧ RF63 a6 a8 a7 a9 R_ (units_Build_1 x0 x1 c0) r b0 := f63_okR _ r0 r1 a2 a5 a4 a3 M_ gl hc hg (Nat.lt_succ_self _)

def RF31 (res : (List api_Unit)) (r : PV) : Prop := (tSl api_Unit.t).R res r
theorem f31_ok {x0 : api_Program} {v0 : PV} (r0 : api_Program.t.R x0 v0) (hs : csl x0.Control ≤ 1000) (hu : GU x0.Control) : ∃ r, FnR Try.prog 31 [v0] r ∧ (tSl api_Unit.t).R (units_Build x0) r := by
  refine fnT (R := RF31) text31 rfl fun res hres => ?_
  unfold units_Build at hres
  refine sR ?_
  refine rd_op (ov_box rfl (TR.cnt api_Program.t r0)) ?_
  refine rd_op (v := nilS) (ov_move rfl) ?_
  refine nS ?_
  refine rc_seq ?_
  refine sR ?_
  refine lD r0 rfl rfl rfl ?_
  obtain ⟨d6, b6, hres⟩ := let_ex hres
  have b4 := f16_ok  r0 (by first | assumption | omega)
  rw [b6] at b4
  refine cL b4 rfl rfl (clL_cons (TR.clo api_Program.t r0) clL_nil) ?_
  refine mV rfl ?_
  refine xT rfl rfl ?_
  refine xT rfl rfl ?_
  refine mV rfl ?_
  refine mV rfl ?_
  refine nR ?_
  refine mV rfl ?_
  refine bN i_neq rfl rfl ?_
  refine nS ?_
  refine rc_br hres rfl ?_ ?_ <;> clear hres <;> intro c hres <;> try simp only [qa, qaD] at c
  · refine sR ?_
    refine rd_op (v := nilS) (ov_move rfl) ?_
    refine nS ?_
    exact rR hres rfl (TR.clo (tSl api_Unit.t) sl_nil) sl_nil
  · refine rc_skip ?_
    refine pn_seq ?_
    refine sR ?_
    refine rd_allocO (x := nilS) (Mem.nil ⟨0, []⟩) rfl rfl (fun a4 a3 d7 c7 => ?_)
    refine nR ?_
    refine rd_allocO (x := .sc .nilFunc) c7 rfl rfl (fun a5 a1 d2 c8 => ?_)
    refine nR ?_
    refine rd_op (v := .fn (.func 63) [] [.op a4 a3 0, .op a5 a1 0]) (ov_mkFunc rfl rfl) ?_
    refine rd_storeO (k := 0) (v := .fn (.func 63) [] [.op a4 a3 0, .op a5 a1 0]) c8 rfl rfl rfl rfl (fun b5 a8 => ?_)
    replace a8 : Mem b5 [⟨.op a5 a1 0, 102, 1, [.fn (.func 63) [] [.op a4 a3 0, .op a5 a1 0]]⟩, ⟨.op a4 a3 0, 48, 1, [nilS]⟩] := a8
    refine nS ?_
    refine rc_seq ?_
    refine rc_regionS ?_
    refine rs_step ?_
    refine rd_op (ov_load0 (k := 0) a8 rfl rfl rfl) ?_
    refine rs_back ?_
    refine rs_step ?_
    obtain ⟨d3, c5, b3⟩ := api_Program.g_Control r0
    refine fA rfl c5 ?_
    refine rs_back ?_
    refine rs_step ?_
    refine lD b3 rfl rfl rfl ?_
    refine rs_back ?_
    have d0 := mem_acc (sz := 3) (es := []) a8 58 (.inl ⟨none, rfl, rfl⟩) (by simp)
    have c4 : Mem b5 [⟨.op a4 a3 0, 48, 1, [nilS]⟩, ⟨nilS, 58, 3, ([] : List PV)⟩, ⟨.op a5 a1 0, 102, 1, [.fn (.func 63) [] [.op a4 a3 0, .op a5 a1 0]]⟩] := (Mem.front (k := 2) (Mem.front (k := 1) (Mem.front (k := 1) d0 rfl) rfl) rfl)
    obtain ⟨d5, b7, hres⟩ := let_ex hres
    obtain ⟨d1, d8, b9, a9⟩ := f63_ok (x0 := x0.Control) (x1 := ([] : List api_Guard)) (c0 := ([] : List api_Unit)) b3 sl_nil (show All2 api_Unit.t.R ([] : List api_Unit) [] from trivial) rfl (by first | decide | simp) (.inl rfl) c4 (by first | omega | exact hu | (simp only [List.length_nil]; omega)) (by first | omega | exact hu | (simp only [List.length_nil]; omega)) (by first | omega | exact hu | (simp only [List.length_nil]; omega))
    rw [b7] at a9
    obtain ⟨b8, b2, b0, a6, a0, a2, b1, a7⟩ := a9
    replace a7 := a7.symm; subst a7
    refine rs_callXc rfl rfl b9 ?_
    refine rs_nil ?_
    refine pn_seq ?_
    refine sR ?_
    refine rd_op (ov_load0 (k := 0) b0 rfl rfl (mem_one (k := 1) b0 rfl a0).2) ?_
    refine mV rfl ?_
    refine nS ?_
    obtain ⟨d4, c9, c6⟩ := own_sl (P := Try.prog) (k := 1) (t := api_Unit.t) b0 rfl a0 a6 (Nat.le_trans a2 (by decide))
    subst hres
    exact rc_retV (.tmp rfl .nil) c9 c6

end Go.Proofs.Ytkgnjpoafilicaa
