/-
  The code of each function does what its plain program says.
-/
import Derived.Test.YthdnpgpnodgicaaGreatKDef
import Derived.Test.YthdnpgpnodgicaaGreatL3Text
import Derived.Test.YthdnpgpnodgicaaGreatPbV
import Derived.Test.YthdnpgpnodgicaaGreatKTkPu
import Derived.Test.YthdnpgpnodgicaaGreatL3Run
set_option linter.unusedVariables false
set_option linter.unusedSimpArgs false
set_option maxRecDepth 100000
namespace Go.Proofs.YthdnpgpnodgicaaGreat
open Go Go.Pb Go.RowKit
def RF63 (res : Int) (r : PV) : Prop := r = vi res
theorem law21_nodes_L1_ok {S : List Fr} {res : Int} {x0 : List api_ControlNode} {x1 : Int} {rec_ : (List api_ControlNode) → Int → Int} {mu_ : Nat} {v0 : PV} (r0 : (tSl api_ControlNode.t).R x0 v0) (hd : 0 ≤ x1) (d6 : x1 ≤ 100) (ihR : ∀ {z0 : List api_ControlNode} {z1 : Int} {c5 : PV} (d7 : (tSl api_ControlNode.t).R z0 c5) (hd : 0 ≤ z1) (d6 : z1 ≤ 100), z1.toNat < mu_ → FnR Tryz.prog 63 [c5, vi z1] (vi (rec_ z0 z1))) (hmu : mu_ = x1.toNat) {K0 : Int → Int}
    (c7 : ∀ {a1 : Int}, K0 a1 = res → PX Tryz.prog 0 S (QR Tryz.prog [(4, none)] (RF63 res)) [(5, vi a1)] ⟨0, []⟩) :
    ∀ {m : Nat} {a1 a0 : Int} (c6 : m = Int.toNat ((x0.length : Int) - a0)) (b1 : 0 ≤ a0), law21_nodes_L1 x0 x1 rec_ K0 m a1 a0 = res → RC Tryz.prog (.loop ac63_L1) S (QR Tryz.prog [(4, none)] (RF63 res)) [(6, vi a0), (5, vi a1), (1, vi x1), (0, v0)] ⟨0, []⟩ := by
  intro m
  induction m with
  | zero =>
    intro a1 a0 c6 b1 hres
    rw [law21_nodes_L1] at hres
    refine rc_loop ?_
    refine rc_seq ?_
    refine sR ?_
    refine mV rfl ?_
    refine mV rfl ?_
    refine rd_op (ov_bi rfl (sl_len r0 Tryz.underlying28 _)) ?_
    refine bN i_lss rfl rfl ?_
    refine mV rfl ?_
    refine rd_cutn 3 (d := 16) (v := vb ((decide (a0 < (x0.length : Int))) && (decide (a1 < 100)))) ?_ ?_
    · intro S Q r
      cases b5 : (decide (a0 < (x0.length : Int)))
      · exact gN 2 rfl rfl rfl rfl rfl rfl
      · intro k
        have a4 := b5
        try simp only [qa, qaD] at a4
        refine rd_yes rfl rfl (ov_move rfl) ?_
        refine rd_yes rfl rfl (ov_bin rfl rfl i_lss) ?_
        exact gK rfl rfl rfl rfl rfl k
    refine nS ?_
    refine rc_cond rfl ?_ ?_ <;> intro c <;> try simp only [qa, qaD] at c
    · omega
    refine rc_exit ?_
    refine px_seq ?_
    refine px_again ?_
    exact wP (c7  hres) rfl
  | succ m ih =>
    intro a1 a0 c6 b1 hres
    rw [law21_nodes_L1] at hres
    refine rc_loop ?_
    refine rc_seq ?_
    refine sR ?_
    refine mV rfl ?_
    refine mV rfl ?_
    refine rd_op (ov_bi rfl (sl_len r0 Tryz.underlying28 _)) ?_
    refine bN i_lss rfl rfl ?_
    refine mV rfl ?_
    refine rd_cutn 3 (d := 16) (v := vb ((decide (a0 < (x0.length : Int))) && (decide (a1 < 100)))) ?_ ?_
    · intro S Q r
      cases a7 : (decide (a0 < (x0.length : Int)))
      · exact gN 2 rfl rfl rfl rfl rfl rfl
      · intro k
        have a5 := a7
        try simp only [qa, qaD] at a5
        refine rd_yes rfl rfl (ov_move rfl) ?_
        refine rd_yes rfl rfl (ov_bin rfl rfl i_lss) ?_
        exact gK rfl rfl rfl rfl rfl k
    refine nS ?_
    refine rc_br hres rfl ?_ ?_ <;> clear hres <;> intro c hres <;> try simp only [qa, qaD] at c
    · refine rc_skip ?_
      refine pn_seq ?_
      refine rc_seq ?_
      refine rc_block ?_
      refine rc_seq ?_
      refine sR ?_
      refine mV rfl ?_
      refine bN i_eql rfl rfl ?_
      refine mV rfl ?_
      refine rd_cutn 8 (d := 29) (v := vb ((decide (x1 = 0)) || (decide (40 < (((ix x0 a0).Cond).length : Int))))) ?_ ?_
      · intro S Q r
        cases b4 : (decide (x1 = 0))
        · intro k
          have a3 := b4
          try simp only [qa, qaD] at a3
          refine rd_yes rfl rfl (ov_move rfl) ?_
          refine rd_yes rfl rfl (ov_move rfl) ?_
          obtain ⟨d4, c0, b7⟩ := sl_idx (i := a0) r0 (by first | omega | (have hk := em_len (by assumption) (by assumption); omega)) (by first | omega | (have hk := em_len (by assumption) (by assumption); omega))
          refine rd_yes rfl rfl (ov_iaddr rfl rfl c0) ?_
          obtain ⟨d5, c3, a2⟩ := api_ControlNode.g_Cond b7
          refine rd_yes rfl rfl (ov_faddr rfl c3) ?_
          refine rd_yes rfl rfl (ov_load rfl (TR.cnt (tSl api_ExprNode.t) a2) (TR.agg (tSl api_ExprNode.t) a2)) ?_
          refine rd_yes rfl rfl (ov_bi rfl (sl_len a2 Tryz.underlying163 _)) ?_
          refine rd_yes rfl rfl (ov_bin rfl rfl i_gtr) ?_
          exact gK rfl rfl rfl rfl rfl k
        · exact gN 7 rfl rfl rfl rfl rfl rfl
      refine nS ?_
      refine rc_br hres rfl ?_ ?_ <;> clear hres <;> intro c hres <;> try simp only [qa, qaD] at c
      · refine sR ?_
        refine mI rfl ?_
        refine nS ?_
        exact rR hres rfl rfl rfl
      · refine rc_skip ?_
        refine pn_seq ?_
        refine rc_region ?_
        refine mV rfl ?_
        refine mV rfl ?_
        refine mV rfl ?_
        obtain ⟨d3, b8, b6⟩ := sl_idx (i := a0) r0 (by first | omega | (have hk := em_len (by assumption) (by assumption); omega)) (by first | omega | (have hk := em_len (by assumption) (by assumption); omega))
        refine rd_op (ov_iaddr rfl rfl b8) ?_
        obtain ⟨c9, c1, a6⟩ := api_ControlNode.g_Then b6
        refine fA rfl c1 ?_
        refine lD a6 rfl rfl rfl ?_
        refine mV rfl ?_
        refine bN i_sub rfl rfl ?_
        obtain ⟨d2, a9, hres⟩ := let_ex hres
        have b3 := ihR (z0 := (ix x0 a0).Then) (z1 := (wr (x1 - 1))) a6 (by first | assumption | omega | (rw [wr_of (by omega) (by omega)]; omega)) (by first | assumption | omega | (rw [wr_of (by omega) (by omega)]; omega)) (by (rw [wr_of (by omega) (by omega)]; omega))
        rw [a9] at b3
        refine cL b3 rfl rfl (clL_cons (TR.clo (tSl api_ControlNode.t) a6) (clL_cons rfl clL_nil)) ?_
        refine bN i_add rfl rfl ?_
        refine mV rfl ?_
        refine mV rfl ?_
        obtain ⟨d1, c4, b9⟩ := sl_idx (i := a0) r0 (by first | omega | (have hk := em_len (by assumption) (by assumption); omega)) (by first | omega | (have hk := em_len (by assumption) (by assumption); omega))
        refine rd_op (ov_iaddr rfl rfl c4) ?_
        refine gL (api_ControlNode.g_Else b9) rfl rfl rfl fun d0 b0 => ?_
        refine mV rfl ?_
        refine bN i_sub rfl rfl ?_
        obtain ⟨c8, a8, hres⟩ := let_ex hres
        have b2 := ihR (z0 := (ix x0 a0).Else) (z1 := (wr (x1 - 1))) b0 (by first | assumption | omega | (rw [wr_of (by omega) (by omega)]; omega)) (by first | assumption | omega | (rw [wr_of (by omega) (by omega)]; omega)) (by (rw [wr_of (by omega) (by omega)]; omega))
        rw [a8] at b2
        refine cL b2 rfl rfl (clL_cons (TR.clo (tSl api_ControlNode.t) b0) (clL_cons rfl clL_nil)) ?_
        refine bN i_add rfl rfl ?_
        refine mV rfl ?_
        refine rd_nil ?_
        refine pn_blk ?_
        refine pn_seq ?_
        refine rc_region ?_
        refine mV rfl ?_
        refine bN i_add rfl rfl ?_
        refine mV rfl ?_
        refine rd_nil ?_
        refine pn_again ?_
        have hbd := sl_bound r0
        have hinc : wr (a0 + 1) = a0 + 1 := wr_of (by omega) (by omega)
        erw [hinc]
        exact wC (ih   (by omega) (by omega) hres) rfl
    · refine rc_exit ?_
      refine px_seq ?_
      refine px_again ?_
      exact wP (c7  hres) rfl

theorem f63_okB {rec_ : (List api_ControlNode) → Int → Int} {mu_ : Nat} {x0 : List api_ControlNode} {x1 : Int} {v0 : PV} (r0 : (tSl api_ControlNode.t).R x0 v0) (hd : 0 ≤ x1) (a2 : x1 ≤ 100) (hmu : mu_ = x1.toNat) (ihR : ∀ {z0 : List api_ControlNode} {z1 : Int} {a1 : PV} (a3 : (tSl api_ControlNode.t).R z0 a1) (hd : 0 ≤ z1) (a2 : z1 ≤ 100), z1.toNat < mu_ → FnR Tryz.prog 63 [a1, vi z1] (vi (rec_ z0 z1))) : FnR Tryz.prog 63 [v0, vi x1] (vi (law21_nodes_B rec_ x0 x1)) := by
  refine fnS (R := RF63) text63 (fun _ h => h) rfl fun res hres => ?_
  unfold law21_nodes_B at hres
  refine sR ?_
  refine mI rfl ?_
  refine nR ?_
  refine mV rfl ?_
  refine rd_op (ov_bi rfl (sl_len r0 Tryz.underlying28 _)) ?_
  refine mV rfl ?_
  refine nS ?_
  refine rc_seq ?_
  refine sR ?_
  refine mI rfl ?_
  refine nS ?_
  refine rc_block ?_
  refine wC (law21_nodes_L1_ok r0 hd a2 ihR hmu ?_  rfl (by omega) hres) rfl
  · intro a0 hres
    refine px_blk ?_
    refine pn_seq ?_
    refine sR ?_
    refine mV rfl ?_
    refine mV rfl ?_
    refine nS ?_
    exact rR hres rfl rfl rfl
theorem f63_okR : ∀ (n_ : Nat) {x0 : List api_ControlNode} {x1 : Int} {v0 : PV} (r0 : (tSl api_ControlNode.t).R x0 v0) (hd : 0 ≤ x1) (a0 : x1 ≤ 100), x1.toNat < n_ → FnR Tryz.prog 63 [v0, vi x1] (vi (law21_nodes_R n_ x0 x1)) := by
  intro n_
  induction n_ with
  | zero => intros; rename_i hlt; exact absurd hlt (Nat.not_lt_zero _)
  | succ n_ ihn =>
    intro x0 x1 v0 r0 hd a0 hlt
    have e_ : law21_nodes_R (n_ + 1) x0 x1 = law21_nodes_B (law21_nodes_R n_) x0 x1 := by rw [law21_nodes_R]
    rw [e_]
    exact f63_okB r0 hd a0 rfl (fun {z0} {z1} {zv0} zr0 hd a0 hz => ihn zr0 hd a0 (by omega))
theorem f63_ok {x0 : List api_ControlNode} {x1 : Int} {v0 : PV} (r0 : (tSl api_ControlNode.t).R x0 v0) (hd : 0 ≤ x1) (a0 : x1 ≤ 100) : FnR Tryz.prog 63 [v0, vi x1] (vi (law21_nodes x0 x1)) := f63_okR _ r0 hd a0 (Nat.lt_succ_self _)

def RF64 (res : Bool) (r : PV) : Prop := r = vb res
theorem ref11_Small_L1_ok {S : List Fr} {res : Bool} {x0 : api_Header} {v0 : PV} (r0 : api_Header.t.R x0 v0) (a5 : ((decide (30 < (x0.Name.length : Int))) || (decide (20 < (x0.Fields.length : Int)))) = false) {K0 : Unit → Bool}
    (b6 : K0 () = res → PX Tryz.prog 0 S (QR Tryz.prog [(2, none)] (RF64 res)) [] ⟨0, []⟩) :
    ∀ {m : Nat} {a0 : Int} (b1 : m = Int.toNat ((x0.Fields.length : Int) - a0)) (a3 : 0 ≤ a0), ref11_Small_L1 x0 K0 m a0 = res → RC Tryz.prog (.loop ac64_L1) S (QR Tryz.prog [(2, none)] (RF64 res)) [(3, vi a0), (1, .fp v0)] ⟨0, []⟩ := by
  have a2 := a5
  try simp only [qa, qaD] at a2
  intro m
  induction m with
  | zero =>
    intro a0 b1 a3 hres
    rw [ref11_Small_L1] at hres
    refine rc_loop ?_
    refine rc_seq ?_
    refine sR ?_
    refine mV rfl ?_
    refine gL (api_Header.g_Fields r0) rfl rfl rfl fun b5 a6 => ?_
    refine rd_op (ov_bi rfl (sl_len a6 Tryz.underlying23 _)) ?_
    refine bN i_lss rfl rfl ?_
    refine nS ?_
    refine rc_cond rfl ?_ ?_ <;> intro c <;> try simp only [qa, qaD] at c
    · omega
    refine rc_exit ?_
    refine px_seq ?_
    refine px_again ?_
    exact wP (b6  hres) rfl
  | succ m ih =>
    intro a0 b1 a3 hres
    rw [ref11_Small_L1] at hres
    refine rc_loop ?_
    refine rc_seq ?_
    refine sR ?_
    refine mV rfl ?_
    obtain ⟨b4, b0, a1⟩ := api_Header.g_Fields r0
    refine fA rfl b0 ?_
    refine lD a1 rfl rfl rfl ?_
    refine rd_op (ov_bi rfl (sl_len a1 Tryz.underlying23 _)) ?_
    refine bN i_lss rfl rfl ?_
    refine nS ?_
    refine rc_cond rfl ?_ ?_ <;> intro c <;> try simp only [qa, qaD] at c
    rotate_left
    · omega
    refine rc_skip ?_
    refine pn_seq ?_
    refine rc_seq ?_
    refine rc_block ?_
    refine sR ?_
    obtain ⟨b3, a9, a4⟩ := api_Header.g_Fields r0
    refine fA rfl a9 ?_
    refine lD a4 rfl rfl rfl ?_
    refine mV rfl ?_
    obtain ⟨b2, a8, a7⟩ := sl_idx (i := a0) a4 (by first | omega | (have hk := em_len (by assumption) (by assumption); omega)) (by first | omega | (have hk := em_len (by assumption) (by assumption); omega))
    refine rd_op (ov_iaddr rfl rfl a8) ?_
    refine fL rfl (api_Field.g_Name a7) rfl rfl ?_
    refine rd_op (ov_bi rfl (str_len Tryz.underlying9)) ?_
    refine bN i_gtr rfl rfl ?_
    refine nS ?_
    refine rc_br hres rfl ?_ ?_ <;> clear hres <;> intro c hres <;> try simp only [qa, qaD] at c
    · refine sR ?_
      refine mB rfl ?_
      refine nS ?_
      exact rR hres rfl rfl rfl
    · refine rc_skip ?_
      refine pn_blk ?_
      refine pn_seq ?_
      refine rc_region ?_
      refine mV rfl ?_
      refine bN i_add rfl rfl ?_
      refine mV rfl ?_
      refine rd_nil ?_
      refine pn_again ?_
      have hbd := sl_bound a1
      have hinc : wr (a0 + 1) = a0 + 1 := wr_of (by omega) (by omega)
      erw [hinc]
      exact wC (ih   (by omega) (by omega) hres) rfl

theorem f64_ok {x0 : api_Header} {v0 : PV} (r0 : api_Header.t.R x0 v0) : FnR Tryz.prog 64 [v0] (vb (ref11_Small x0)) := by
  refine fnS (R := RF64) text64 (fun _ h => h) rfl fun res hres => ?_
  unfold ref11_Small at hres
  refine sR ?_
  refine rd_op (ov_box rfl (TR.cnt api_Header.t r0)) ?_
  refine mB rfl ?_
  refine nS ?_
  refine rc_seq ?_
  refine sR ?_
  refine fL rfl (api_Header.g_Name r0) rfl rfl ?_
  refine rd_op (ov_bi rfl (str_len Tryz.underlying9)) ?_
  refine bN i_gtr rfl rfl ?_
  refine mV rfl ?_
  refine rd_cutn 5 (d := 13) (v := vb ((decide (30 < (x0.Name.length : Int))) || (decide (20 < (x0.Fields.length : Int))))) ?_ ?_
  · intro S Q r
    cases a4 : (decide (30 < (x0.Name.length : Int)))
    · intro k
      have a3 := a4
      try simp only [qa, qaD] at a3
      obtain ⟨a6, a5, a2⟩ := api_Header.g_Fields r0
      refine rd_yes rfl rfl (ov_faddr rfl a5) ?_
      refine rd_yes rfl rfl (ov_load rfl (TR.cnt (tSl api_Field.t) a2) (TR.agg (tSl api_Field.t) a2)) ?_
      refine rd_yes rfl rfl (ov_bi rfl (sl_len a2 Tryz.underlying23 _)) ?_
      refine rd_yes rfl rfl (ov_bin rfl rfl i_gtr) ?_
      exact gK rfl rfl rfl rfl rfl k
    · exact gN 4 rfl rfl rfl rfl rfl rfl
  refine nS ?_
  refine rc_br hres rfl ?_ ?_ <;> clear hres <;> intro a0 hres <;> have a1 := a0 <;> try simp only [qa, qaD] at a1
  · refine sR ?_
    refine mB rfl ?_
    refine nS ?_
    exact rR hres rfl rfl rfl
  · refine rc_skip ?_
    refine pn_seq ?_
    refine rc_seq ?_
    refine sR ?_
    refine mI rfl ?_
    refine nS ?_
    refine rc_block ?_
    refine wC (ref11_Small_L1_ok r0 a0 ?_  rfl (by omega) hres) rfl
    · intro  hres
      refine px_blk ?_
      refine pn_seq ?_
      refine sR ?_
      refine mB rfl ?_
      refine nS ?_
      exact rR hres rfl rfl rfl

def RF65 (res : Bool) (r : PV) : Prop := r = vb res
theorem law21_largeAction_L1_ok {S : List Fr} {res : Bool} {x0 : api_Action} {v0 : PV} (r0 : api_Action.t.R x0 v0) (a5 : (((decide (8 < (x0.Params.length : Int))) || (decide (16 < (x0.Body.length : Int)))) || (decide (60 < (x0.Name.length : Int)))) = false) {K0 : Unit → Bool}
    (c8 : K0 () = res → PX Tryz.prog 0 S (QR Tryz.prog [(2, none)] (RF65 res)) [] ⟨0, []⟩) :
    ∀ {m : Nat} {a0 : Int} (b8 : m = Int.toNat ((x0.Body.length : Int) - a0)) (a6 : 0 ≤ a0), law21_largeAction_L1 x0 K0 m a0 = res → RC Tryz.prog (.loop ac65_L1) S (QR Tryz.prog [(2, none)] (RF65 res)) [(3, vi a0), (1, .fp v0)] ⟨0, []⟩ := by
  have a4 := a5
  try simp only [qa, qaD] at a4
  intro m
  induction m with
  | zero =>
    intro a0 b8 a6 hres
    rw [law21_largeAction_L1] at hres
    refine rc_loop ?_
    refine rc_seq ?_
    refine sR ?_
    refine mV rfl ?_
    refine gL (api_Action.g_Body r0) rfl rfl rfl fun c3 b1 => ?_
    refine rd_op (ov_bi rfl (sl_len b1 Tryz.underlying118 _)) ?_
    refine bN i_lss rfl rfl ?_
    refine nS ?_
    refine rc_cond rfl ?_ ?_ <;> intro c <;> try simp only [qa, qaD] at c
    · omega
    refine rc_exit ?_
    refine px_seq ?_
    refine px_again ?_
    exact wP (c8  hres) rfl
  | succ m ih =>
    intro a0 b8 a6 hres
    rw [law21_largeAction_L1] at hres
    refine rc_loop ?_
    refine rc_seq ?_
    refine sR ?_
    refine mV rfl ?_
    refine gL (api_Action.g_Body r0) rfl rfl rfl fun c1 a7 => ?_
    refine rd_op (ov_bi rfl (sl_len a7 Tryz.underlying118 _)) ?_
    refine bN i_lss rfl rfl ?_
    refine nS ?_
    refine rc_cond rfl ?_ ?_ <;> intro c <;> try simp only [qa, qaD] at c
    rotate_left
    · omega
    refine rc_skip ?_
    refine pn_seq ?_
    refine rc_seq ?_
    refine rc_block ?_
    refine sR ?_
    refine gL (api_Action.g_Body r0) rfl rfl rfl fun b9 b7 => ?_
    refine mV rfl ?_
    obtain ⟨c4, b3, b0⟩ := sl_idx (i := a0) b7 (by first | omega | (have hk := em_len (by assumption) (by assumption); omega)) (by first | omega | (have hk := em_len (by assumption) (by assumption); omega))
    refine rd_op (ov_iaddr rfl rfl b3) ?_
    refine gL (api_Statement.g_Index b0) rfl rfl rfl fun c0 b2 => ?_
    refine rd_op (ov_bi rfl (sl_len b2 Tryz.underlying163 _)) ?_
    refine bN i_gtr rfl rfl ?_
    refine mV rfl ?_
    refine rd_cutn 9 (d := 44) (v := vb ((decide (40 < (((ix x0.Body a0).Index).length : Int))) || (decide (40 < (((ix x0.Body a0).Value).length : Int))))) ?_ ?_
    · intro S Q r
      cases a8 : (decide (40 < (((ix x0.Body a0).Index).length : Int)))
      · intro k
        have a1 := a8
        try simp only [qa, qaD] at a1
        obtain ⟨c5, a9, a2⟩ := api_Action.g_Body r0
        refine rd_yes rfl rfl (ov_faddr rfl a9) ?_
        refine rd_yes rfl rfl (ov_load rfl (TR.cnt (tSl api_Statement.t) a2) (TR.agg (tSl api_Statement.t) a2)) ?_
        refine rd_yes rfl rfl (ov_move rfl) ?_
        obtain ⟨c6, b6, b4⟩ := sl_idx (i := a0) a2 (by first | omega | (have hk := em_len (by assumption) (by assumption); omega)) (by first | omega | (have hk := em_len (by assumption) (by assumption); omega))
        refine rd_yes rfl rfl (ov_iaddr rfl rfl b6) ?_
        obtain ⟨c7, b5, a3⟩ := api_Statement.g_Value b4
        refine rd_yes rfl rfl (ov_faddr rfl b5) ?_
        refine rd_yes rfl rfl (ov_load rfl (TR.cnt (tSl api_ExprNode.t) a3) (TR.agg (tSl api_ExprNode.t) a3)) ?_
        refine rd_yes rfl rfl (ov_bi rfl (sl_len a3 Tryz.underlying163 _)) ?_
        refine rd_yes rfl rfl (ov_bin rfl rfl i_gtr) ?_
        exact gK rfl rfl rfl rfl rfl k
      · exact gN 8 rfl rfl rfl rfl rfl rfl
    refine nS ?_
    refine rc_br hres rfl ?_ ?_ <;> clear hres <;> intro c hres <;> try simp only [qa, qaD] at c
    · refine sR ?_
      refine mB rfl ?_
      refine nS ?_
      exact rR hres rfl rfl rfl
    · refine rc_skip ?_
      refine pn_blk ?_
      refine pn_seq ?_
      refine rc_region ?_
      refine mV rfl ?_
      refine bN i_add rfl rfl ?_
      refine mV rfl ?_
      refine rd_nil ?_
      refine pn_again ?_
      have hbd := sl_bound a7
      have hinc : wr (a0 + 1) = a0 + 1 := wr_of (by omega) (by omega)
      erw [hinc]
      exact wC (ih   (by omega) (by omega) hres) rfl

theorem f65_ok {x0 : api_Action} {v0 : PV} (r0 : api_Action.t.R x0 v0) : FnR Tryz.prog 65 [v0] (vb (law21_largeAction x0)) := by
  refine fnS (R := RF65) text65 (fun _ h => h) rfl fun res hres => ?_
  unfold law21_largeAction at hres
  refine sR ?_
  refine rd_op (ov_box rfl (TR.cnt api_Action.t r0)) ?_
  refine mB rfl ?_
  refine nS ?_
  refine rc_seq ?_
  refine sR ?_
  obtain ⟨b0, a8, a6⟩ := api_Action.g_Params r0
  refine fA rfl a8 ?_
  refine lD a6 rfl rfl rfl ?_
  refine rd_op (ov_bi rfl (sl_len a6 Tryz.underlying23 _)) ?_
  refine bN i_gtr rfl rfl ?_
  refine mV rfl ?_
  refine rd_cutn 5 (d := 13) (v := vb ((decide (8 < (x0.Params.length : Int))) || (decide (16 < (x0.Body.length : Int))))) ?_ ?_
  · intro S Q r
    cases a5 : (decide (8 < (x0.Params.length : Int)))
    · intro k
      have a2 := a5
      try simp only [qa, qaD] at a2
      obtain ⟨b1, a9, a3⟩ := api_Action.g_Body r0
      refine rd_yes rfl rfl (ov_faddr rfl a9) ?_
      refine rd_yes rfl rfl (ov_load rfl (TR.cnt (tSl api_Statement.t) a3) (TR.agg (tSl api_Statement.t) a3)) ?_
      refine rd_yes rfl rfl (ov_bi rfl (sl_len a3 Tryz.underlying118 _)) ?_
      refine rd_yes rfl rfl (ov_bin rfl rfl i_gtr) ?_
      exact gK rfl rfl rfl rfl rfl k
    · exact gN 4 rfl rfl rfl rfl rfl rfl
  refine mV rfl ?_
  refine rd_cutn 5 (d := 19) (v := vb (((decide (8 < (x0.Params.length : Int))) || (decide (16 < (x0.Body.length : Int)))) || (decide (60 < (x0.Name.length : Int))))) ?_ ?_
  · intro S Q r
    cases a7 : ((decide (8 < (x0.Params.length : Int))) || (decide (16 < (x0.Body.length : Int))))
    · intro k
      have a1 := a7
      try simp only [qa, qaD] at a1
      refine rd_yes rfl rfl (ov_faddr rfl (api_Action.g_Name r0)) ?_
      refine rd_yes rfl rfl (ov_load rfl rfl rfl) ?_
      refine rd_yes rfl rfl (ov_bi rfl (str_len Tryz.underlying9)) ?_
      refine rd_yes rfl rfl (ov_bin rfl rfl i_gtr) ?_
      exact gK rfl rfl rfl rfl rfl k
    · exact gN 4 rfl rfl rfl rfl rfl rfl
  refine nS ?_
  refine rc_br hres rfl ?_ ?_ <;> clear hres <;> intro a0 hres <;> have a4 := a0 <;> try simp only [qa, qaD] at a4
  · refine sR ?_
    refine mB rfl ?_
    refine nS ?_
    exact rR hres rfl rfl rfl
  · refine rc_skip ?_
    refine pn_seq ?_
    refine rc_seq ?_
    refine sR ?_
    refine mI rfl ?_
    refine nS ?_
    refine rc_block ?_
    refine wC (law21_largeAction_L1_ok r0 a0 ?_  rfl (by omega) hres) rfl
    · intro  hres
      refine px_blk ?_
      refine pn_seq ?_
      refine sR ?_
      refine mB rfl ?_
      refine nS ?_
      exact rR hres rfl rfl rfl

def RF66 (res : Bool) (r : PV) : Prop := r = vb res
theorem f66_ok {x0 : api_ParserState} {v0 : PV} (r0 : api_ParserState.t.R x0 v0) : FnR Tryz.prog 66 [v0] (vb (law21_largeState x0)) := by
  refine fnS (R := RF66) text66 (fun _ h => h) rfl fun res hres => ?_
  unfold law21_largeState at hres
  refine sR ?_
  refine rd_op (ov_box rfl (TR.cnt api_ParserState.t r0)) ?_
  refine mB rfl ?_
  refine nR ?_
  refine gL (api_ParserState.g_Extract r0) rfl rfl rfl fun a7 a6 => ?_
  refine rd_op (ov_bi rfl (sl_len a6 Tryz.underlying29 _)) ?_
  refine bN i_gtr rfl rfl ?_
  refine mV rfl ?_
  refine rd_cutn 5 (d := 12) (v := vb ((decide (8 < (x0.Extract.length : Int))) || (decide (12 < (x0.Cases.length : Int))))) ?_ ?_
  · intro S Q r
    cases a3 : (decide (8 < (x0.Extract.length : Int)))
    · intro k
      have a1 := a3
      try simp only [qa, qaD] at a1
      obtain ⟨a8, a5, a2⟩ := api_ParserState.g_Cases r0
      refine rd_yes rfl rfl (ov_faddr rfl a5) ?_
      refine rd_yes rfl rfl (ov_load rfl (TR.cnt (tSl api_SelectCase.t) a2) (TR.agg (tSl api_SelectCase.t) a2)) ?_
      refine rd_yes rfl rfl (ov_bi rfl (sl_len a2 Tryz.underlying122 _)) ?_
      refine rd_yes rfl rfl (ov_bin rfl rfl i_gtr) ?_
      exact gK rfl rfl rfl rfl rfl k
    · exact gN 4 rfl rfl rfl rfl rfl rfl
  refine mV rfl ?_
  refine rd_cutn 5 (d := 18) (v := vb (((decide (8 < (x0.Extract.length : Int))) || (decide (12 < (x0.Cases.length : Int)))) || (decide (60 < (x0.Name.length : Int))))) ?_ ?_
  · intro S Q r
    cases a4 : ((decide (8 < (x0.Extract.length : Int))) || (decide (12 < (x0.Cases.length : Int))))
    · intro k
      have a0 := a4
      try simp only [qa, qaD] at a0
      refine rd_yes rfl rfl (ov_faddr rfl (api_ParserState.g_Name r0)) ?_
      refine rd_yes rfl rfl (ov_load rfl rfl rfl) ?_
      refine rd_yes rfl rfl (ov_bi rfl (str_len Tryz.underlying9)) ?_
      refine rd_yes rfl rfl (ov_bin rfl rfl i_gtr) ?_
      exact gK rfl rfl rfl rfl rfl k
    · exact gN 4 rfl rfl rfl rfl rfl rfl
  refine mV rfl ?_
  refine nS ?_
  exact rR hres rfl rfl rfl

def RF27 (res : Bool) (r : PV) : Prop := r = vb res
theorem law21_TooLarge_L1_ok {S : List Fr} {res : Bool} {x0 : api_Program} {v0 : PV} (r0 : api_Program.t.R x0 v0) (a3 : (((((((((decide (60 < (x0.Name.length : Int))) || (decide (16 < (x0.Headers.length : Int)))) || (decide (20 < (x0.Metadata.length : Int)))) || (decide (8 < (x0.Registers.length : Int)))) || (decide (24 < (x0.Actions.length : Int)))) || (decide (16 < (x0.Tables.length : Int)))) || (decide (16 < (x0.States.length : Int)))) || (decide (16 < (x0.Deparser.length : Int)))) || (decide (60 < (law21_nodes x0.Control 10)))) = false) {K0 : Unit → Bool}
    (b7 : K0 () = res → PX Tryz.prog 0 S (QR Tryz.prog [(2, none)] (RF27 res)) [(1, .fp v0)] ⟨0, []⟩) :
    ∀ {m : Nat} {a0 : Int} (b1 : m = Int.toNat ((x0.Headers.length : Int) - a0)) (a5 : 0 ≤ a0), law21_TooLarge_L1 x0 K0 m a0 = res → RC Tryz.prog (.loop ac27_L1) S (QR Tryz.prog [(2, none)] (RF27 res)) [(3, vi a0), (1, .fp v0)] ⟨0, []⟩ := by
  have a2 := a3
  try simp only [qa, qaD] at a2
  intro m
  induction m with
  | zero =>
    intro a0 b1 a5 hres
    rw [law21_TooLarge_L1] at hres
    refine rc_loop ?_
    refine rc_seq ?_
    refine sR ?_
    refine mV rfl ?_
    refine gL (api_Program.g_Headers r0) rfl rfl rfl fun b3 a8 => ?_
    refine rd_op (ov_bi rfl (sl_len a8 Tryz.underlying22 _)) ?_
    refine bN i_lss rfl rfl ?_
    refine nS ?_
    refine rc_cond rfl ?_ ?_ <;> intro c <;> try simp only [qa, qaD] at c
    · omega
    refine rc_exit ?_
    refine px_seq ?_
    refine px_again ?_
    exact wP (b7  hres) rfl
  | succ m ih =>
    intro a0 b1 a5 hres
    rw [law21_TooLarge_L1] at hres
    refine rc_loop ?_
    refine rc_seq ?_
    refine sR ?_
    refine mV rfl ?_
    refine gL (api_Program.g_Headers r0) rfl rfl rfl fun b6 a4 => ?_
    refine rd_op (ov_bi rfl (sl_len a4 Tryz.underlying22 _)) ?_
    refine bN i_lss rfl rfl ?_
    refine nS ?_
    refine rc_cond rfl ?_ ?_ <;> intro c <;> try simp only [qa, qaD] at c
    rotate_left
    · omega
    refine rc_skip ?_
    refine pn_seq ?_
    refine rc_seq ?_
    refine rc_block ?_
    refine sR ?_
    refine gL (api_Program.g_Headers r0) rfl rfl rfl fun b5 b0 => ?_
    refine mV rfl ?_
    obtain ⟨b2, a9, a1⟩ := sl_idx (i := a0) b0 (by first | omega | (have hk := em_len (by assumption) (by assumption); omega)) (by first | omega | (have hk := em_len (by assumption) (by assumption); omega))
    refine rd_op (ov_iaddr rfl rfl a9) ?_
    refine lD a1 rfl rfl rfl ?_
    obtain ⟨b4, a6, hres⟩ := let_ex hres
    have a7 := f64_ok  a1 
    rw [a6] at a7
    refine cL a7 rfl rfl (clL_cons (TR.clo api_Header.t a1) clL_nil) ?_
    refine rd_op (ov_not rfl) ?_
    refine nS ?_
    refine rc_br hres rfl ?_ ?_ <;> clear hres <;> intro c hres <;> try simp only [qa, qaD] at c
    · refine sR ?_
      refine mB rfl ?_
      refine nS ?_
      exact rR hres rfl rfl rfl
    · refine rc_skip ?_
      refine pn_blk ?_
      refine pn_seq ?_
      refine rc_region ?_
      refine mV rfl ?_
      refine bN i_add rfl rfl ?_
      refine mV rfl ?_
      refine rd_nil ?_
      refine pn_again ?_
      have hbd := sl_bound a4
      have hinc : wr (a0 + 1) = a0 + 1 := wr_of (by omega) (by omega)
      erw [hinc]
      exact wC (ih   (by omega) (by omega) hres) rfl

theorem law21_TooLarge_L2_ok {S : List Fr} {res : Bool} {x0 : api_Program} {v0 : PV} (r0 : api_Program.t.R x0 v0) (a3 : (((((((((decide (60 < (x0.Name.length : Int))) || (decide (16 < (x0.Headers.length : Int)))) || (decide (20 < (x0.Metadata.length : Int)))) || (decide (8 < (x0.Registers.length : Int)))) || (decide (24 < (x0.Actions.length : Int)))) || (decide (16 < (x0.Tables.length : Int)))) || (decide (16 < (x0.States.length : Int)))) || (decide (16 < (x0.Deparser.length : Int)))) || (decide (60 < (law21_nodes x0.Control 10)))) = false) {K2 : Unit → Bool}
    (b5 : K2 () = res → PX Tryz.prog 2 S (QR Tryz.prog [(2, none)] (RF27 res)) [(1, .fp v0)] ⟨0, []⟩) :
    ∀ {m : Nat} {a0 : Int} (b1 : m = Int.toNat ((x0.Actions.length : Int) - a0)) (a4 : 0 ≤ a0), law21_TooLarge_L2 x0 K2 m a0 = res → RC Tryz.prog (.loop ac27_L2) S (QR Tryz.prog [(2, none)] (RF27 res)) [(4, vi a0), (1, .fp v0)] ⟨0, []⟩ := by
  have a1 := a3
  try simp only [qa, qaD] at a1
  intro m
  induction m with
  | zero =>
    intro a0 b1 a4 hres
    rw [law21_TooLarge_L2] at hres
    refine rc_loop ?_
    refine rc_seq ?_
    refine sR ?_
    refine mV rfl ?_
    refine gL (api_Program.g_Actions r0) rfl rfl rfl fun b2 a8 => ?_
    refine rd_op (ov_bi rfl (sl_len a8 Tryz.underlying25 _)) ?_
    refine bN i_lss rfl rfl ?_
    refine nS ?_
    refine rc_cond rfl ?_ ?_ <;> intro c <;> try simp only [qa, qaD] at c
    · omega
    refine rc_exit ?_
    refine px_seq ?_
    refine px_again ?_
    exact wP (b5  hres) rfl
  | succ m ih =>
    intro a0 b1 a4 hres
    rw [law21_TooLarge_L2] at hres
    refine rc_loop ?_
    refine rc_seq ?_
    refine sR ?_
    refine mV rfl ?_
    refine gL (api_Program.g_Actions r0) rfl rfl rfl fun b6 a7 => ?_
    refine rd_op (ov_bi rfl (sl_len a7 Tryz.underlying25 _)) ?_
    refine bN i_lss rfl rfl ?_
    refine nS ?_
    refine rc_cond rfl ?_ ?_ <;> intro c <;> try simp only [qa, qaD] at c
    rotate_left
    · omega
    refine rc_skip ?_
    refine pn_seq ?_
    refine rc_seq ?_
    refine rc_block ?_
    refine sR ?_
    refine gL (api_Program.g_Actions r0) rfl rfl rfl fun b7 a9 => ?_
    refine mV rfl ?_
    obtain ⟨b4, b0, a2⟩ := sl_idx (i := a0) a9 (by first | omega | (have hk := em_len (by assumption) (by assumption); omega)) (by first | omega | (have hk := em_len (by assumption) (by assumption); omega))
    refine rd_op (ov_iaddr rfl rfl b0) ?_
    refine lD a2 rfl rfl rfl ?_
    obtain ⟨b3, a6, hres⟩ := let_ex hres
    have a5 := f65_ok  a2 
    rw [a6] at a5
    refine cL a5 rfl rfl (clL_cons (TR.clo api_Action.t a2) clL_nil) ?_
    refine nS ?_
    refine rc_br hres rfl ?_ ?_ <;> clear hres <;> intro c hres <;> try simp only [qa, qaD] at c
    · refine sR ?_
      refine mB rfl ?_
      refine nS ?_
      exact rR hres rfl rfl rfl
    · refine rc_skip ?_
      refine pn_blk ?_
      refine pn_seq ?_
      refine rc_region ?_
      refine mV rfl ?_
      refine bN i_add rfl rfl ?_
      refine mV rfl ?_
      refine rd_nil ?_
      refine pn_again ?_
      have hbd := sl_bound a7
      have hinc : wr (a0 + 1) = a0 + 1 := wr_of (by omega) (by omega)
      erw [hinc]
      exact wC (ih   (by omega) (by omega) hres) rfl

theorem law21_TooLarge_L3_ok {S : List Fr} {res : Bool} {x0 : api_Program} {v0 : PV} (r0 : api_Program.t.R x0 v0) (b2 : (((((((((decide (60 < (x0.Name.length : Int))) || (decide (16 < (x0.Headers.length : Int)))) || (decide (20 < (x0.Metadata.length : Int)))) || (decide (8 < (x0.Registers.length : Int)))) || (decide (24 < (x0.Actions.length : Int)))) || (decide (16 < (x0.Tables.length : Int)))) || (decide (16 < (x0.States.length : Int)))) || (decide (16 < (x0.Deparser.length : Int)))) || (decide (60 < (law21_nodes x0.Control 10)))) = false) {K4 : Unit → Bool}
    (e7 : K4 () = res → PX Tryz.prog 4 S (QR Tryz.prog [(2, none)] (RF27 res)) [(1, .fp v0)] ⟨0, []⟩) :
    ∀ {m : Nat} {a0 : Int} (d5 : m = Int.toNat ((x0.Tables.length : Int) - a0)) (b4 : 0 ≤ a0), law21_TooLarge_L3 x0 K4 m a0 = res → RC Tryz.prog (.loop ac27_L3) S (QR Tryz.prog [(2, none)] (RF27 res)) [(5, vi a0), (1, .fp v0)] ⟨0, []⟩ := by
  have a3 := b2
  try simp only [qa, qaD] at a3
  intro m
  induction m with
  | zero =>
    intro a0 d5 b4 hres
    rw [law21_TooLarge_L3] at hres
    refine rc_loop ?_
    refine rc_seq ?_
    refine sR ?_
    refine mV rfl ?_
    refine gL (api_Program.g_Tables r0) rfl rfl rfl fun e1 c8 => ?_
    refine rd_op (ov_bi rfl (sl_len c8 Tryz.underlying26 _)) ?_
    refine bN i_lss rfl rfl ?_
    refine nS ?_
    refine rc_cond rfl ?_ ?_ <;> intro c <;> try simp only [qa, qaD] at c
    · omega
    refine rc_exit ?_
    refine px_seq ?_
    refine px_again ?_
    exact wP (e7  hres) rfl
  | succ m ih =>
    intro a0 d5 b4 hres
    rw [law21_TooLarge_L3] at hres
    refine rc_loop ?_
    refine rc_seq ?_
    refine sR ?_
    refine mV rfl ?_
    refine gL (api_Program.g_Tables r0) rfl rfl rfl fun e3 b5 => ?_
    refine rd_op (ov_bi rfl (sl_len b5 Tryz.underlying26 _)) ?_
    refine bN i_lss rfl rfl ?_
    refine nS ?_
    refine rc_cond rfl ?_ ?_ <;> intro c <;> try simp only [qa, qaD] at c
    rotate_left
    · omega
    refine rc_skip ?_
    refine pn_seq ?_
    refine rc_seq ?_
    refine rc_block ?_
    refine sR ?_
    refine gL (api_Program.g_Tables r0) rfl rfl rfl fun e4 b9 => ?_
    refine mV rfl ?_
    obtain ⟨e2, c4, c7⟩ := sl_idx (i := a0) b9 (by first | omega | (have hk := em_len (by assumption) (by assumption); omega)) (by first | omega | (have hk := em_len (by assumption) (by assumption); omega))
    refine rd_op (ov_iaddr rfl rfl c4) ?_
    refine gL (api_Table.g_Keys c7) rfl rfl rfl fun e6 c3 => ?_
    refine rd_op (ov_bi rfl (sl_len c3 Tryz.underlying85 _)) ?_
    refine bN i_gtr rfl rfl ?_
    refine mV rfl ?_
    refine rd_cutn 9 (d := 110) (v := vb ((decide (10 < (((ix x0.Tables a0).Keys).length : Int))) || (decide (24 < (((ix x0.Tables a0).Actions).length : Int))))) ?_ ?_
    · intro S Q r
      cases b0 : (decide (10 < (((ix x0.Tables a0).Keys).length : Int)))
      · intro k
        have a6 := b0
        try simp only [qa, qaD] at a6
        obtain ⟨d9, b8, a1⟩ := api_Program.g_Tables r0
        refine rd_yes rfl rfl (ov_faddr rfl b8) ?_
        refine rd_yes rfl rfl (ov_load rfl (TR.cnt (tSl api_Table.t) a1) (TR.agg (tSl api_Table.t) a1)) ?_
        refine rd_yes rfl rfl (ov_move rfl) ?_
        obtain ⟨d6, c1, b7⟩ := sl_idx (i := a0) a1 (by first | omega | (have hk := em_len (by assumption) (by assumption); omega)) (by first | omega | (have hk := em_len (by assumption) (by assumption); omega))
        refine rd_yes rfl rfl (ov_iaddr rfl rfl c1) ?_
        obtain ⟨e0, d0, a4⟩ := api_Table.g_Actions b7
        refine rd_yes rfl rfl (ov_faddr rfl d0) ?_
        refine rd_yes rfl rfl (ov_load rfl (TR.cnt (tSl tI) a4) (TR.agg (tSl tI) a4)) ?_
        refine rd_yes rfl rfl (ov_bi rfl (sl_len a4 Tryz.underlying29 _)) ?_
        refine rd_yes rfl rfl (ov_bin rfl rfl i_gtr) ?_
        exact gK rfl rfl rfl rfl rfl k
      · exact gN 8 rfl rfl rfl rfl rfl rfl
    refine mV rfl ?_
    refine rd_cutn 10 (d := 121) (v := vb (((decide (10 < (((ix x0.Tables a0).Keys).length : Int))) || (decide (24 < (((ix x0.Tables a0).Actions).length : Int)))) || (decide (8 < ((((ix x0.Tables a0).Default).Args).length : Int))))) ?_ ?_
    · intro S Q r
      cases b1 : ((decide (10 < (((ix x0.Tables a0).Keys).length : Int))) || (decide (24 < (((ix x0.Tables a0).Actions).length : Int))))
      · intro k
        have a9 := b1
        try simp only [qa, qaD] at a9
        obtain ⟨d8, d3, a8⟩ := api_Program.g_Tables r0
        refine rd_yes rfl rfl (ov_faddr rfl d3) ?_
        refine rd_yes rfl rfl (ov_load rfl (TR.cnt (tSl api_Table.t) a8) (TR.agg (tSl api_Table.t) a8)) ?_
        refine rd_yes rfl rfl (ov_move rfl) ?_
        obtain ⟨e8, c6, c5⟩ := sl_idx (i := a0) a8 (by first | omega | (have hk := em_len (by assumption) (by assumption); omega)) (by first | omega | (have hk := em_len (by assumption) (by assumption); omega))
        refine rd_yes rfl rfl (ov_iaddr rfl rfl c6) ?_
        obtain ⟨e9, c9, d4⟩ := api_Table.g_Default c5
        refine rd_yes rfl rfl (ov_faddr rfl c9) ?_
        obtain ⟨d7, c0, a2⟩ := api_ActionCall.g_Args d4
        refine rd_yes rfl rfl (ov_faddr rfl c0) ?_
        refine rd_yes rfl rfl (ov_load rfl (TR.cnt (tSl tU32) a2) (TR.agg (tSl tU32) a2)) ?_
        refine rd_yes rfl rfl (ov_bi rfl (sl_len a2 Tryz.underlying33 _)) ?_
        refine rd_yes rfl rfl (ov_bin rfl rfl i_gtr) ?_
        exact gK rfl rfl rfl rfl rfl k
      · exact gN 9 rfl rfl rfl rfl rfl rfl
    refine mV rfl ?_
    refine rd_cutn 9 (d := 131) (v := vb ((((decide (10 < (((ix x0.Tables a0).Keys).length : Int))) || (decide (24 < (((ix x0.Tables a0).Actions).length : Int)))) || (decide (8 < ((((ix x0.Tables a0).Default).Args).length : Int)))) || (decide (60 < (((ix x0.Tables a0).Name).length : Int))))) ?_ ?_
    · intro S Q r
      cases b3 : (((decide (10 < (((ix x0.Tables a0).Keys).length : Int))) || (decide (24 < (((ix x0.Tables a0).Actions).length : Int)))) || (decide (8 < ((((ix x0.Tables a0).Default).Args).length : Int))))
      · intro k
        have a5 := b3
        try simp only [qa, qaD] at a5
        obtain ⟨f0, b6, a7⟩ := api_Program.g_Tables r0
        refine rd_yes rfl rfl (ov_faddr rfl b6) ?_
        refine rd_yes rfl rfl (ov_load rfl (TR.cnt (tSl api_Table.t) a7) (TR.agg (tSl api_Table.t) a7)) ?_
        refine rd_yes rfl rfl (ov_move rfl) ?_
        obtain ⟨e5, d2, d1⟩ := sl_idx (i := a0) a7 (by first | omega | (have hk := em_len (by assumption) (by assumption); omega)) (by first | omega | (have hk := em_len (by assumption) (by assumption); omega))
        refine rd_yes rfl rfl (ov_iaddr rfl rfl d2) ?_
        refine rd_yes rfl rfl (ov_faddr rfl (api_Table.g_Name d1)) ?_
        refine rd_yes rfl rfl (ov_load rfl rfl rfl) ?_
        refine rd_yes rfl rfl (ov_bi rfl (str_len Tryz.underlying9)) ?_
        refine rd_yes rfl rfl (ov_bin rfl rfl i_gtr) ?_
        exact gK rfl rfl rfl rfl rfl k
      · exact gN 8 rfl rfl rfl rfl rfl rfl
    refine nS ?_
    refine rc_br hres rfl ?_ ?_ <;> clear hres <;> intro c hres <;> try simp only [qa, qaD] at c
    · refine sR ?_
      refine mB rfl ?_
      refine nS ?_
      exact rR hres rfl rfl rfl
    · refine rc_skip ?_
      refine pn_blk ?_
      refine pn_seq ?_
      refine rc_region ?_
      refine mV rfl ?_
      refine bN i_add rfl rfl ?_
      refine mV rfl ?_
      refine rd_nil ?_
      refine pn_again ?_
      have hbd := sl_bound b5
      have hinc : wr (a0 + 1) = a0 + 1 := wr_of (by omega) (by omega)
      erw [hinc]
      exact wC (ih   (by omega) (by omega) hres) rfl

theorem law21_TooLarge_L4_ok {S : List Fr} {res : Bool} {x0 : api_Program} {v0 : PV} (r0 : api_Program.t.R x0 v0) (a3 : (((((((((decide (60 < (x0.Name.length : Int))) || (decide (16 < (x0.Headers.length : Int)))) || (decide (20 < (x0.Metadata.length : Int)))) || (decide (8 < (x0.Registers.length : Int)))) || (decide (24 < (x0.Actions.length : Int)))) || (decide (16 < (x0.Tables.length : Int)))) || (decide (16 < (x0.States.length : Int)))) || (decide (16 < (x0.Deparser.length : Int)))) || (decide (60 < (law21_nodes x0.Control 10)))) = false) {K6 : Unit → Bool}
    (b3 : K6 () = res → PX Tryz.prog 6 S (QR Tryz.prog [(2, none)] (RF27 res)) [] ⟨0, []⟩) :
    ∀ {m : Nat} {a0 : Int} (b1 : m = Int.toNat ((x0.States.length : Int) - a0)) (a5 : 0 ≤ a0), law21_TooLarge_L4 x0 K6 m a0 = res → RC Tryz.prog (.loop ac27_L4) S (QR Tryz.prog [(2, none)] (RF27 res)) [(6, vi a0), (1, .fp v0)] ⟨0, []⟩ := by
  have a1 := a3
  try simp only [qa, qaD] at a1
  intro m
  induction m with
  | zero =>
    intro a0 b1 a5 hres
    rw [law21_TooLarge_L4] at hres
    refine rc_loop ?_
    refine rc_seq ?_
    refine sR ?_
    refine mV rfl ?_
    refine gL (api_Program.g_States r0) rfl rfl rfl fun b4 a8 => ?_
    refine rd_op (ov_bi rfl (sl_len a8 Tryz.underlying27 _)) ?_
    refine bN i_lss rfl rfl ?_
    refine nS ?_
    refine rc_cond rfl ?_ ?_ <;> intro c <;> try simp only [qa, qaD] at c
    · omega
    refine rc_exit ?_
    refine px_seq ?_
    refine px_again ?_
    exact wP (b3  hres) rfl
  | succ m ih =>
    intro a0 b1 a5 hres
    rw [law21_TooLarge_L4] at hres
    refine rc_loop ?_
    refine rc_seq ?_
    refine sR ?_
    refine mV rfl ?_
    refine gL (api_Program.g_States r0) rfl rfl rfl fun b7 a4 => ?_
    refine rd_op (ov_bi rfl (sl_len a4 Tryz.underlying27 _)) ?_
    refine bN i_lss rfl rfl ?_
    refine nS ?_
    refine rc_cond rfl ?_ ?_ <;> intro c <;> try simp only [qa, qaD] at c
    rotate_left
    · omega
    refine rc_skip ?_
    refine pn_seq ?_
    refine rc_seq ?_
    refine rc_block ?_
    refine sR ?_
    refine gL (api_Program.g_States r0) rfl rfl rfl fun b2 a9 => ?_
    refine mV rfl ?_
    obtain ⟨b5, b0, a2⟩ := sl_idx (i := a0) a9 (by first | omega | (have hk := em_len (by assumption) (by assumption); omega)) (by first | omega | (have hk := em_len (by assumption) (by assumption); omega))
    refine rd_op (ov_iaddr rfl rfl b0) ?_
    refine lD a2 rfl rfl rfl ?_
    obtain ⟨b6, a7, hres⟩ := let_ex hres
    have a6 := f66_ok  a2 
    rw [a7] at a6
    refine cL a6 rfl rfl (clL_cons (TR.clo api_ParserState.t a2) clL_nil) ?_
    refine nS ?_
    refine rc_br hres rfl ?_ ?_ <;> clear hres <;> intro c hres <;> try simp only [qa, qaD] at c
    · refine sR ?_
      refine mB rfl ?_
      refine nS ?_
      exact rR hres rfl rfl rfl
    · refine rc_skip ?_
      refine pn_blk ?_
      refine pn_seq ?_
      refine rc_region ?_
      refine mV rfl ?_
      refine bN i_add rfl rfl ?_
      refine mV rfl ?_
      refine rd_nil ?_
      refine pn_again ?_
      have hbd := sl_bound a4
      have hinc : wr (a0 + 1) = a0 + 1 := wr_of (by omega) (by omega)
      erw [hinc]
      exact wC (ih   (by omega) (by omega) hres) rfl

theorem f27_ok {x0 : api_Program} {v0 : PV} (r0 : api_Program.t.R x0 v0) : FnR Tryz.prog 27 [v0] (vb (law21_TooLarge x0)) := by
  refine fnS (R := RF27) text27 (fun _ h => h) rfl fun res hres => ?_
  unfold law21_TooLarge at hres
  refine sR ?_
  refine rd_op (ov_box rfl (TR.cnt api_Program.t r0)) ?_
  refine mB rfl ?_
  refine nS ?_
  refine rc_seq ?_
  refine sR ?_
  refine fL rfl (api_Program.g_Name r0) rfl rfl ?_
  refine rd_op (ov_bi rfl (str_len Tryz.underlying9)) ?_
  refine bN i_gtr rfl rfl ?_
  refine mV rfl ?_
  refine rd_cutn 5 (d := 16) (v := vb ((decide (60 < (x0.Name.length : Int))) || (decide (16 < (x0.Headers.length : Int))))) ?_ ?_
  · intro S Q r
    cases c6 : (decide (60 < (x0.Name.length : Int)))
    · intro k
      have b2 := c6
      try simp only [qa, qaD] at b2
      obtain ⟨e3, c9, b7⟩ := api_Program.g_Headers r0
      refine rd_yes rfl rfl (ov_faddr rfl c9) ?_
      refine rd_yes rfl rfl (ov_load rfl (TR.cnt (tSl api_Header.t) b7) (TR.agg (tSl api_Header.t) b7)) ?_
      refine rd_yes rfl rfl (ov_bi rfl (sl_len b7 Tryz.underlying22 _)) ?_
      refine rd_yes rfl rfl (ov_bin rfl rfl i_gtr) ?_
      exact gK rfl rfl rfl rfl rfl k
    · exact gN 4 rfl rfl rfl rfl rfl rfl
  refine mV rfl ?_
  refine rd_cutn 5 (d := 22) (v := vb (((decide (60 < (x0.Name.length : Int))) || (decide (16 < (x0.Headers.length : Int)))) || (decide (20 < (x0.Metadata.length : Int))))) ?_ ?_
  · intro S Q r
    cases b8 : ((decide (60 < (x0.Name.length : Int))) || (decide (16 < (x0.Headers.length : Int))))
    · intro k
      have b5 := b8
      try simp only [qa, qaD] at b5
      obtain ⟨e1, c8, a3⟩ := api_Program.g_Metadata r0
      refine rd_yes rfl rfl (ov_faddr rfl c8) ?_
      refine rd_yes rfl rfl (ov_load rfl (TR.cnt (tSl api_Field.t) a3) (TR.agg (tSl api_Field.t) a3)) ?_
      refine rd_yes rfl rfl (ov_bi rfl (sl_len a3 Tryz.underlying23 _)) ?_
      refine rd_yes rfl rfl (ov_bin rfl rfl i_gtr) ?_
      exact gK rfl rfl rfl rfl rfl k
    · exact gN 4 rfl rfl rfl rfl rfl rfl
  refine mV rfl ?_
  refine rd_cutn 5 (d := 28) (v := vb ((((decide (60 < (x0.Name.length : Int))) || (decide (16 < (x0.Headers.length : Int)))) || (decide (20 < (x0.Metadata.length : Int)))) || (decide (8 < (x0.Registers.length : Int))))) ?_ ?_
  · intro S Q r
    cases c5 : (((decide (60 < (x0.Name.length : Int))) || (decide (16 < (x0.Headers.length : Int)))) || (decide (20 < (x0.Metadata.length : Int))))
    · intro k
      have a8 := c5
      try simp only [qa, qaD] at a8
      obtain ⟨d8, d0, a6⟩ := api_Program.g_Registers r0
      refine rd_yes rfl rfl (ov_faddr rfl d0) ?_
      refine rd_yes rfl rfl (ov_load rfl (TR.cnt (tSl api_Register.t) a6) (TR.agg (tSl api_Register.t) a6)) ?_
      refine rd_yes rfl rfl (ov_bi rfl (sl_len a6 Tryz.underlying24 _)) ?_
      refine rd_yes rfl rfl (ov_bin rfl rfl i_gtr) ?_
      exact gK rfl rfl rfl rfl rfl k
    · exact gN 4 rfl rfl rfl rfl rfl rfl
  refine mV rfl ?_
  refine rd_cutn 5 (d := 34) (v := vb (((((decide (60 < (x0.Name.length : Int))) || (decide (16 < (x0.Headers.length : Int)))) || (decide (20 < (x0.Metadata.length : Int)))) || (decide (8 < (x0.Registers.length : Int)))) || (decide (24 < (x0.Actions.length : Int))))) ?_ ?_
  · intro S Q r
    cases c4 : ((((decide (60 < (x0.Name.length : Int))) || (decide (16 < (x0.Headers.length : Int)))) || (decide (20 < (x0.Metadata.length : Int)))) || (decide (8 < (x0.Registers.length : Int))))
    · intro k
      have b4 := c4
      try simp only [qa, qaD] at b4
      obtain ⟨d9, d5, a9⟩ := api_Program.g_Actions r0
      refine rd_yes rfl rfl (ov_faddr rfl d5) ?_
      refine rd_yes rfl rfl (ov_load rfl (TR.cnt (tSl api_Action.t) a9) (TR.agg (tSl api_Action.t) a9)) ?_
      refine rd_yes rfl rfl (ov_bi rfl (sl_len a9 Tryz.underlying25 _)) ?_
      refine rd_yes rfl rfl (ov_bin rfl rfl i_gtr) ?_
      exact gK rfl rfl rfl rfl rfl k
    · exact gN 4 rfl rfl rfl rfl rfl rfl
  refine mV rfl ?_
  refine rd_cutn 5 (d := 40) (v := vb ((((((decide (60 < (x0.Name.length : Int))) || (decide (16 < (x0.Headers.length : Int)))) || (decide (20 < (x0.Metadata.length : Int)))) || (decide (8 < (x0.Registers.length : Int)))) || (decide (24 < (x0.Actions.length : Int)))) || (decide (16 < (x0.Tables.length : Int))))) ?_ ?_
  · intro S Q r
    cases c3 : (((((decide (60 < (x0.Name.length : Int))) || (decide (16 < (x0.Headers.length : Int)))) || (decide (20 < (x0.Metadata.length : Int)))) || (decide (8 < (x0.Registers.length : Int)))) || (decide (24 < (x0.Actions.length : Int))))
    · intro k
      have b3 := c3
      try simp only [qa, qaD] at b3
      obtain ⟨d6, d3, b6⟩ := api_Program.g_Tables r0
      refine rd_yes rfl rfl (ov_faddr rfl d3) ?_
      refine rd_yes rfl rfl (ov_load rfl (TR.cnt (tSl api_Table.t) b6) (TR.agg (tSl api_Table.t) b6)) ?_
      refine rd_yes rfl rfl (ov_bi rfl (sl_len b6 Tryz.underlying26 _)) ?_
      refine rd_yes rfl rfl (ov_bin rfl rfl i_gtr) ?_
      exact gK rfl rfl rfl rfl rfl k
    · exact gN 4 rfl rfl rfl rfl rfl rfl
  refine mV rfl ?_
  refine rd_cutn 5 (d := 46) (v := vb (((((((decide (60 < (x0.Name.length : Int))) || (decide (16 < (x0.Headers.length : Int)))) || (decide (20 < (x0.Metadata.length : Int)))) || (decide (8 < (x0.Registers.length : Int)))) || (decide (24 < (x0.Actions.length : Int)))) || (decide (16 < (x0.Tables.length : Int)))) || (decide (16 < (x0.States.length : Int))))) ?_ ?_
  · intro S Q r
    cases c1 : ((((((decide (60 < (x0.Name.length : Int))) || (decide (16 < (x0.Headers.length : Int)))) || (decide (20 < (x0.Metadata.length : Int)))) || (decide (8 < (x0.Registers.length : Int)))) || (decide (24 < (x0.Actions.length : Int)))) || (decide (16 < (x0.Tables.length : Int))))
    · intro k
      have a2 := c1
      try simp only [qa, qaD] at a2
      obtain ⟨d7, d4, b1⟩ := api_Program.g_States r0
      refine rd_yes rfl rfl (ov_faddr rfl d4) ?_
      refine rd_yes rfl rfl (ov_load rfl (TR.cnt (tSl api_ParserState.t) b1) (TR.agg (tSl api_ParserState.t) b1)) ?_
      refine rd_yes rfl rfl (ov_bi rfl (sl_len b1 Tryz.underlying27 _)) ?_
      refine rd_yes rfl rfl (ov_bin rfl rfl i_gtr) ?_
      exact gK rfl rfl rfl rfl rfl k
    · exact gN 4 rfl rfl rfl rfl rfl rfl
  refine mV rfl ?_
  refine rd_cutn 5 (d := 52) (v := vb ((((((((decide (60 < (x0.Name.length : Int))) || (decide (16 < (x0.Headers.length : Int)))) || (decide (20 < (x0.Metadata.length : Int)))) || (decide (8 < (x0.Registers.length : Int)))) || (decide (24 < (x0.Actions.length : Int)))) || (decide (16 < (x0.Tables.length : Int)))) || (decide (16 < (x0.States.length : Int)))) || (decide (16 < (x0.Deparser.length : Int))))) ?_ ?_
  · intro S Q r
    cases c0 : (((((((decide (60 < (x0.Name.length : Int))) || (decide (16 < (x0.Headers.length : Int)))) || (decide (20 < (x0.Metadata.length : Int)))) || (decide (8 < (x0.Registers.length : Int)))) || (decide (24 < (x0.Actions.length : Int)))) || (decide (16 < (x0.Tables.length : Int)))) || (decide (16 < (x0.States.length : Int))))
    · intro k
      have a4 := c0
      try simp only [qa, qaD] at a4
      obtain ⟨e0, c7, a5⟩ := api_Program.g_Deparser r0
      refine rd_yes rfl rfl (ov_faddr rfl c7) ?_
      refine rd_yes rfl rfl (ov_load rfl (TR.cnt (tSl tI) a5) (TR.agg (tSl tI) a5)) ?_
      refine rd_yes rfl rfl (ov_bi rfl (sl_len a5 Tryz.underlying29 _)) ?_
      refine rd_yes rfl rfl (ov_bin rfl rfl i_gtr) ?_
      exact gK rfl rfl rfl rfl rfl k
    · exact gN 4 rfl rfl rfl rfl rfl rfl
  refine mV rfl ?_
  refine rd_cutn 5 (d := 58) (v := vb (((((((((decide (60 < (x0.Name.length : Int))) || (decide (16 < (x0.Headers.length : Int)))) || (decide (20 < (x0.Metadata.length : Int)))) || (decide (8 < (x0.Registers.length : Int)))) || (decide (24 < (x0.Actions.length : Int)))) || (decide (16 < (x0.Tables.length : Int)))) || (decide (16 < (x0.States.length : Int)))) || (decide (16 < (x0.Deparser.length : Int)))) || (decide (60 < (law21_nodes x0.Control 10))))) ?_ ?_
  · intro S Q r
    cases b9 : ((((((((decide (60 < (x0.Name.length : Int))) || (decide (16 < (x0.Headers.length : Int)))) || (decide (20 < (x0.Metadata.length : Int)))) || (decide (8 < (x0.Registers.length : Int)))) || (decide (24 < (x0.Actions.length : Int)))) || (decide (16 < (x0.Tables.length : Int)))) || (decide (16 < (x0.States.length : Int)))) || (decide (16 < (x0.Deparser.length : Int))))
    · intro k
      have a7 := b9
      try simp only [qa, qaD] at a7
      obtain ⟨e2, d1, a1⟩ := api_Program.g_Control r0
      refine rd_yes rfl rfl (ov_faddr rfl d1) ?_
      refine rd_yes rfl rfl (ov_load rfl (TR.cnt (tSl api_ControlNode.t) a1) (TR.agg (tSl api_ControlNode.t) a1)) ?_
      have d2 := f63_ok (x1 := 10) a1 (by first | assumption | omega | (rw [wr_of (by omega) (by omega)]; omega)) (by first | assumption | omega | (rw [wr_of (by omega) (by omega)]; omega))
      refine rd_ycall rfl rfl (cv_fn rfl rfl (clL_cons (TR.clo (tSl api_ControlNode.t) a1) (clL_cons rfl clL_nil)) d2) ?_
      refine rd_yes rfl rfl (ov_bin rfl rfl i_gtr) ?_
      exact gK rfl rfl rfl rfl rfl k
    · exact gN 4 rfl rfl rfl rfl rfl rfl
  refine nS ?_
  refine rc_br hres rfl ?_ ?_ <;> clear hres <;> intro a0 hres <;> have b0 := a0 <;> try simp only [qa, qaD] at b0
  · refine sR ?_
    refine mB rfl ?_
    refine nS ?_
    exact rR hres rfl rfl rfl
  · refine rc_skip ?_
    refine pn_seq ?_
    refine rc_seq ?_
    refine sR ?_
    refine mI rfl ?_
    refine nS ?_
    refine rc_block ?_
    refine wC (law21_TooLarge_L1_ok r0 a0 ?_  rfl (by omega) hres) rfl
    · intro  hres
      refine px_blk ?_
      refine pn_seq ?_
      refine rc_seq ?_
      refine sR ?_
      refine mI rfl ?_
      refine nS ?_
      refine rc_block ?_
      refine wC (law21_TooLarge_L2_ok r0 a0 ?_  rfl (by omega) hres) rfl
      · intro  hres
        refine px_blk ?_
        refine pn_seq ?_
        refine rc_seq ?_
        refine sR ?_
        refine mI rfl ?_
        refine nS ?_
        refine rc_block ?_
        refine wC (law21_TooLarge_L3_ok r0 a0 ?_  rfl (by omega) hres) rfl
        · intro  hres
          refine px_blk ?_
          refine pn_seq ?_
          refine rc_seq ?_
          refine sR ?_
          refine mI rfl ?_
          refine nS ?_
          refine rc_block ?_
          refine wC (law21_TooLarge_L4_ok r0 a0 ?_  rfl (by omega) hres) rfl
          · intro  hres
            refine px_blk ?_
            refine pn_seq ?_
            refine sR ?_
            refine mB rfl ?_
            refine nS ?_
            exact rR hres rfl rfl rfl

def RF10 (res : Bool) (r : PV) : Prop := r = vb res
theorem law24_tooLarge_L1_ok {S : List Fr} {res : Bool} {x0 : law24_Case} {a6 : Bool} {v0 : PV} (r0 : law24_Case.t.R x0 v0) (c6 : law21_TooLarge x0.Program = a6) (a9 : ((a6 || (decide (30 < (x0.Rows.length : Int)))) || (decide (20 < (x0.Key.length : Int)))) = false) {K0 : Unit → Bool}
    (d8 : K0 () = res → PX Tryz.prog 0 S (QR Tryz.prog [(2, none)] (RF10 res)) [] ⟨0, []⟩) :
    ∀ {m : Nat} {a0 : Int} (c7 : m = Int.toNat ((x0.Rows.length : Int) - a0)) (a5 : 0 ≤ a0), law24_tooLarge_L1 x0 K0 m a0 = res → RC Tryz.prog (.loop ac10_L1) S (QR Tryz.prog [(2, none)] (RF10 res)) [(3, vi a0), (1, .fp v0)] ⟨0, []⟩ := by
  have a1 := a9
  try simp only [qa, qaD] at a1
  intro m
  induction m with
  | zero =>
    intro a0 c7 a5 hres
    rw [law24_tooLarge_L1] at hres
    refine rc_loop ?_
    refine rc_seq ?_
    refine sR ?_
    refine mV rfl ?_
    refine gL (law24_Case.g_Rows r0) rfl rfl rfl fun d4 b7 => ?_
    refine rd_op (ov_bi rfl (sl_len b7 Tryz.underlying32 _)) ?_
    refine bN i_lss rfl rfl ?_
    refine nS ?_
    refine rc_cond rfl ?_ ?_ <;> intro c <;> try simp only [qa, qaD] at c
    · omega
    refine rc_exit ?_
    refine px_seq ?_
    refine px_again ?_
    exact wP (d8  hres) rfl
  | succ m ih =>
    intro a0 c7 a5 hres
    rw [law24_tooLarge_L1] at hres
    refine rc_loop ?_
    refine rc_seq ?_
    refine sR ?_
    refine mV rfl ?_
    refine gL (law24_Case.g_Rows r0) rfl rfl rfl fun c9 a8 => ?_
    refine rd_op (ov_bi rfl (sl_len a8 Tryz.underlying32 _)) ?_
    refine bN i_lss rfl rfl ?_
    refine nS ?_
    refine rc_cond rfl ?_ ?_ <;> intro c <;> try simp only [qa, qaD] at c
    rotate_left
    · omega
    refine rc_skip ?_
    refine pn_seq ?_
    refine rc_seq ?_
    refine rc_block ?_
    refine sR ?_
    refine gL (law24_Case.g_Rows r0) rfl rfl rfl fun d1 b9 => ?_
    refine mV rfl ?_
    obtain ⟨d0, c4, b2⟩ := sl_idx (i := a0) b9 (by first | omega | (have hk := em_len (by assumption) (by assumption); omega)) (by first | omega | (have hk := em_len (by assumption) (by assumption); omega))
    refine rd_op (ov_iaddr rfl rfl c4) ?_
    obtain ⟨d5, b0, b3⟩ := api_Row.g_Entry b2
    refine fA rfl b0 ?_
    refine gL (api_Entry.g_Keys b3) rfl rfl rfl fun d6 c3 => ?_
    refine rd_op (ov_bi rfl (sl_len c3 Tryz.underlying38 _)) ?_
    refine bN i_gtr rfl rfl ?_
    refine mV rfl ?_
    refine rd_cutn 11 (d := 46) (v := vb ((decide (20 < ((((ix x0.Rows a0).Entry).Keys).length : Int))) || (decide (20 < (((((ix x0.Rows a0).Entry).Call).Args).length : Int))))) ?_ ?_
    · intro S Q r
      cases a7 : (decide (20 < ((((ix x0.Rows a0).Entry).Keys).length : Int)))
      · intro k
        have a2 := a7
        try simp only [qa, qaD] at a2
        obtain ⟨d3, b5, a4⟩ := law24_Case.g_Rows r0
        refine rd_yes rfl rfl (ov_faddr rfl b5) ?_
        refine rd_yes rfl rfl (ov_load rfl (TR.cnt (tSl api_Row.t) a4) (TR.agg (tSl api_Row.t) a4)) ?_
        refine rd_yes rfl rfl (ov_move rfl) ?_
        obtain ⟨c8, c1, b4⟩ := sl_idx (i := a0) a4 (by first | omega | (have hk := em_len (by assumption) (by assumption); omega)) (by first | omega | (have hk := em_len (by assumption) (by assumption); omega))
        refine rd_yes rfl rfl (ov_iaddr rfl rfl c1) ?_
        obtain ⟨d2, b6, b8⟩ := api_Row.g_Entry b4
        refine rd_yes rfl rfl (ov_faddr rfl b6) ?_
        obtain ⟨d9, c5, c0⟩ := api_Entry.g_Call b8
        refine rd_yes rfl rfl (ov_faddr rfl c5) ?_
        obtain ⟨d7, b1, a3⟩ := api_ActionCall.g_Args c0
        refine rd_yes rfl rfl (ov_faddr rfl b1) ?_
        refine rd_yes rfl rfl (ov_load rfl (TR.cnt (tSl tU32) a3) (TR.agg (tSl tU32) a3)) ?_
        refine rd_yes rfl rfl (ov_bi rfl (sl_len a3 Tryz.underlying33 _)) ?_
        refine rd_yes rfl rfl (ov_bin rfl rfl i_gtr) ?_
        exact gK rfl rfl rfl rfl rfl k
      · exact gN 10 rfl rfl rfl rfl rfl rfl
    refine nS ?_
    refine rc_br hres rfl ?_ ?_ <;> clear hres <;> intro c hres <;> try simp only [qa, qaD] at c
    · refine sR ?_
      refine mB rfl ?_
      refine nS ?_
      exact rR hres rfl rfl rfl
    · refine rc_skip ?_
      refine pn_blk ?_
      refine pn_seq ?_
      refine rc_region ?_
      refine mV rfl ?_
      refine bN i_add rfl rfl ?_
      refine mV rfl ?_
      refine rd_nil ?_
      refine pn_again ?_
      have hbd := sl_bound a8
      have hinc : wr (a0 + 1) = a0 + 1 := wr_of (by omega) (by omega)
      erw [hinc]
      exact wC (ih   (by omega) (by omega) hres) rfl

theorem f10_ok {x0 : law24_Case} {v0 : PV} (r0 : law24_Case.t.R x0 v0) : FnR Tryz.prog 10 [v0] (vb (law24_tooLarge x0)) := by
  refine fnS (R := RF10) text10 (fun _ h => h) rfl fun res hres => ?_
  unfold law24_tooLarge at hres
  refine sR ?_
  refine rd_op (ov_box rfl (TR.cnt law24_Case.t r0)) ?_
  refine mB rfl ?_
  refine nS ?_
  refine rc_seq ?_
  refine sR ?_
  refine gL (law24_Case.g_Program r0) rfl rfl rfl fun b4 b1 => ?_
  obtain ⟨a0, a1, hres⟩ := let_ex hres
  have a9 := f27_ok  b1 
  rw [a1] at a9
  refine cL a9 rfl rfl (clL_cons (TR.clo api_Program.t b1) clL_nil) ?_
  refine mV rfl ?_
  refine rd_cutn 5 (d := 12) (v := vb (a0 || (decide (30 < (x0.Rows.length : Int))))) ?_ ?_
  · intro S Q r
    cases a8 : a0
    · intro k
      have a7 := a8
      try simp only [qa, qaD] at a7
      obtain ⟨b6, b2, a4⟩ := law24_Case.g_Rows r0
      refine rd_yes rfl rfl (ov_faddr rfl b2) ?_
      refine rd_yes rfl rfl (ov_load rfl (TR.cnt (tSl api_Row.t) a4) (TR.agg (tSl api_Row.t) a4)) ?_
      refine rd_yes rfl rfl (ov_bi rfl (sl_len a4 Tryz.underlying32 _)) ?_
      refine rd_yes rfl rfl (ov_bin rfl rfl i_gtr) ?_
      exact gK rfl rfl rfl rfl rfl k
    · exact gN 4 rfl rfl rfl rfl rfl rfl
  refine mV rfl ?_
  refine rd_cutn 5 (d := 18) (v := vb ((a0 || (decide (30 < (x0.Rows.length : Int)))) || (decide (20 < (x0.Key.length : Int))))) ?_ ?_
  · intro S Q r
    cases b0 : (a0 || (decide (30 < (x0.Rows.length : Int))))
    · intro k
      have a6 := b0
      try simp only [qa, qaD] at a6
      obtain ⟨b5, b3, a5⟩ := law24_Case.g_Key r0
      refine rd_yes rfl rfl (ov_faddr rfl b3) ?_
      refine rd_yes rfl rfl (ov_load rfl (TR.cnt (tSl tU32) a5) (TR.agg (tSl tU32) a5)) ?_
      refine rd_yes rfl rfl (ov_bi rfl (sl_len a5 Tryz.underlying33 _)) ?_
      refine rd_yes rfl rfl (ov_bin rfl rfl i_gtr) ?_
      exact gK rfl rfl rfl rfl rfl k
    · exact gN 4 rfl rfl rfl rfl rfl rfl
  refine nS ?_
  refine rc_br hres rfl ?_ ?_ <;> clear hres <;> intro a2 hres <;> have a3 := a2 <;> try simp only [qa, qaD] at a3
  · refine sR ?_
    refine mB rfl ?_
    refine nS ?_
    exact rR hres rfl rfl rfl
  · refine rc_skip ?_
    refine pn_seq ?_
    refine rc_seq ?_
    refine sR ?_
    refine mI rfl ?_
    refine nS ?_
    refine rc_block ?_
    refine wC (law24_tooLarge_L1_ok r0 a1 a2 ?_  rfl (by omega) hres) rfl
    · intro  hres
      refine px_blk ?_
      refine pn_seq ?_
      refine sR ?_
      refine mB rfl ?_
      refine nS ?_
      exact rR hres rfl rfl rfl

end Go.Proofs.YthdnpgpnodgicaaGreat
