/-
  The code of each function does what its plain program says.
-/
import Derived.Test.YtmonnlkagniolaaGreatKDef
import Derived.Test.YtmonnlkagniolaaGreatL10Text
import Derived.Test.YtmonnlkagniolaaGreatPbV
import Derived.Test.YtmonnlkagniolaaGreatKEo
import Derived.Test.YtmonnlkagniolaaGreatKPmKpKq
import Derived.Test.YtmonnlkagniolaaGreatL10Run
set_option linter.unusedVariables false
set_option linter.unusedSimpArgs false
set_option maxRecDepth 100000
namespace Go.Proofs.YtmonnlkagniolaaGreat
open Go Go.Pb Go.RowKit
def RF33 (res : Bool) (r : PV) : Prop := r = vb res
theorem law16_Small_L2_ok {S : List Fr} {res : Bool} {x0 : api_Program} {a0 : Int} {v0 : PV} (r0 : api_Program.t.R x0 v0) (a9 : ((((decide (20 < (x0.Headers.length : Int))) || (decide (30 < (x0.Metadata.length : Int)))) || (decide (20 < (x0.Registers.length : Int)))) || (decide (40 < (x0.Actions.length : Int)))) = false) (e4 : 0 ≤ a0) (b2 : (decide (a0 < (x0.Actions.length : Int))) = true) (b3 : ((decide (20 < (((ix x0.Actions a0).Params).length : Int))) || (decide (30 < (((ix x0.Actions a0).Body).length : Int)))) = false) {K2 : Unit → Bool}
    (f4 : K2 () = res → PX Tryz.prog 2 S (QR Tryz.prog [(2, none)] (RF33 res)) [(1, .fp v0), (3, vi a0)] ⟨0, []⟩) :
    ∀ {m : Nat} {a1 : Int} (d6 : m = Int.toNat ((((ix x0.Actions a0).Body).length : Int) - a1)) (b0 : 0 ≤ a1), law16_Small_L2 x0 a0 K2 m a1 = res → RC Tryz.prog (.loop ac33_L2) S (QR Tryz.prog [(2, none)] (RF33 res)) [(4, vi a1), (3, vi a0), (1, .fp v0)] ⟨0, []⟩ := by
  have a2 := a9
  try simp only [qa, qaD] at a2
  have a8 := b2
  try simp only [qa, qaD] at a8
  have a6 := b3
  try simp only [qa, qaD] at a6
  intro m
  induction m with
  | zero =>
    intro a1 d6 b0 hres
    rw [law16_Small_L2] at hres
    refine rc_loop ?_
    refine rc_seq ?_
    refine sR ?_
    refine mV rfl ?_
    refine gL (api_Program.g_Actions r0) rfl rfl rfl fun f1 b6 => ?_
    refine mV rfl ?_
    obtain ⟨f2, c7, b9⟩ := sl_idx (i := a0) b6 (by omega) (by omega)
    refine rd_op (ov_iaddr rfl rfl c7) ?_
    refine gL (api_Action.g_Body b9) rfl rfl rfl fun e8 d0 => ?_
    refine rd_op (ov_bi rfl (sl_len d0 Tryz.underlying95 _)) ?_
    refine bN i_lss rfl rfl ?_
    refine nS ?_
    refine rc_cond rfl ?_ ?_ <;> intro c <;> try simp only [qa, qaD] at c
    · omega
    refine rc_exit ?_
    refine px_seq ?_
    refine px_again ?_
    exact wP (f4  hres) rfl
  | succ m ih =>
    intro a1 d6 b0 hres
    rw [law16_Small_L2] at hres
    refine rc_loop ?_
    refine rc_seq ?_
    refine sR ?_
    refine mV rfl ?_
    refine gL (api_Program.g_Actions r0) rfl rfl rfl fun e5 c6 => ?_
    refine mV rfl ?_
    obtain ⟨d7, c1, d3⟩ := sl_idx (i := a0) c6 (by omega) (by omega)
    refine rd_op (ov_iaddr rfl rfl c1) ?_
    refine gL (api_Action.g_Body d3) rfl rfl rfl fun f3 b1 => ?_
    refine rd_op (ov_bi rfl (sl_len b1 Tryz.underlying95 _)) ?_
    refine bN i_lss rfl rfl ?_
    refine nS ?_
    refine rc_cond rfl ?_ ?_ <;> intro c <;> try simp only [qa, qaD] at c
    rotate_left
    · omega
    refine rc_skip ?_
    refine pn_seq ?_
    refine rc_seq ?_
    refine rc_block ?_
    refine sR ?_
    refine gL (api_Program.g_Actions r0) rfl rfl rfl fun e0 d2 => ?_
    refine mV rfl ?_
    obtain ⟨f0, c8, d1⟩ := sl_idx (i := a0) d2 (by omega) (by omega)
    refine rd_op (ov_iaddr rfl rfl c8) ?_
    refine gL (api_Action.g_Body d1) rfl rfl rfl fun e1 b5 => ?_
    refine mV rfl ?_
    obtain ⟨e3, c3, d4⟩ := sl_idx (i := a1) b5 (by omega) (by omega)
    refine rd_op (ov_iaddr rfl rfl c3) ?_
    refine gL (api_Statement.g_Index d4) rfl rfl rfl fun e6 c0 => ?_
    refine rd_op (ov_bi rfl (sl_len c0 Tryz.underlying32 _)) ?_
    refine bN i_gtr rfl rfl ?_
    refine mV rfl ?_
    refine rd_cutn 13 (d := 90) (v := vb ((decide (60 < (((ix ((ix x0.Actions a0).Body) a1).Index).length : Int))) || (decide (60 < (((ix ((ix x0.Actions a0).Body) a1).Value).length : Int))))) ?_ ?_
    · intro S Q r
      cases b4 : (decide (60 < (((ix ((ix x0.Actions a0).Body) a1).Index).length : Int)))
      · intro k
        have a5 := b4
        try simp only [qa, qaD] at a5
        obtain ⟨e2, d5, a4⟩ := api_Program.g_Actions r0
        refine rd_yes rfl rfl (ov_faddr rfl d5) ?_
        refine rd_yes rfl rfl (ov_load rfl (TR.cnt (tSl api_Action.t) a4) (TR.agg (tSl api_Action.t) a4)) ?_
        refine rd_yes rfl rfl (ov_move rfl) ?_
        obtain ⟨d9, c4, c5⟩ := sl_idx (i := a0) a4 (by omega) (by omega)
        refine rd_yes rfl rfl (ov_iaddr rfl rfl c4) ?_
        obtain ⟨e9, b7, a3⟩ := api_Action.g_Body c5
        refine rd_yes rfl rfl (ov_faddr rfl b7) ?_
        refine rd_yes rfl rfl (ov_load rfl (TR.cnt (tSl api_Statement.t) a3) (TR.agg (tSl api_Statement.t) a3)) ?_
        refine rd_yes rfl rfl (ov_move rfl) ?_
        obtain ⟨e7, b8, c9⟩ := sl_idx (i := a1) a3 (by omega) (by omega)
        refine rd_yes rfl rfl (ov_iaddr rfl rfl b8) ?_
        obtain ⟨d8, c2, a7⟩ := api_Statement.g_Value c9
        refine rd_yes rfl rfl (ov_faddr rfl c2) ?_
        refine rd_yes rfl rfl (ov_load rfl (TR.cnt (tSl api_ExprNode.t) a7) (TR.agg (tSl api_ExprNode.t) a7)) ?_
        refine rd_yes rfl rfl (ov_bi rfl (sl_len a7 Tryz.underlying32 _)) ?_
        refine rd_yes rfl rfl (ov_bin rfl rfl i_gtr) ?_
        exact gK rfl rfl rfl rfl rfl k
      · exact gN 12 rfl rfl rfl rfl rfl rfl
    refine nS ?_
    refine rc_br hres rfl ?_ ?_ <;> clear hres <;> intro c hres <;> try simp only [qa, qaD] at c
    · refine sR ?_
      refine mB rfl ?_
      refine nS ?_
      exact rR hres rfl rfl rfl
    · refine rc_skip ?_
      refine pn_blk ?_
      refine pn_seq ?_
      refine rc_region ?_
      refine mV rfl ?_
      refine bN i_add rfl rfl ?_
      refine mV rfl ?_
      refine rd_nil ?_
      refine pn_again ?_
      have hbd := sl_bound b1
      have hinc : wr (a1 + 1) = a1 + 1 := wr_of (by omega) (by omega)
      erw [hinc]
      exact wC (ih   (by omega) (by omega) hres) rfl

theorem law16_Small_L1_ok {S : List Fr} {res : Bool} {x0 : api_Program} {v0 : PV} (r0 : api_Program.t.R x0 v0) (a2 : ((((decide (20 < (x0.Headers.length : Int))) || (decide (30 < (x0.Metadata.length : Int)))) || (decide (20 < (x0.Registers.length : Int)))) || (decide (40 < (x0.Actions.length : Int)))) = false) {K0 : Unit → Bool}
    (c9 : K0 () = res → PX Tryz.prog 0 S (QR Tryz.prog [(2, none)] (RF33 res)) [(1, .fp v0)] ⟨0, []⟩) :
    ∀ {m : Nat} {a1 : Int} (c3 : m = Int.toNat ((x0.Actions.length : Int) - a1)) (a5 : 0 ≤ a1), law16_Small_L1 x0 K0 m a1 = res → RC Tryz.prog (.loop ac33_L1) S (QR Tryz.prog [(2, none)] (RF33 res)) [(3, vi a1), (1, .fp v0)] ⟨0, []⟩ := by
  have a4 := a2
  try simp only [qa, qaD] at a4
  intro m
  induction m with
  | zero =>
    intro a1 c3 a5 hres
    rw [law16_Small_L1] at hres
    refine rc_loop ?_
    refine rc_seq ?_
    refine sR ?_
    refine mV rfl ?_
    refine gL (api_Program.g_Actions r0) rfl rfl rfl fun c4 c1 => ?_
    refine rd_op (ov_bi rfl (sl_len c1 Tryz.underlying25 _)) ?_
    refine bN i_lss rfl rfl ?_
    refine nS ?_
    refine rc_cond rfl ?_ ?_ <;> intro c <;> try simp only [qa, qaD] at c
    · omega
    refine rc_exit ?_
    refine px_seq ?_
    refine px_again ?_
    exact wP (c9  hres) rfl
  | succ m ih =>
    intro a1 c3 a5 hres
    rw [law16_Small_L1] at hres
    refine rc_loop ?_
    refine rc_seq ?_
    refine sR ?_
    refine mV rfl ?_
    refine gL (api_Program.g_Actions r0) rfl rfl rfl fun d2 b2 => ?_
    refine rd_op (ov_bi rfl (sl_len b2 Tryz.underlying25 _)) ?_
    refine bN i_lss rfl rfl ?_
    refine nS ?_
    refine rc_cond rfl (fun a0 => ?_) (fun a0 => ?_)
    · have hgo := hres
      have a9 := a0
      try simp only [qa, qaD] at a9
      refine rc_skip ?_
      refine pn_seq ?_
      refine rc_seq ?_
      refine rc_block ?_
      refine rc_seq ?_
      refine sR ?_
      refine gL (api_Program.g_Actions r0) rfl rfl rfl fun d1 b7 => ?_
      refine mV rfl ?_
      obtain ⟨c8, b8, c2⟩ := sl_idx (i := a1) b7 (by omega) (by omega)
      refine rd_op (ov_iaddr rfl rfl b8) ?_
      obtain ⟨c7, b6, b1⟩ := api_Action.g_Params c2
      refine fA rfl b6 ?_
      refine lD b1 rfl rfl rfl ?_
      refine rd_op (ov_bi rfl (sl_len b1 Tryz.underlying23 _)) ?_
      refine bN i_gtr rfl rfl ?_
      refine mV rfl ?_
      refine rd_cutn 9 (d := 53) (v := vb ((decide (20 < (((ix x0.Actions a1).Params).length : Int))) || (decide (30 < (((ix x0.Actions a1).Body).length : Int))))) ?_ ?_
      · intro S Q r
        cases b3 : (decide (20 < (((ix x0.Actions a1).Params).length : Int)))
        · intro k
          have a7 := b3
          try simp only [qa, qaD] at a7
          obtain ⟨c6, b5, b0⟩ := api_Program.g_Actions r0
          refine rd_yes rfl rfl (ov_faddr rfl b5) ?_
          refine rd_yes rfl rfl (ov_load rfl (TR.cnt (tSl api_Action.t) b0) (TR.agg (tSl api_Action.t) b0)) ?_
          refine rd_yes rfl rfl (ov_move rfl) ?_
          obtain ⟨d0, b9, b4⟩ := sl_idx (i := a1) b0 (by omega) (by omega)
          refine rd_yes rfl rfl (ov_iaddr rfl rfl b9) ?_
          obtain ⟨c5, c0, a8⟩ := api_Action.g_Body b4
          refine rd_yes rfl rfl (ov_faddr rfl c0) ?_
          refine rd_yes rfl rfl (ov_load rfl (TR.cnt (tSl api_Statement.t) a8) (TR.agg (tSl api_Statement.t) a8)) ?_
          refine rd_yes rfl rfl (ov_bi rfl (sl_len a8 Tryz.underlying95 _)) ?_
          refine rd_yes rfl rfl (ov_bin rfl rfl i_gtr) ?_
          exact gK rfl rfl rfl rfl rfl k
        · exact gN 8 rfl rfl rfl rfl rfl rfl
      refine nS ?_
      refine rc_br hres rfl ?_ ?_ <;> clear hres <;> intro a3 hres <;> have a6 := a3 <;> try simp only [qa, qaD] at a6
      · refine sR ?_
        refine mB rfl ?_
        refine nS ?_
        exact rR hres rfl rfl rfl
      · refine rc_skip ?_
        refine pn_seq ?_
        refine sR ?_
        refine mI rfl ?_
        refine nS ?_
        refine rc_block ?_
        refine wC (law16_Small_L2_ok r0 a2 a5 a0 a3 ?_  rfl (by omega) hres) rfl
        · intro  hres
          refine px_blk ?_
          refine pn_blk ?_
          refine pn_seq ?_
          refine rc_region ?_
          refine mV rfl ?_
          refine bN i_add rfl rfl ?_
          refine mV rfl ?_
          refine rd_nil ?_
          refine pn_again ?_
          have hbd := sl_bound b2
          have hinc : wr (a1 + 1) = a1 + 1 := wr_of (by omega) (by omega)
          erw [hinc]
          exact wC (ih   (by omega) (by omega) hres) rfl
    · exfalso
      try simp only [qa, qaD] at a0
      omega

theorem law16_Small_L3_ok {S : List Fr} {res : Bool} {x0 : api_Program} {v0 : PV} (r0 : api_Program.t.R x0 v0) (a2 : ((((decide (20 < (x0.Headers.length : Int))) || (decide (30 < (x0.Metadata.length : Int)))) || (decide (20 < (x0.Registers.length : Int)))) || (decide (40 < (x0.Actions.length : Int)))) = false) {K4 : Unit → Bool}
    (b4 : K4 () = res → PX Tryz.prog 4 S (QR Tryz.prog [(2, none)] (RF33 res)) [(1, .fp v0)] ⟨0, []⟩) :
    ∀ {m : Nat} {a0 : Int} (b0 : m = Int.toNat ((x0.Headers.length : Int) - a0)) (a3 : 0 ≤ a0), law16_Small_L3 x0 K4 m a0 = res → RC Tryz.prog (.loop ac33_L3) S (QR Tryz.prog [(2, none)] (RF33 res)) [(5, vi a0), (1, .fp v0)] ⟨0, []⟩ := by
  have a1 := a2
  try simp only [qa, qaD] at a1
  intro m
  induction m with
  | zero =>
    intro a0 b0 a3 hres
    rw [law16_Small_L3] at hres
    refine rc_loop ?_
    refine rc_seq ?_
    refine sR ?_
    refine mV rfl ?_
    refine gL (api_Program.g_Headers r0) rfl rfl rfl fun b1 a9 => ?_
    refine rd_op (ov_bi rfl (sl_len a9 Tryz.underlying22 _)) ?_
    refine bN i_lss rfl rfl ?_
    refine nS ?_
    refine rc_cond rfl ?_ ?_ <;> intro c <;> try simp only [qa, qaD] at c
    · omega
    refine rc_exit ?_
    refine px_seq ?_
    refine px_again ?_
    exact wP (b4  hres) rfl
  | succ m ih =>
    intro a0 b0 a3 hres
    rw [law16_Small_L3] at hres
    refine rc_loop ?_
    refine rc_seq ?_
    refine sR ?_
    refine mV rfl ?_
    refine gL (api_Program.g_Headers r0) rfl rfl rfl fun b5 a4 => ?_
    refine rd_op (ov_bi rfl (sl_len a4 Tryz.underlying22 _)) ?_
    refine bN i_lss rfl rfl ?_
    refine nS ?_
    refine rc_cond rfl ?_ ?_ <;> intro c <;> try simp only [qa, qaD] at c
    rotate_left
    · omega
    refine rc_skip ?_
    refine pn_seq ?_
    refine rc_seq ?_
    refine rc_block ?_
    refine sR ?_
    refine gL (api_Program.g_Headers r0) rfl rfl rfl fun b3 a5 => ?_
    refine mV rfl ?_
    obtain ⟨b6, a8, a7⟩ := sl_idx (i := a0) a5 (by omega) (by omega)
    refine rd_op (ov_iaddr rfl rfl a8) ?_
    refine gL (api_Header.g_Fields a7) rfl rfl rfl fun b2 a6 => ?_
    refine rd_op (ov_bi rfl (sl_len a6 Tryz.underlying23 _)) ?_
    refine bN i_gtr rfl rfl ?_
    refine nS ?_
    refine rc_br hres rfl ?_ ?_ <;> clear hres <;> intro c hres <;> try simp only [qa, qaD] at c
    · refine sR ?_
      refine mB rfl ?_
      refine nS ?_
      exact rR hres rfl rfl rfl
    · refine rc_skip ?_
      refine pn_blk ?_
      refine pn_seq ?_
      refine rc_region ?_
      refine mV rfl ?_
      refine bN i_add rfl rfl ?_
      refine mV rfl ?_
      refine rd_nil ?_
      refine pn_again ?_
      have hbd := sl_bound a4
      have hinc : wr (a0 + 1) = a0 + 1 := wr_of (by omega) (by omega)
      erw [hinc]
      exact wC (ih   (by omega) (by omega) hres) rfl

theorem law16_Small_L4_ok {S : List Fr} {res : Bool} {x0 : api_Program} {v0 : PV} (r0 : api_Program.t.R x0 v0) (a2 : ((((decide (20 < (x0.Headers.length : Int))) || (decide (30 < (x0.Metadata.length : Int)))) || (decide (20 < (x0.Registers.length : Int)))) || (decide (40 < (x0.Actions.length : Int)))) = false) {K6 : Unit → Bool}
    (b4 : K6 () = res → PX Tryz.prog 6 S (QR Tryz.prog [(2, none)] (RF33 res)) [] ⟨0, []⟩) :
    ∀ {m : Nat} {a0 : Int} (a9 : m = Int.toNat ((x0.Registers.length : Int) - a0)) (a3 : 0 ≤ a0), law16_Small_L4 x0 K6 m a0 = res → RC Tryz.prog (.loop ac33_L4) S (QR Tryz.prog [(2, none)] (RF33 res)) [(6, vi a0), (1, .fp v0)] ⟨0, []⟩ := by
  have a1 := a2
  try simp only [qa, qaD] at a1
  intro m
  induction m with
  | zero =>
    intro a0 a9 a3 hres
    rw [law16_Small_L4] at hres
    refine rc_loop ?_
    refine rc_seq ?_
    refine sR ?_
    refine mV rfl ?_
    refine gL (api_Program.g_Registers r0) rfl rfl rfl fun b1 a6 => ?_
    refine rd_op (ov_bi rfl (sl_len a6 Tryz.underlying24 _)) ?_
    refine bN i_lss rfl rfl ?_
    refine nS ?_
    refine rc_cond rfl ?_ ?_ <;> intro c <;> try simp only [qa, qaD] at c
    · omega
    refine rc_exit ?_
    refine px_seq ?_
    refine px_again ?_
    exact wP (b4  hres) rfl
  | succ m ih =>
    intro a0 a9 a3 hres
    rw [law16_Small_L4] at hres
    refine rc_loop ?_
    refine rc_seq ?_
    refine sR ?_
    refine mV rfl ?_
    refine gL (api_Program.g_Registers r0) rfl rfl rfl fun b3 a4 => ?_
    refine rd_op (ov_bi rfl (sl_len a4 Tryz.underlying24 _)) ?_
    refine bN i_lss rfl rfl ?_
    refine nS ?_
    refine rc_cond rfl ?_ ?_ <;> intro c <;> try simp only [qa, qaD] at c
    rotate_left
    · omega
    refine rc_skip ?_
    refine pn_seq ?_
    refine rc_seq ?_
    refine rc_block ?_
    refine sR ?_
    refine gL (api_Program.g_Registers r0) rfl rfl rfl fun b0 a7 => ?_
    refine mV rfl ?_
    obtain ⟨b2, a8, a5⟩ := sl_idx (i := a0) a7 (by omega) (by omega)
    refine rd_op (ov_iaddr rfl rfl a8) ?_
    refine fL rfl (api_Register.g_Size a5) rfl rfl ?_
    refine bN i_gtr rfl rfl ?_
    refine nS ?_
    refine rc_br hres rfl ?_ ?_ <;> clear hres <;> intro c hres <;> try simp only [qa, qaD] at c
    · refine sR ?_
      refine mB rfl ?_
      refine nS ?_
      exact rR hres rfl rfl rfl
    · refine rc_skip ?_
      refine pn_blk ?_
      refine pn_seq ?_
      refine rc_region ?_
      refine mV rfl ?_
      refine bN i_add rfl rfl ?_
      refine mV rfl ?_
      refine rd_nil ?_
      refine pn_again ?_
      have hbd := sl_bound a4
      have hinc : wr (a0 + 1) = a0 + 1 := wr_of (by omega) (by omega)
      erw [hinc]
      exact wC (ih   (by omega) (by omega) hres) rfl

theorem f33_ok {x0 : api_Program} {v0 : PV} (r0 : api_Program.t.R x0 v0) : FnR Tryz.prog 33 [v0] (vb (law16_Small x0)) := by
  refine fnS (R := RF33) text33 (fun _ h => h) rfl fun res hres => ?_
  unfold law16_Small at hres
  refine sR ?_
  refine rd_op (ov_box rfl (TR.cnt api_Program.t r0)) ?_
  refine mB rfl ?_
  refine nS ?_
  refine rc_seq ?_
  refine sR ?_
  obtain ⟨b6, b4, b1⟩ := api_Program.g_Headers r0
  refine fA rfl b4 ?_
  refine lD b1 rfl rfl rfl ?_
  refine rd_op (ov_bi rfl (sl_len b1 Tryz.underlying22 _)) ?_
  refine bN i_gtr rfl rfl ?_
  refine mV rfl ?_
  refine rd_cutn 5 (d := 16) (v := vb ((decide (20 < (x0.Headers.length : Int))) || (decide (30 < (x0.Metadata.length : Int))))) ?_ ?_
  · intro S Q r
    cases a9 : (decide (20 < (x0.Headers.length : Int)))
    · intro k
      have a7 := a9
      try simp only [qa, qaD] at a7
      obtain ⟨b7, b3, a1⟩ := api_Program.g_Metadata r0
      refine rd_yes rfl rfl (ov_faddr rfl b3) ?_
      refine rd_yes rfl rfl (ov_load rfl (TR.cnt (tSl api_Field.t) a1) (TR.agg (tSl api_Field.t) a1)) ?_
      refine rd_yes rfl rfl (ov_bi rfl (sl_len a1 Tryz.underlying23 _)) ?_
      refine rd_yes rfl rfl (ov_bin rfl rfl i_gtr) ?_
      exact gK rfl rfl rfl rfl rfl k
    · exact gN 4 rfl rfl rfl rfl rfl rfl
  refine mV rfl ?_
  refine rd_cutn 5 (d := 22) (v := vb (((decide (20 < (x0.Headers.length : Int))) || (decide (30 < (x0.Metadata.length : Int)))) || (decide (20 < (x0.Registers.length : Int))))) ?_ ?_
  · intro S Q r
    cases b0 : ((decide (20 < (x0.Headers.length : Int))) || (decide (30 < (x0.Metadata.length : Int))))
    · intro k
      have a5 := b0
      try simp only [qa, qaD] at a5
      obtain ⟨b8, b5, a4⟩ := api_Program.g_Registers r0
      refine rd_yes rfl rfl (ov_faddr rfl b5) ?_
      refine rd_yes rfl rfl (ov_load rfl (TR.cnt (tSl api_Register.t) a4) (TR.agg (tSl api_Register.t) a4)) ?_
      refine rd_yes rfl rfl (ov_bi rfl (sl_len a4 Tryz.underlying24 _)) ?_
      refine rd_yes rfl rfl (ov_bin rfl rfl i_gtr) ?_
      exact gK rfl rfl rfl rfl rfl k
    · exact gN 4 rfl rfl rfl rfl rfl rfl
  refine mV rfl ?_
  refine rd_cutn 5 (d := 28) (v := vb ((((decide (20 < (x0.Headers.length : Int))) || (decide (30 < (x0.Metadata.length : Int)))) || (decide (20 < (x0.Registers.length : Int)))) || (decide (40 < (x0.Actions.length : Int))))) ?_ ?_
  · intro S Q r
    cases a8 : (((decide (20 < (x0.Headers.length : Int))) || (decide (30 < (x0.Metadata.length : Int)))) || (decide (20 < (x0.Registers.length : Int))))
    · intro k
      have a2 := a8
      try simp only [qa, qaD] at a2
      obtain ⟨b9, b2, a3⟩ := api_Program.g_Actions r0
      refine rd_yes rfl rfl (ov_faddr rfl b2) ?_
      refine rd_yes rfl rfl (ov_load rfl (TR.cnt (tSl api_Action.t) a3) (TR.agg (tSl api_Action.t) a3)) ?_
      refine rd_yes rfl rfl (ov_bi rfl (sl_len a3 Tryz.underlying25 _)) ?_
      refine rd_yes rfl rfl (ov_bin rfl rfl i_gtr) ?_
      exact gK rfl rfl rfl rfl rfl k
    · exact gN 4 rfl rfl rfl rfl rfl rfl
  refine nS ?_
  refine rc_br hres rfl ?_ ?_ <;> clear hres <;> intro a0 hres <;> have a6 := a0 <;> try simp only [qa, qaD] at a6
  · refine sR ?_
    refine mB rfl ?_
    refine nS ?_
    exact rR hres rfl rfl rfl
  · refine rc_skip ?_
    refine pn_seq ?_
    refine rc_seq ?_
    refine sR ?_
    refine mI rfl ?_
    refine nS ?_
    refine rc_block ?_
    refine wC (law16_Small_L1_ok r0 a0 ?_  rfl (by omega) hres) rfl
    · intro  hres
      refine px_blk ?_
      refine pn_seq ?_
      refine rc_seq ?_
      refine sR ?_
      refine mI rfl ?_
      refine nS ?_
      refine rc_block ?_
      refine wC (law16_Small_L3_ok r0 a0 ?_  rfl (by omega) hres) rfl
      · intro  hres
        refine px_blk ?_
        refine pn_seq ?_
        refine rc_seq ?_
        refine sR ?_
        refine mI rfl ?_
        refine nS ?_
        refine rc_block ?_
        refine wC (law16_Small_L4_ok r0 a0 ?_  rfl (by omega) hres) rfl
        · intro  hres
          refine px_blk ?_
          refine pn_seq ?_
          refine sR ?_
          refine mB rfl ?_
          refine nS ?_
          exact rR hres rfl rfl rfl

def RF82 (res : Bool) (r : PV) : Prop := r = vb res
theorem ref12_sized_L1_ok {S : List Fr} {res : Bool} {x0 : api_Program} {x1 : api_Env} {v0 v1 : PV} (r0 : api_Program.t.R x0 v0) (r1 : api_Env.t.R x1 v1) (a3 : (((!decide ((x1.Valid.length : Int) = (x0.Headers.length : Int))) || (!decide ((x1.Fields.length : Int) = (x0.Headers.length : Int)))) || (!decide ((x1.Metd.length : Int) = (x0.Metadata.length : Int)))) = false) {K0 : Unit → Bool}
    (c3 : K0 () = res → PX Tryz.prog 0 S (QR Tryz.prog [(4, none)] (RF82 res)) [] ⟨0, []⟩) :
    ∀ {m : Nat} {a0 : Int} (b7 : m = Int.toNat ((x0.Headers.length : Int) - a0)) (a6 : 0 ≤ a0), ref12_sized_L1 x0 x1 K0 m a0 = res → RC Tryz.prog (.loop ac82_L1) S (QR Tryz.prog [(4, none)] (RF82 res)) [(5, vi a0), (3, .fp v1), (2, .fp v0)] ⟨0, []⟩ := by
  have a2 := a3
  try simp only [qa, qaD] at a2
  intro m
  induction m with
  | zero =>
    intro a0 b7 a6 hres
    rw [ref12_sized_L1] at hres
    refine rc_loop ?_
    refine rc_seq ?_
    refine sR ?_
    refine mV rfl ?_
    refine gL (api_Program.g_Headers r0) rfl rfl rfl fun c4 b1 => ?_
    refine rd_op (ov_bi rfl (sl_len b1 Tryz.underlying22 _)) ?_
    refine bN i_lss rfl rfl ?_
    refine nS ?_
    refine rc_cond rfl ?_ ?_ <;> intro c <;> try simp only [qa, qaD] at c
    · omega
    refine rc_exit ?_
    refine px_seq ?_
    refine px_again ?_
    exact wP (c3  hres) rfl
  | succ m ih =>
    intro a0 b7 a6 hres
    rw [ref12_sized_L1] at hres
    refine rc_loop ?_
    refine rc_seq ?_
    refine sR ?_
    refine mV rfl ?_
    obtain ⟨b9, b4, a1⟩ := api_Program.g_Headers r0
    refine fA rfl b4 ?_
    refine lD a1 rfl rfl rfl ?_
    refine rd_op (ov_bi rfl (sl_len a1 Tryz.underlying22 _)) ?_
    refine bN i_lss rfl rfl ?_
    refine nS ?_
    refine rc_cond rfl ?_ ?_ <;> intro c <;> try simp only [qa, qaD] at c
    rotate_left
    · omega
    refine rc_skip ?_
    refine pn_seq ?_
    refine rc_seq ?_
    refine rc_block ?_
    refine sR ?_
    obtain ⟨c2, b2, a7⟩ := api_Env.g_Fields r1
    refine fA rfl b2 ?_
    refine lD a7 rfl rfl rfl ?_
    refine mV rfl ?_
    obtain ⟨c1, b0, a5⟩ := sl_idx (i := a0) a7 (by omega) (by omega)
    refine rd_op (ov_iaddr rfl rfl b0) ?_
    refine lD a5 rfl rfl rfl ?_
    refine rd_op (ov_bi rfl (sl_len a5 Tryz.underlying43 _)) ?_
    obtain ⟨b8, b5, a8⟩ := api_Program.g_Headers r0
    refine fA rfl b5 ?_
    refine lD a8 rfl rfl rfl ?_
    refine mV rfl ?_
    obtain ⟨c0, a9, b6⟩ := sl_idx (i := a0) a8 (by omega) (by omega)
    refine rd_op (ov_iaddr rfl rfl a9) ?_
    obtain ⟨c5, b3, a4⟩ := api_Header.g_Fields b6
    refine fA rfl b3 ?_
    refine lD a4 rfl rfl rfl ?_
    refine rd_op (ov_bi rfl (sl_len a4 Tryz.underlying23 _)) ?_
    refine bN i_neq rfl rfl ?_
    refine nS ?_
    refine rc_br hres rfl ?_ ?_ <;> clear hres <;> intro c hres <;> try simp only [qa, qaD] at c
    · refine sR ?_
      refine mB rfl ?_
      refine nS ?_
      exact rR hres rfl rfl rfl
    · refine rc_skip ?_
      refine pn_blk ?_
      refine pn_seq ?_
      refine rc_region ?_
      refine mV rfl ?_
      refine bN i_add rfl rfl ?_
      refine mV rfl ?_
      refine rd_nil ?_
      refine pn_again ?_
      have hbd := sl_bound a1
      have hinc : wr (a0 + 1) = a0 + 1 := wr_of (by omega) (by omega)
      erw [hinc]
      exact wC (ih   (by omega) (by omega) hres) rfl

theorem f82_ok {x0 : api_Program} {x1 : api_Env} {v0 v1 : PV} (r0 : api_Program.t.R x0 v0) (r1 : api_Env.t.R x1 v1) : FnR Tryz.prog 82 [v0, v1] (vb (ref12_sized x0 x1)) := by
  refine fnS (R := RF82) text82 (fun _ h => h) rfl fun res hres => ?_
  unfold ref12_sized at hres
  refine sR ?_
  refine rd_op (ov_box rfl (TR.cnt api_Program.t r0)) ?_
  refine rd_op (ov_box rfl (TR.cnt api_Env.t r1)) ?_
  refine mB rfl ?_
  refine nS ?_
  refine rc_seq ?_
  refine sR ?_
  obtain ⟨b7, b4, a9⟩ := api_Env.g_Valid r1
  refine fA rfl b4 ?_
  refine lD a9 rfl rfl rfl ?_
  refine rd_op (ov_bi rfl (sl_len a9 Tryz.underlying41 _)) ?_
  refine gL (api_Program.g_Headers r0) rfl rfl rfl fun b8 b6 => ?_
  refine rd_op (ov_bi rfl (sl_len b6 Tryz.underlying22 _)) ?_
  refine bN i_neq rfl rfl ?_
  refine mV rfl ?_
  refine rd_cutn 8 (d := 21) (v := vb ((!decide ((x1.Valid.length : Int) = (x0.Headers.length : Int))) || (!decide ((x1.Fields.length : Int) = (x0.Headers.length : Int))))) ?_ ?_
  · intro S Q r
    cases b0 : (!decide ((x1.Valid.length : Int) = (x0.Headers.length : Int)))
    · intro k
      have a2 := b0
      try simp only [qa, qaD] at a2
      obtain ⟨b9, b2, a6⟩ := api_Env.g_Fields r1
      refine rd_yes rfl rfl (ov_faddr rfl b2) ?_
      refine rd_yes rfl rfl (ov_load rfl (TR.cnt (tSl (tSl tU32)) a6) (TR.agg (tSl (tSl tU32)) a6)) ?_
      refine rd_yes rfl rfl (ov_bi rfl (sl_len a6 Tryz.underlying42 _)) ?_
      obtain ⟨c1, b5, a5⟩ := api_Program.g_Headers r0
      refine rd_yes rfl rfl (ov_faddr rfl b5) ?_
      refine rd_yes rfl rfl (ov_load rfl (TR.cnt (tSl api_Header.t) a5) (TR.agg (tSl api_Header.t) a5)) ?_
      refine rd_yes rfl rfl (ov_bi rfl (sl_len a5 Tryz.underlying22 _)) ?_
      refine rd_yes rfl rfl (ov_bin rfl rfl i_neq) ?_
      exact gK rfl rfl rfl rfl rfl k
    · exact gN 7 rfl rfl rfl rfl rfl rfl
  refine mV rfl ?_
  refine rd_cutn 8 (d := 30) (v := vb (((!decide ((x1.Valid.length : Int) = (x0.Headers.length : Int))) || (!decide ((x1.Fields.length : Int) = (x0.Headers.length : Int)))) || (!decide ((x1.Metd.length : Int) = (x0.Metadata.length : Int))))) ?_ ?_
  · intro S Q r
    cases a8 : ((!decide ((x1.Valid.length : Int) = (x0.Headers.length : Int))) || (!decide ((x1.Fields.length : Int) = (x0.Headers.length : Int))))
    · intro k
      have a3 := a8
      try simp only [qa, qaD] at a3
      obtain ⟨c2, b1, a4⟩ := api_Env.g_Meta r1
      refine rd_yes rfl rfl (ov_faddr rfl b1) ?_
      refine rd_yes rfl rfl (ov_load rfl (TR.cnt (tSl tU32) a4) (TR.agg (tSl tU32) a4)) ?_
      refine rd_yes rfl rfl (ov_bi rfl (sl_len a4 Tryz.underlying43 _)) ?_
      obtain ⟨c0, b3, a1⟩ := api_Program.g_Metadata r0
      refine rd_yes rfl rfl (ov_faddr rfl b3) ?_
      refine rd_yes rfl rfl (ov_load rfl (TR.cnt (tSl api_Field.t) a1) (TR.agg (tSl api_Field.t) a1)) ?_
      refine rd_yes rfl rfl (ov_bi rfl (sl_len a1 Tryz.underlying23 _)) ?_
      refine rd_yes rfl rfl (ov_bin rfl rfl i_neq) ?_
      exact gK rfl rfl rfl rfl rfl k
    · exact gN 7 rfl rfl rfl rfl rfl rfl
  refine nS ?_
  refine rc_br hres rfl ?_ ?_ <;> clear hres <;> intro a0 hres <;> have a7 := a0 <;> try simp only [qa, qaD] at a7
  · refine sR ?_
    refine mB rfl ?_
    refine nS ?_
    exact rR hres rfl rfl rfl
  · refine rc_skip ?_
    refine pn_seq ?_
    refine rc_seq ?_
    refine sR ?_
    refine mI rfl ?_
    refine nS ?_
    refine rc_block ?_
    refine wC (ref12_sized_L1_ok r0 r1 a0 ?_  rfl (by omega) hres) rfl
    · intro  hres
      refine px_blk ?_
      refine pn_seq ?_
      refine sR ?_
      refine mB rfl ?_
      refine nS ?_
      exact rR hres rfl rfl rfl

def RF84 (res : Int) (r : PV) : Prop := r = vi res
theorem f84_ok {x0 : api_Program} {x1 : api_FieldRef} {v0 v1 : PV} (r0 : api_Program.t.R x0 v0) (r1 : api_FieldRef.t.R x1 v1) : FnR Tryz.prog 84 [v0, v1] (vi (ref12_Width x0 x1)) := by
  refine fnS (R := RF84) text84 (fun _ h => h) rfl fun res hres => ?_
  unfold ref12_Width at hres
  refine sR ?_
  refine rd_op (ov_box rfl (TR.cnt api_Program.t r0)) ?_
  refine rd_op (ov_box rfl (TR.cnt api_FieldRef.t r1)) ?_
  refine mI rfl ?_
  refine nR ?_
  refine gL (api_Program.g_Metadata r0) rfl rfl rfl fun c7 b9 => ?_
  refine mV rfl ?_
  refine nS ?_
  refine rc_seq ?_
  refine sR ?_
  refine fL rfl (api_FieldRef.g_Header r1) rfl rfl ?_
  refine bN i_geq rfl rfl ?_
  refine nS ?_
  obtain ⟨b5, b2, hres⟩ := let_ex hres
  refine rc_join (F := fun b S Q => ∀ (a0 : List api_Field) (a2 : PV) (a1 : (tSl api_Field.t).R a0 a2), b5 a0 = res → RC Tryz.prog b S Q [(5, a2), (3, .fp v1)] ⟨0, []⟩) ?_ ?_
  · intro a0 a2 a1  hres
    rw [← b2] at hres
    refine rc_seq ?_
    refine sR ?_
    refine fL rfl (api_FieldRef.g_Header r1) rfl rfl ?_
    refine bN (i_lss (b := -1)) rfl rfl ?_
    refine mV rfl ?_
    refine rd_cutn 4 (d := 31) (v := vb ((decide (x1.Header < (-1))) || (decide (x1.Field < 0)))) ?_ ?_
    · intro S Q r
      cases b3 : (decide (x1.Header < (-1)))
      · intro k
        have a4 := b3
        try simp only [qa, qaD] at a4
        refine rd_yes rfl rfl (ov_faddr rfl (api_FieldRef.g_Field r1)) ?_
        refine rd_yes rfl rfl (ov_load rfl rfl rfl) ?_
        refine rd_yes rfl rfl (ov_bin rfl rfl i_lss) ?_
        exact gK rfl rfl rfl rfl rfl k
      · exact gN 3 rfl rfl rfl rfl rfl rfl
    refine mV rfl ?_
    refine rd_cutn 6 (d := 38) (v := vb (((decide (x1.Header < (-1))) || (decide (x1.Field < 0))) || (decide ((a0.length : Int) ≤ x1.Field)))) ?_ ?_
    · intro S Q r
      cases b0 : ((decide (x1.Header < (-1))) || (decide (x1.Field < 0)))
      · intro k
        have a5 := b0
        try simp only [qa, qaD] at a5
        refine rd_yes rfl rfl (ov_faddr rfl (api_FieldRef.g_Field r1)) ?_
        refine rd_yes rfl rfl (ov_load rfl rfl rfl) ?_
        refine rd_yes rfl rfl (ov_move rfl) ?_
        refine rd_yes rfl rfl (ov_bi rfl (sl_len a1 Tryz.underlying23 _)) ?_
        refine rd_yes rfl rfl (ov_bin rfl rfl i_geq) ?_
        exact gK rfl rfl rfl rfl rfl k
      · exact gN 5 rfl rfl rfl rfl rfl rfl
    refine mV rfl ?_
    refine rd_cutn 8 (d := 47) (v := vb ((((decide (x1.Header < (-1))) || (decide (x1.Field < 0))) || (decide ((a0.length : Int) ≤ x1.Field))) || (decide (((ix a0 x1.Field).Width) < 1)))) ?_ ?_
    · intro S Q r
      cases b1 : (((decide (x1.Header < (-1))) || (decide (x1.Field < 0))) || (decide ((a0.length : Int) ≤ x1.Field)))
      · intro k
        have a3 := b1
        try simp only [qa, qaD] at a3
        refine rd_yes rfl rfl (ov_move rfl) ?_
        refine rd_yes rfl rfl (ov_faddr rfl (api_FieldRef.g_Field r1)) ?_
        refine rd_yes rfl rfl (ov_load rfl rfl rfl) ?_
        obtain ⟨c9, c0, c1⟩ := sl_idx (i := x1.Field) a1 (by omega) (by omega)
        refine rd_yes rfl rfl (ov_iaddr rfl rfl c0) ?_
        refine rd_yes rfl rfl (ov_faddr rfl (api_Field.g_Width c1)) ?_
        refine rd_yes rfl rfl (ov_load rfl rfl rfl) ?_
        refine rd_yes rfl rfl (ov_bin rfl rfl i_lss) ?_
        exact gK rfl rfl rfl rfl rfl k
      · exact gN 7 rfl rfl rfl rfl rfl rfl
    refine mV rfl ?_
    refine rd_cutn 8 (d := 56) (v := vb (((((decide (x1.Header < (-1))) || (decide (x1.Field < 0))) || (decide ((a0.length : Int) ≤ x1.Field))) || (decide (((ix a0 x1.Field).Width) < 1))) || (decide (32 < ((ix a0 x1.Field).Width))))) ?_ ?_
    · intro S Q r
      cases a9 : ((((decide (x1.Header < (-1))) || (decide (x1.Field < 0))) || (decide ((a0.length : Int) ≤ x1.Field))) || (decide (((ix a0 x1.Field).Width) < 1)))
      · intro k
        have a6 := a9
        try simp only [qa, qaD] at a6
        refine rd_yes rfl rfl (ov_move rfl) ?_
        refine rd_yes rfl rfl (ov_faddr rfl (api_FieldRef.g_Field r1)) ?_
        refine rd_yes rfl rfl (ov_load rfl rfl rfl) ?_
        obtain ⟨d1, b7, c2⟩ := sl_idx (i := x1.Field) a1 (by omega) (by omega)
        refine rd_yes rfl rfl (ov_iaddr rfl rfl b7) ?_
        refine rd_yes rfl rfl (ov_faddr rfl (api_Field.g_Width c2)) ?_
        refine rd_yes rfl rfl (ov_load rfl rfl rfl) ?_
        refine rd_yes rfl rfl (ov_bin rfl rfl i_gtr) ?_
        exact gK rfl rfl rfl rfl rfl k
      · exact gN 7 rfl rfl rfl rfl rfl rfl
    refine nS ?_
    refine rc_br hres rfl ?_ ?_ <;> clear hres <;> intro c hres <;> try simp only [qa, qaD] at c
    · refine sR ?_
      refine mI rfl ?_
      refine nS ?_
      exact rR hres rfl rfl rfl
    · refine rc_skip ?_
      refine pn_seq ?_
      refine sR ?_
      refine mV rfl ?_
      refine fL rfl (api_FieldRef.g_Field r1) rfl rfl ?_
      obtain ⟨c8, c5, c3⟩ := sl_idx (i := x1.Field) a1 (by omega) (by omega)
      refine rd_op (ov_iaddr rfl rfl c5) ?_
      refine fL rfl (api_Field.g_Width c3) rfl rfl ?_
      refine mV rfl ?_
      refine nS ?_
      exact rR hres rfl rfl rfl
  · intro J
    refine rc_br hres rfl ?_ ?_ <;> clear hres <;> intro c hres <;> try simp only [qa, qaD] at c
    · refine rc_seq ?_
      refine sR ?_
      refine fL rfl (api_FieldRef.g_Header r1) rfl rfl ?_
      refine gL (api_Program.g_Headers r0) rfl rfl rfl fun d4 c6 => ?_
      refine rd_op (ov_bi rfl (sl_len c6 Tryz.underlying22 _)) ?_
      refine bN i_geq rfl rfl ?_
      refine nS ?_
      refine rc_br hres rfl ?_ ?_ <;> clear hres <;> intro c hres <;> try simp only [qa, qaD] at c
      · refine sR ?_
        refine mI rfl ?_
        refine nS ?_
        exact rR hres rfl rfl rfl
      · refine rc_skip ?_
        refine pn_seq ?_
        refine rc_region ?_
        obtain ⟨d0, b6, a8⟩ := api_Program.g_Headers r0
        refine fA rfl b6 ?_
        refine lD a8 rfl rfl rfl ?_
        refine fL rfl (api_FieldRef.g_Header r1) rfl rfl ?_
        obtain ⟨d2, c4, b4⟩ := sl_idx (i := x1.Header) a8 (by omega) (by omega)
        refine rd_op (ov_iaddr rfl rfl c4) ?_
        obtain ⟨d3, b8, a7⟩ := api_Header.g_Fields b4
        refine fA rfl b8 ?_
        refine lD a7 rfl rfl rfl ?_
        refine mV rfl ?_
        refine rd_nil ?_
        refine pn_seq (wC (J _ _ a7  hres) rfl)
    · refine rc_skip ?_
      refine pn_seq (wC (J _ _ b9  hres) rfl)

def RF83 (res : Bool) (r : PV) : Prop := r = vb res
theorem ref12_Fits_L1_ok {S : List Fr} {res : Bool} {x0 : BitVec 32} {x1 : Int} (hq : x1 ≤ 32) {K0 : (BitVec 64) → Bool}
    (a4 : ∀ {a1 : BitVec 64}, K0 a1 = res → PX Tryz.prog 0 S (QR Tryz.prog [(4, none)] (RF83 res)) [(0, vu32 x0), (5, vu64 a1)] ⟨0, []⟩) :
    ∀ {m : Nat} {a1 : BitVec 64} {a0 : Int} (a3 : m = Int.toNat (x1 - a0)) (a2 : 0 ≤ a0), ref12_Fits_L1 K0 m a1 a0 = res → RC Tryz.prog (.loop ac83_L1) S (QR Tryz.prog [(4, none)] (RF83 res)) [(6, vi a0), (5, vu64 a1), (1, vi x1), (0, vu32 x0)] ⟨0, []⟩ := by
  intro m
  induction m with
  | zero =>
    intro a1 a0 a3 a2 hres
    rw [ref12_Fits_L1] at hres
    refine rc_loop ?_
    refine rc_seq ?_
    refine sR ?_
    refine mV rfl ?_
    refine mV rfl ?_
    refine bN i_lss rfl rfl ?_
    refine nS ?_
    refine rc_cond rfl ?_ ?_ <;> intro c <;> try simp only [qa, qaD] at c
    · omega
    refine rc_exit ?_
    refine px_seq ?_
    refine px_again ?_
    exact wP (a4  hres) rfl
  | succ m ih =>
    intro a1 a0 a3 a2 hres
    rw [ref12_Fits_L1] at hres
    refine rc_loop ?_
    refine rc_seq ?_
    refine sR ?_
    refine mV rfl ?_
    refine mV rfl ?_
    refine bN i_lss rfl rfl ?_
    refine nS ?_
    refine rc_cond rfl ?_ ?_ <;> intro c <;> try simp only [qa, qaD] at c
    rotate_left
    · omega
    refine rc_skip ?_
    refine pn_seq ?_
    refine rc_seq ?_
    refine rc_block ?_
    refine rc_region ?_
    refine mV rfl ?_
    refine rd_op (ov_bin (a := vu64 2#64) (b := vu64 a1) rfl rfl d_mul) ?_
    refine mV rfl ?_
    refine rd_nil ?_
    refine pn_blk ?_
    refine pn_seq ?_
    refine rc_region ?_
    refine mV rfl ?_
    refine bN i_add rfl rfl ?_
    refine mV rfl ?_
    refine rd_nil ?_
    refine pn_again ?_
    have hinc : wr (a0 + 1) = a0 + 1 := wr_of (by omega) (by omega)
    erw [hinc]
    exact wC (ih   (by omega) (by omega) hres) rfl

theorem f83_ok {x0 : BitVec 32} {x1 : Int} (hq : x1 ≤ 32) : FnR Tryz.prog 83 [vu32 x0, vi x1] (vb (ref12_Fits x0 x1)) := by
  refine fnS (R := RF83) text83 (fun _ h => h) rfl fun res hres => ?_
  unfold ref12_Fits at hres
  refine sR ?_
  refine mB rfl ?_
  refine nR ?_
  refine rd_op (v := vu64 1#64) (ov_move rfl) ?_
  refine nS ?_
  refine rc_seq ?_
  refine sR ?_
  refine mI rfl ?_
  refine nS ?_
  refine rc_block ?_
  refine wC (ref12_Fits_L1_ok hq ?_  rfl (by omega) hres) rfl
  · intro a0 hres
    refine px_blk ?_
    refine pn_seq ?_
    refine sR ?_
    refine mV rfl ?_
    refine rd_op (ov_conv (a := vu32 x0) rfl (c_wd Tryz.underlying89 Tryz.underlying201)) ?_
    refine mV rfl ?_
    refine rd_op (ov_bin (a := vu64 (BitVec.setWidth 64 x0)) (b := vu64 a0) rfl rfl d_lss) ?_
    refine mV rfl ?_
    refine nS ?_
    exact rR hres rfl rfl rfl

def RF21 (res : Int) (r : PV) : Prop := r = vi res
theorem ref12_Check_L2_ok {S : List Fr} {res : Int} {x0 : api_Program} {x1 : api_Env} {b1 : Bool} {a0 : Int} {v0 v1 : PV} (r0 : api_Program.t.R x0 v0) (r1 : api_Env.t.R x1 v1) (c4 : ref12_sized x0 x1 = b1) (b2 : (!b1) = false) (c6 : 0 ≤ a0) (a6 : (decide (a0 < (x1.Fields.length : Int))) = true) {K2 : Unit → Int}
    (d1 : K2 () = res → PX Tryz.prog 2 S (QR Tryz.prog [(4, none)] (RF21 res)) [(2, .fp v0), (3, .fp v1), (5, vi a0)] ⟨0, []⟩) :
    ∀ {m : Nat} {a1 : Int} (c3 : m = Int.toNat (((ix x1.Fields a0).length : Int) - a1)) (a7 : 0 ≤ a1), ref12_Check_L2 x0 x1 a0 K2 m a1 = res → RC Tryz.prog (.loop ac21_L2) S (QR Tryz.prog [(4, none)] (RF21 res)) [(6, vi a1), (5, vi a0), (3, .fp v1), (2, .fp v0)] ⟨0, []⟩ := by
  have a5 := b2
  try simp only [qa, qaD] at a5
  have a4 := a6
  try simp only [qa, qaD] at a4
  intro m
  induction m with
  | zero =>
    intro a1 c3 a7 hres
    rw [ref12_Check_L2] at hres
    refine rc_loop ?_
    refine rc_seq ?_
    refine sR ?_
    refine mV rfl ?_
    refine gL (api_Env.g_Fields r1) rfl rfl rfl fun d0 b7 => ?_
    refine mV rfl ?_
    obtain ⟨c7, c0, a8⟩ := sl_idx (i := a0) b7 (by first | omega | (have hk := sized_ok (by assumption) (by assumption); omega)) (by first | omega | (have hk := sized_ok (by assumption) (by assumption); omega))
    refine rd_op (ov_iaddr rfl rfl c0) ?_
    refine lD a8 rfl rfl rfl ?_
    refine rd_op (ov_bi rfl (sl_len a8 Tryz.underlying43 _)) ?_
    refine bN i_lss rfl rfl ?_
    refine nS ?_
    refine rc_cond rfl ?_ ?_ <;> intro c <;> try simp only [qa, qaD] at c
    · omega
    refine rc_exit ?_
    refine px_seq ?_
    refine px_again ?_
    exact wP (d1  hres) rfl
  | succ m ih =>
    intro a1 c3 a7 hres
    rw [ref12_Check_L2] at hres
    refine rc_loop ?_
    refine rc_seq ?_
    refine sR ?_
    refine mV rfl ?_
    refine gL (api_Env.g_Fields r1) rfl rfl rfl fun c9 b8 => ?_
    refine mV rfl ?_
    obtain ⟨c5, b6, a3⟩ := sl_idx (i := a0) b8 (by first | omega | (have hk := sized_ok (by assumption) (by assumption); omega)) (by first | omega | (have hk := sized_ok (by assumption) (by assumption); omega))
    refine rd_op (ov_iaddr rfl rfl b6) ?_
    refine lD a3 rfl rfl rfl ?_
    refine rd_op (ov_bi rfl (sl_len a3 Tryz.underlying43 _)) ?_
    refine bN i_lss rfl rfl ?_
    refine nS ?_
    refine rc_cond rfl ?_ ?_ <;> intro c <;> try simp only [qa, qaD] at c
    rotate_left
    · omega
    refine rc_skip ?_
    refine pn_seq ?_
    refine rc_seq ?_
    refine rc_block ?_
    refine sR ?_
    refine gL (api_Env.g_Fields r1) rfl rfl rfl fun d2 b9 => ?_
    refine mV rfl ?_
    obtain ⟨c8, c1, b3⟩ := sl_idx (i := a0) b9 (by first | omega | (have hk := sized_ok (by assumption) (by assumption); omega)) (by first | omega | (have hk := sized_ok (by assumption) (by assumption); omega))
    refine rd_op (ov_iaddr rfl rfl c1) ?_
    refine lD b3 rfl rfl rfl ?_
    refine mV rfl ?_
    refine rd_op (ov_iaddr rfl rfl (slU32 b3 (by first | omega | (have hk := sized_ok (by assumption) (by assumption); omega)) (by first | omega | (have hk := sized_ok (by assumption) (by assumption); omega)))) ?_
    refine lR rfl rfl rfl ?_
    refine lD r0 rfl rfl rfl ?_
    refine mV rfl ?_
    refine mV rfl ?_
    refine rd_op (v := .agg [vi a0, vi a1]) (ov_build (cs := [vi a0, vi a1]) rfl rfl) ?_
    obtain ⟨a9, a2, hres⟩ := let_ex hres
    have b4 := f84_ok  r0 (show api_FieldRef.t.R ({ Header := a0, Field := a1 } : api_FieldRef) (.agg [vi a0, vi a1]) from rfl) 
    rw [a2] at b4
    have c2 : a9 ≤ 32 := rw_le a2
    refine cL b4 rfl rfl (clL_cons (TR.clo api_Program.t r0) (clL_cons (TR.clo api_FieldRef.t (show api_FieldRef.t.R ({ Header := a0, Field := a1 } : api_FieldRef) (.agg [vi a0, vi a1]) from rfl)) clL_nil)) ?_
    obtain ⟨d3, b5, hres⟩ := let_ex hres
    have b0 := f83_ok (x0 := (ix (ix x1.Fields a0) a1)) (x1 := a9)  (by first | assumption | omega | (rw [wr_of (by omega) (by omega)]; omega) | (have hk := rval rfl (And.right (And.left (by assumption))); omega) | (have hk := rval (by assumption) (by assumption); omega) | (have hk := rval (by assumption) (And.left (by assumption)); omega) | (have hk := rval (by assumption) (And.left (And.left (by assumption))); have hz := rslc (by assumption); omega) | (simp; done) | (simp only [List.length_append, List.length_nil, List.length_cons]; omega) | (have hk := (chk_ok (by assumption) (by assumption)).1; omega) | (simp only [List.length_cons, List.length_nil]; omega) | (simp only [List.length_append]; have hk := (chk_ok (by assumption) (by assumption)).1; omega) | (simp only [List.length_append, List.length_nil]; have hk := (chk_ok (by assumption) (by assumption)).1; omega))
    rw [b5] at b0
    refine cL b0 rfl rfl (clL_cons rfl (clL_cons rfl clL_nil)) ?_
    refine rd_op (ov_not rfl) ?_
    refine nS ?_
    refine rc_br hres rfl ?_ ?_ <;> clear hres <;> intro c hres <;> try simp only [qa, qaD] at c
    · refine sR ?_
      refine mI rfl ?_
      refine nS ?_
      exact rR hres rfl rfl rfl
    · refine rc_skip ?_
      refine pn_blk ?_
      refine pn_seq ?_
      refine rc_region ?_
      refine mV rfl ?_
      refine bN i_add rfl rfl ?_
      refine mV rfl ?_
      refine rd_nil ?_
      refine pn_again ?_
      have hbd := sl_bound a3
      have hinc : wr (a1 + 1) = a1 + 1 := wr_of (by omega) (by omega)
      erw [hinc]
      exact wC (ih   (by omega) (by omega) hres) rfl

theorem ref12_Check_L1_ok {S : List Fr} {res : Int} {x0 : api_Program} {x1 : api_Env} {a6 : Bool} {v0 v1 : PV} (r0 : api_Program.t.R x0 v0) (r1 : api_Env.t.R x1 v1) (a8 : ref12_sized x0 x1 = a6) (a2 : (!a6) = false) {K0 : Unit → Int}
    (b2 : K0 () = res → PX Tryz.prog 0 S (QR Tryz.prog [(4, none)] (RF21 res)) [(2, .fp v0), (3, .fp v1)] ⟨0, []⟩) :
    ∀ {m : Nat} {a1 : Int} (b0 : m = Int.toNat ((x1.Fields.length : Int) - a1)) (a3 : 0 ≤ a1), ref12_Check_L1 x0 x1 K0 m a1 = res → RC Tryz.prog (.loop ac21_L1) S (QR Tryz.prog [(4, none)] (RF21 res)) [(5, vi a1), (3, .fp v1), (2, .fp v0)] ⟨0, []⟩ := by
  have a5 := a2
  try simp only [qa, qaD] at a5
  intro m
  induction m with
  | zero =>
    intro a1 b0 a3 hres
    rw [ref12_Check_L1] at hres
    refine rc_loop ?_
    refine rc_seq ?_
    refine sR ?_
    refine mV rfl ?_
    refine gL (api_Env.g_Fields r1) rfl rfl rfl fun b1 a9 => ?_
    refine rd_op (ov_bi rfl (sl_len a9 Tryz.underlying42 _)) ?_
    refine bN i_lss rfl rfl ?_
    refine nS ?_
    refine rc_cond rfl ?_ ?_ <;> intro c <;> try simp only [qa, qaD] at c
    · omega
    refine rc_exit ?_
    refine px_seq ?_
    refine px_again ?_
    exact wP (b2  hres) rfl
  | succ m ih =>
    intro a1 b0 a3 hres
    rw [ref12_Check_L1] at hres
    refine rc_loop ?_
    refine rc_seq ?_
    refine sR ?_
    refine mV rfl ?_
    refine gL (api_Env.g_Fields r1) rfl rfl rfl fun b3 a7 => ?_
    refine rd_op (ov_bi rfl (sl_len a7 Tryz.underlying42 _)) ?_
    refine bN i_lss rfl rfl ?_
    refine nS ?_
    refine rc_cond rfl (fun a0 => ?_) (fun a0 => ?_)
    · have hgo := hres
      have a4 := a0
      try simp only [qa, qaD] at a4
      refine rc_skip ?_
      refine pn_seq ?_
      refine rc_seq ?_
      refine rc_block ?_
      refine sR ?_
      refine mI rfl ?_
      refine nS ?_
      refine rc_block ?_
      refine wC (ref12_Check_L2_ok r0 r1 a8 a2 a3 a0 ?_  rfl (by omega) hres) rfl
      · intro  hres
        refine px_blk ?_
        refine pn_blk ?_
        refine pn_seq ?_
        refine rc_region ?_
        refine mV rfl ?_
        refine bN i_add rfl rfl ?_
        refine mV rfl ?_
        refine rd_nil ?_
        refine pn_again ?_
        have hbd := sl_bound a7
        have hinc : wr (a1 + 1) = a1 + 1 := wr_of (by omega) (by omega)
        erw [hinc]
        exact wC (ih   (by omega) (by omega) hres) rfl
    · exfalso
      try simp only [qa, qaD] at a0
      omega

theorem ref12_Check_L3_ok {S : List Fr} {res : Int} {x0 : api_Program} {x1 : api_Env} {a6 : Bool} {v0 v1 : PV} (r0 : api_Program.t.R x0 v0) (r1 : api_Env.t.R x1 v1) (b5 : ref12_sized x0 x1 = a6) (a8 : (!a6) = false) {K4 : Unit → Int}
    (b7 : K4 () = res → PX Tryz.prog 4 S (QR Tryz.prog [(4, none)] (RF21 res)) [(3, .fp v1)] ⟨0, []⟩) :
    ∀ {m : Nat} {a0 : Int} (b4 : m = Int.toNat ((x1.Metd.length : Int) - a0)) (b0 : 0 ≤ a0), ref12_Check_L3 x0 x1 K4 m a0 = res → RC Tryz.prog (.loop ac21_L3) S (QR Tryz.prog [(4, none)] (RF21 res)) [(7, vi a0), (3, .fp v1), (2, .fp v0)] ⟨0, []⟩ := by
  have a2 := a8
  try simp only [qa, qaD] at a2
  intro m
  induction m with
  | zero =>
    intro a0 b4 b0 hres
    rw [ref12_Check_L3] at hres
    refine rc_loop ?_
    refine rc_seq ?_
    refine sR ?_
    refine mV rfl ?_
    refine gL (api_Env.g_Meta r1) rfl rfl rfl fun b9 b1 => ?_
    refine rd_op (ov_bi rfl (sl_len b1 Tryz.underlying43 _)) ?_
    refine bN i_lss rfl rfl ?_
    refine nS ?_
    refine rc_cond rfl ?_ ?_ <;> intro c <;> try simp only [qa, qaD] at c
    · omega
    refine rc_exit ?_
    refine px_seq ?_
    refine px_again ?_
    exact wP (b7  hres) rfl
  | succ m ih =>
    intro a0 b4 b0 hres
    rw [ref12_Check_L3] at hres
    refine rc_loop ?_
    refine rc_seq ?_
    refine sR ?_
    refine mV rfl ?_
    refine gL (api_Env.g_Meta r1) rfl rfl rfl fun c0 a4 => ?_
    refine rd_op (ov_bi rfl (sl_len a4 Tryz.underlying43 _)) ?_
    refine bN i_lss rfl rfl ?_
    refine nS ?_
    refine rc_cond rfl ?_ ?_ <;> intro c <;> try simp only [qa, qaD] at c
    rotate_left
    · omega
    refine rc_skip ?_
    refine pn_seq ?_
    refine rc_seq ?_
    refine rc_block ?_
    refine sR ?_
    refine gL (api_Env.g_Meta r1) rfl rfl rfl fun b6 b2 => ?_
    refine mV rfl ?_
    refine rd_op (ov_iaddr rfl rfl (slU32 b2 (by first | omega | (have hk := sized_ok (by assumption) (by assumption); omega)) (by first | omega | (have hk := sized_ok (by assumption) (by assumption); omega)))) ?_
    refine lR rfl rfl rfl ?_
    refine lD r0 rfl rfl rfl ?_
    refine mV rfl ?_
    refine rd_op (v := .agg [vi (-1), vi a0]) (ov_build (cs := [vi (-1), vi a0]) rfl rfl) ?_
    obtain ⟨a5, a1, hres⟩ := let_ex hres
    have a3 := f84_ok  r0 (show api_FieldRef.t.R ({ Header := (-1), Field := a0 } : api_FieldRef) (.agg [vi (-1), vi a0]) from rfl) 
    rw [a1] at a3
    have b3 : a5 ≤ 32 := rw_le a1
    refine cL a3 rfl rfl (clL_cons (TR.clo api_Program.t r0) (clL_cons (TR.clo api_FieldRef.t (show api_FieldRef.t.R ({ Header := (-1), Field := a0 } : api_FieldRef) (.agg [vi (-1), vi a0]) from rfl)) clL_nil)) ?_
    obtain ⟨b8, a9, hres⟩ := let_ex hres
    have a7 := f83_ok (x0 := (ix x1.Metd a0)) (x1 := a5)  (by first | assumption | omega | (rw [wr_of (by omega) (by omega)]; omega) | (have hk := rval rfl (And.right (And.left (by assumption))); omega) | (have hk := rval (by assumption) (by assumption); omega) | (have hk := rval (by assumption) (And.left (by assumption)); omega) | (have hk := rval (by assumption) (And.left (And.left (by assumption))); have hz := rslc (by assumption); omega) | (simp; done) | (simp only [List.length_append, List.length_nil, List.length_cons]; omega) | (have hk := (chk_ok (by assumption) (by assumption)).1; omega) | (simp only [List.length_cons, List.length_nil]; omega) | (simp only [List.length_append]; have hk := (chk_ok (by assumption) (by assumption)).1; omega) | (simp only [List.length_append, List.length_nil]; have hk := (chk_ok (by assumption) (by assumption)).1; omega))
    rw [a9] at a7
    refine cL a7 rfl rfl (clL_cons rfl (clL_cons rfl clL_nil)) ?_
    refine rd_op (ov_not rfl) ?_
    refine nS ?_
    refine rc_br hres rfl ?_ ?_ <;> clear hres <;> intro c hres <;> try simp only [qa, qaD] at c
    · refine sR ?_
      refine mI rfl ?_
      refine nS ?_
      exact rR hres rfl rfl rfl
    · refine rc_skip ?_
      refine pn_blk ?_
      refine pn_seq ?_
      refine rc_region ?_
      refine mV rfl ?_
      refine bN i_add rfl rfl ?_
      refine mV rfl ?_
      refine rd_nil ?_
      refine pn_again ?_
      have hbd := sl_bound a4
      have hinc : wr (a0 + 1) = a0 + 1 := wr_of (by omega) (by omega)
      erw [hinc]
      exact wC (ih   (by omega) (by omega) hres) rfl

theorem ref12_Check_L5_ok {S : List Fr} {res : Int} {x0 : api_Program} {x1 : api_Env} {b1 : Bool} {a0 : Int} {v1 : PV} (r1 : api_Env.t.R x1 v1) (c2 : ref12_sized x0 x1 = b1) (b2 : (!b1) = false) (c7 : 0 ≤ a0) (a9 : (decide (a0 < (x1.Fields.length : Int))) = true) {K8 : Unit → Int}
    (d0 : K8 () = res → PX Tryz.prog 8 S (QR Tryz.prog [(4, none)] (RF21 res)) [(3, .fp v1), (8, vi a0)] ⟨0, []⟩) :
    ∀ {m : Nat} {a1 : Int} (c1 : m = Int.toNat (((ix x1.Fields a0).length : Int) - a1)) (b0 : 0 ≤ a1), ref12_Check_L5 x1 a0 K8 m a1 = res → RC Tryz.prog (.loop ac21_L5) S (QR Tryz.prog [(4, none)] (RF21 res)) [(9, vi a1), (8, vi a0), (3, .fp v1)] ⟨0, []⟩ := by
  have a7 := b2
  try simp only [qa, qaD] at a7
  have a3 := a9
  try simp only [qa, qaD] at a3
  intro m
  induction m with
  | zero =>
    intro a1 c1 b0 hres
    rw [ref12_Check_L5] at hres
    refine rc_loop ?_
    refine rc_seq ?_
    refine sR ?_
    refine mV rfl ?_
    refine gL (api_Env.g_Fields r1) rfl rfl rfl fun c8 b5 => ?_
    refine mV rfl ?_
    obtain ⟨d1, c0, b3⟩ := sl_idx (i := a0) b5 (by first | omega | (have hk := sized_ok (by assumption) (by assumption); omega)) (by first | omega | (have hk := sized_ok (by assumption) (by assumption); omega))
    refine rd_op (ov_iaddr rfl rfl c0) ?_
    refine lD b3 rfl rfl rfl ?_
    refine rd_op (ov_bi rfl (sl_len b3 Tryz.underlying43 _)) ?_
    refine bN i_lss rfl rfl ?_
    refine nS ?_
    refine rc_cond rfl ?_ ?_ <;> intro c <;> try simp only [qa, qaD] at c
    · omega
    refine rc_exit ?_
    refine px_seq ?_
    refine px_again ?_
    exact wP (d0  hres) rfl
  | succ m ih =>
    intro a1 c1 b0 hres
    rw [ref12_Check_L5] at hres
    refine rc_loop ?_
    refine rc_seq ?_
    refine sR ?_
    refine mV rfl ?_
    refine gL (api_Env.g_Fields r1) rfl rfl rfl fun c4 b7 => ?_
    refine mV rfl ?_
    obtain ⟨c9, b4, a4⟩ := sl_idx (i := a0) b7 (by first | omega | (have hk := sized_ok (by assumption) (by assumption); omega)) (by first | omega | (have hk := sized_ok (by assumption) (by assumption); omega))
    refine rd_op (ov_iaddr rfl rfl b4) ?_
    refine lD a4 rfl rfl rfl ?_
    refine rd_op (ov_bi rfl (sl_len a4 Tryz.underlying43 _)) ?_
    refine bN i_lss rfl rfl ?_
    refine nS ?_
    refine rc_cond rfl ?_ ?_ <;> intro c <;> try simp only [qa, qaD] at c
    rotate_left
    · omega
    refine rc_skip ?_
    refine pn_seq ?_
    refine rc_seq ?_
    refine rc_block ?_
    refine sR ?_
    refine gL (api_Env.g_Valid r1) rfl rfl rfl fun c3 b8 => ?_
    refine mV rfl ?_
    refine rd_op (ov_iaddr rfl rfl (slB b8 (by first | omega | (have hk := sized_ok (by assumption) (by assumption); omega)) (by first | omega | (have hk := sized_ok (by assumption) (by assumption); omega)))) ?_
    refine lR rfl rfl rfl ?_
    refine rd_op (ov_not rfl) ?_
    refine mV rfl ?_
    refine rd_cutn 10 (d := 97) (v := vb ((!(ix x1.Valid a0)) && (!decide ((ix (ix x1.Fields a0) a1) = 0#32)))) ?_ ?_
    · intro S Q r
      cases a8 : (!(ix x1.Valid a0))
      · exact gN 9 rfl rfl rfl rfl rfl rfl
      · intro k
        have a6 := a8
        try simp only [qa, qaD] at a6
        obtain ⟨c5, b9, a2⟩ := api_Env.g_Fields r1
        refine rd_yes rfl rfl (ov_faddr rfl b9) ?_
        refine rd_yes rfl rfl (ov_load rfl (TR.cnt (tSl (tSl tU32)) a2) (TR.agg (tSl (tSl tU32)) a2)) ?_
        refine rd_yes rfl rfl (ov_move rfl) ?_
        obtain ⟨c6, b6, a5⟩ := sl_idx (i := a0) a2 (by first | omega | (have hk := sized_ok (by assumption) (by assumption); omega)) (by first | omega | (have hk := sized_ok (by assumption) (by assumption); omega))
        refine rd_yes rfl rfl (ov_iaddr rfl rfl b6) ?_
        refine rd_yes rfl rfl (ov_load rfl (TR.cnt (tSl tU32) a5) (TR.agg (tSl tU32) a5)) ?_
        refine rd_yes rfl rfl (ov_move rfl) ?_
        refine rd_yes rfl rfl (ov_iaddr rfl rfl (slU32 a5 (by first | omega | (have hk := sized_ok (by assumption) (by assumption); omega)) (by first | omega | (have hk := sized_ok (by assumption) (by assumption); omega)))) ?_
        refine rd_yes rfl rfl (ov_load rfl rfl rfl) ?_
        refine rd_yes rfl rfl (ov_bin (a := vu32 (ix (ix x1.Fields a0) a1)) (b := vu32 0#32) rfl rfl w_neq) ?_
        exact gK rfl rfl rfl rfl rfl k
    refine nS ?_
    refine rc_br hres rfl ?_ ?_ <;> clear hres <;> intro c hres <;> try simp only [qa, qaD] at c
    · refine sR ?_
      refine mI rfl ?_
      refine nS ?_
      exact rR hres rfl rfl rfl
    · refine rc_skip ?_
      refine pn_blk ?_
      refine pn_seq ?_
      refine rc_region ?_
      refine mV rfl ?_
      refine bN i_add rfl rfl ?_
      refine mV rfl ?_
      refine rd_nil ?_
      refine pn_again ?_
      have hbd := sl_bound a4
      have hinc : wr (a1 + 1) = a1 + 1 := wr_of (by omega) (by omega)
      erw [hinc]
      exact wC (ih   (by omega) (by omega) hres) rfl

theorem ref12_Check_L4_ok {S : List Fr} {res : Int} {x0 : api_Program} {x1 : api_Env} {a7 : Bool} {v1 : PV} (r1 : api_Env.t.R x1 v1) (a8 : ref12_sized x0 x1 = a7) (a2 : (!a7) = false) {K6 : Unit → Int}
    (b3 : K6 () = res → PX Tryz.prog 6 S (QR Tryz.prog [(4, none)] (RF21 res)) [] ⟨0, []⟩) :
    ∀ {m : Nat} {a1 : Int} (b0 : m = Int.toNat ((x1.Fields.length : Int) - a1)) (a4 : 0 ≤ a1), ref12_Check_L4 x1 K6 m a1 = res → RC Tryz.prog (.loop ac21_L4) S (QR Tryz.prog [(4, none)] (RF21 res)) [(8, vi a1), (3, .fp v1)] ⟨0, []⟩ := by
  have a5 := a2
  try simp only [qa, qaD] at a5
  intro m
  induction m with
  | zero =>
    intro a1 b0 a4 hres
    rw [ref12_Check_L4] at hres
    refine rc_loop ?_
    refine rc_seq ?_
    refine sR ?_
    refine mV rfl ?_
    refine gL (api_Env.g_Fields r1) rfl rfl rfl fun b1 a9 => ?_
    refine rd_op (ov_bi rfl (sl_len a9 Tryz.underlying42 _)) ?_
    refine bN i_lss rfl rfl ?_
    refine nS ?_
    refine rc_cond rfl ?_ ?_ <;> intro c <;> try simp only [qa, qaD] at c
    · omega
    refine rc_exit ?_
    refine px_seq ?_
    refine px_again ?_
    exact wP (b3  hres) rfl
  | succ m ih =>
    intro a1 b0 a4 hres
    rw [ref12_Check_L4] at hres
    refine rc_loop ?_
    refine rc_seq ?_
    refine sR ?_
    refine mV rfl ?_
    refine gL (api_Env.g_Fields r1) rfl rfl rfl fun b2 a6 => ?_
    refine rd_op (ov_bi rfl (sl_len a6 Tryz.underlying42 _)) ?_
    refine bN i_lss rfl rfl ?_
    refine nS ?_
    refine rc_cond rfl (fun a0 => ?_) (fun a0 => ?_)
    · have hgo := hres
      have a3 := a0
      try simp only [qa, qaD] at a3
      refine rc_skip ?_
      refine pn_seq ?_
      refine rc_seq ?_
      refine rc_block ?_
      refine sR ?_
      refine mI rfl ?_
      refine nS ?_
      refine rc_block ?_
      refine wC (ref12_Check_L5_ok r1 a8 a2 a4 a0 ?_  rfl (by omega) hres) rfl
      · intro  hres
        refine px_blk ?_
        refine pn_blk ?_
        refine pn_seq ?_
        refine rc_region ?_
        refine mV rfl ?_
        refine bN i_add rfl rfl ?_
        refine mV rfl ?_
        refine rd_nil ?_
        refine pn_again ?_
        have hbd := sl_bound a6
        have hinc : wr (a1 + 1) = a1 + 1 := wr_of (by omega) (by omega)
        erw [hinc]
        exact wC (ih   (by omega) (by omega) hres) rfl
    · exfalso
      try simp only [qa, qaD] at a0
      omega

theorem f21_ok {x0 : api_Program} {x1 : api_Env} {v0 v1 : PV} (r0 : api_Program.t.R x0 v0) (r1 : api_Env.t.R x1 v1) : FnR Tryz.prog 21 [v0, v1] (vi (ref12_Check x0 x1)) := by
  refine fnS (R := RF21) text21 (fun _ h => h) rfl fun res hres => ?_
  unfold ref12_Check at hres
  refine sR ?_
  refine rd_op (ov_box rfl (TR.cnt api_Program.t r0)) ?_
  refine rd_op (ov_box rfl (TR.cnt api_Env.t r1)) ?_
  refine mI rfl ?_
  refine nS ?_
  refine rc_seq ?_
  refine sR ?_
  refine lD r0 rfl rfl rfl ?_
  refine lD r1 rfl rfl rfl ?_
  obtain ⟨a4, a1, hres⟩ := let_ex hres
  have a3 := f82_ok  r0 r1 
  rw [a1] at a3
  refine cL a3 rfl rfl (clL_cons (TR.clo api_Program.t r0) (clL_cons (TR.clo api_Env.t r1) clL_nil)) ?_
  refine rd_op (ov_not rfl) ?_
  refine nS ?_
  refine rc_br hres rfl ?_ ?_ <;> clear hres <;> intro a0 hres <;> have a2 := a0 <;> try simp only [qa, qaD] at a2
  · refine sR ?_
    refine mI rfl ?_
    refine nS ?_
    exact rR hres rfl rfl rfl
  · refine rc_skip ?_
    refine pn_seq ?_
    refine rc_seq ?_
    refine sR ?_
    refine mI rfl ?_
    refine nS ?_
    refine rc_block ?_
    refine wC (ref12_Check_L1_ok r0 r1 a1 a0 ?_  rfl (by omega) hres) rfl
    · intro  hres
      refine px_blk ?_
      refine pn_seq ?_
      refine rc_seq ?_
      refine sR ?_
      refine mI rfl ?_
      refine nS ?_
      refine rc_block ?_
      refine wC (ref12_Check_L3_ok r0 r1 a1 a0 ?_  rfl (by omega) hres) rfl
      · intro  hres
        refine px_blk ?_
        refine pn_seq ?_
        refine rc_seq ?_
        refine sR ?_
        refine mI rfl ?_
        refine nS ?_
        refine rc_block ?_
        refine wC (ref12_Check_L4_ok r1 a1 a0 ?_  rfl (by omega) hres) rfl
        · intro  hres
          refine px_blk ?_
          refine pn_seq ?_
          refine sR ?_
          refine mI rfl ?_
          refine nS ?_
          exact rR hres rfl rfl rfl

end Go.Proofs.YtmonnlkagniolaaGreat
