/-
  The code of each function does what its plain program says.
-/
import Derived.Test.YtmonnlkagniolaaGreatKDef
import Derived.Test.YtmonnlkagniolaaGreatL11Text
import Derived.Test.YtmonnlkagniolaaGreatPbV
import Derived.Test.YtmonnlkagniolaaGreatKEo
import Derived.Test.YtmonnlkagniolaaGreatKPmKpKc
import Derived.Test.YtmonnlkagniolaaGreatL11Run
set_option linter.unusedVariables false
set_option linter.unusedSimpArgs false
set_option maxRecDepth 100000
namespace Go.Proofs.YtmonnlkagniolaaGreat
open Go Go.Pb Go.RowKit
def RF33 (res : Bool) (r : PV) : Prop := r = vb res
theorem law16_Small_L2_ok {S : List Fr} {res : Bool} {x0 : api_Program} {a0 : Int} {v0 : PV} (r0 : api_Program.t.R x0 v0) (b1 : ((((decide (20 < (x0.Headers.length : Int))) || (decide (30 < (x0.Metadata.length : Int)))) || (decide (20 < (x0.Registers.length : Int)))) || (decide (40 < (x0.Actions.length : Int)))) = false) (f2 : 0 ≤ a0) (b3 : (decide (a0 < (x0.Actions.length : Int))) = true) (b2 : ((decide (20 < (((ix x0.Actions a0).Params).length : Int))) || (decide (30 < (((ix x0.Actions a0).Body).length : Int)))) = false) {K2 : Unit → Bool}
    (f1 : K2 () = res → PX Tryz.prog 2 S (QR Tryz.prog [(2, none)] (RF33 res)) [(1, .fp v0), (3, vi a0)] ⟨0, []⟩) :
    ∀ {m : Nat} {a1 : Int} (d6 : m = Int.toNat ((((ix x0.Actions a0).Body).length : Int) - a1)) (b0 : 0 ≤ a1), law16_Small_L2 x0 a0 K2 m a1 = res → RC Tryz.prog (.loop ac33_L2) S (QR Tryz.prog [(2, none)] (RF33 res)) [(4, vi a1), (3, vi a0), (1, .fp v0)] ⟨0, []⟩ := by
  have a2 := b1
  try simp only [qa, qaD] at a2
  have a4 := b3
  try simp only [qa, qaD] at a4
  have a8 := b2
  try simp only [qa, qaD] at a8
  intro m
  induction m with
  | zero =>
    intro a1 d6 b0 hres
    rw [law16_Small_L2] at hres
    refine rc_loop ?_
    refine rc_seq ?_
    refine sR ?_
    refine mV rfl ?_
    refine gL (api_Program.g_Actions r0) rfl rfl rfl fun e8 d2 => ?_
    refine mV rfl ?_
    obtain ⟨d8, d1, d5⟩ := sl_idx (i := a0) d2 (by omega) (by omega)
    refine rd_op (ov_iaddr rfl rfl d1) ?_
    refine gL (api_Action.g_Body d5) rfl rfl rfl fun e5 b5 => ?_
    refine rd_op (ov_bi rfl (sl_len b5 Tryz.underlying95 _)) ?_
    refine bN i_lss rfl rfl ?_
    refine nS ?_
    refine rc_cond rfl ?_ ?_ <;> intro c <;> try simp only [qa, qaD] at c
    · omega
    refine rc_exit ?_
    refine px_seq ?_
    refine px_again ?_
    exact wP (f1  hres) rfl
  | succ m ih =>
    intro a1 d6 b0 hres
    rw [law16_Small_L2] at hres
    refine rc_loop ?_
    refine rc_seq ?_
    refine sR ?_
    refine mV rfl ?_
    refine gL (api_Program.g_Actions r0) rfl rfl rfl fun e9 c9 => ?_
    refine mV rfl ?_
    obtain ⟨e1, b7, c1⟩ := sl_idx (i := a0) c9 (by omega) (by omega)
    refine rd_op (ov_iaddr rfl rfl b7) ?_
    refine gL (api_Action.g_Body c1) rfl rfl rfl fun f3 a9 => ?_
    refine rd_op (ov_bi rfl (sl_len a9 Tryz.underlying95 _)) ?_
    refine bN i_lss rfl rfl ?_
    refine nS ?_
    refine rc_cond rfl ?_ ?_ <;> intro c <;> try simp only [qa, qaD] at c
    rotate_left
    · omega
    refine rc_skip ?_
    refine pn_seq ?_
    refine rc_seq ?_
    refine rc_block ?_
    refine sR ?_
    refine gL (api_Program.g_Actions r0) rfl rfl rfl fun f0 c6 => ?_
    refine mV rfl ?_
    obtain ⟨e0, d3, c8⟩ := sl_idx (i := a0) c6 (by omega) (by omega)
    refine rd_op (ov_iaddr rfl rfl d3) ?_
    refine gL (api_Action.g_Body c8) rfl rfl rfl fun d7 d0 => ?_
    refine mV rfl ?_
    obtain ⟨e4, b8, d4⟩ := sl_idx (i := a1) d0 (by omega) (by omega)
    refine rd_op (ov_iaddr rfl rfl b8) ?_
    refine gL (api_Statement.g_Index d4) rfl rfl rfl fun f4 c3 => ?_
    refine rd_op (ov_bi rfl (sl_len c3 Tryz.underlying32 _)) ?_
    refine bN i_gtr rfl rfl ?_
    refine mV rfl ?_
    refine rd_cutn 13 (d := 90) (v := vb ((decide (60 < (((ix ((ix x0.Actions a0).Body) a1).Index).length : Int))) || (decide (60 < (((ix ((ix x0.Actions a0).Body) a1).Value).length : Int))))) ?_ ?_
    · intro S Q r
      cases b4 : (decide (60 < (((ix ((ix x0.Actions a0).Body) a1).Index).length : Int)))
      · intro k
        have a6 := b4
        try simp only [qa, qaD] at a6
        obtain ⟨e3, b6, a7⟩ := api_Program.g_Actions r0
        refine rd_yes rfl rfl (ov_faddr rfl b6) ?_
        refine rd_yes rfl rfl (ov_load rfl (TR.cnt (tSl api_Action.t) a7) (TR.agg (tSl api_Action.t) a7)) ?_
        refine rd_yes rfl rfl (ov_move rfl) ?_
        obtain ⟨d9, c2, c0⟩ := sl_idx (i := a0) a7 (by omega) (by omega)
        refine rd_yes rfl rfl (ov_iaddr rfl rfl c2) ?_
        obtain ⟨e2, b9, a3⟩ := api_Action.g_Body c0
        refine rd_yes rfl rfl (ov_faddr rfl b9) ?_
        refine rd_yes rfl rfl (ov_load rfl (TR.cnt (tSl api_Statement.t) a3) (TR.agg (tSl api_Statement.t) a3)) ?_
        refine rd_yes rfl rfl (ov_move rfl) ?_
        obtain ⟨e6, c5, c4⟩ := sl_idx (i := a1) a3 (by omega) (by omega)
        refine rd_yes rfl rfl (ov_iaddr rfl rfl c5) ?_
        obtain ⟨e7, c7, a5⟩ := api_Statement.g_Value c4
        refine rd_yes rfl rfl (ov_faddr rfl c7) ?_
        refine rd_yes rfl rfl (ov_load rfl (TR.cnt (tSl api_ExprNode.t) a5) (TR.agg (tSl api_ExprNode.t) a5)) ?_
        refine rd_yes rfl rfl (ov_bi rfl (sl_len a5 Tryz.underlying32 _)) ?_
        refine rd_yes rfl rfl (ov_bin rfl rfl i_gtr) ?_
        exact gK rfl rfl rfl rfl rfl k
      · exact gN 12 rfl rfl rfl rfl rfl rfl
    refine nS ?_
    refine rc_br hres rfl ?_ ?_ <;> clear hres <;> intro c hres <;> try simp only [qa, qaD] at c
    · refine sR ?_
      refine mB rfl ?_
      refine nS ?_
      exact rR hres rfl rfl rfl
    · refine rc_skip ?_
      refine pn_blk ?_
      refine pn_seq ?_
      refine rc_region ?_
      refine mV rfl ?_
      refine bN i_add rfl rfl ?_
      refine mV rfl ?_
      refine rd_nil ?_
      refine pn_again ?_
      have hbd := sl_bound a9
      have hinc : wr (a1 + 1) = a1 + 1 := wr_of (by omega) (by omega)
      erw [hinc]
      exact wC (ih   (by omega) (by omega) hres) rfl

theorem law16_Small_L1_ok {S : List Fr} {res : Bool} {x0 : api_Program} {v0 : PV} (r0 : api_Program.t.R x0 v0) (a2 : ((((decide (20 < (x0.Headers.length : Int))) || (decide (30 < (x0.Metadata.length : Int)))) || (decide (20 < (x0.Registers.length : Int)))) || (decide (40 < (x0.Actions.length : Int)))) = false) {K0 : Unit → Bool}
    (c5 : K0 () = res → PX Tryz.prog 0 S (QR Tryz.prog [(2, none)] (RF33 res)) [(1, .fp v0)] ⟨0, []⟩) :
    ∀ {m : Nat} {a1 : Int} (c2 : m = Int.toNat ((x0.Actions.length : Int) - a1)) (b0 : 0 ≤ a1), law16_Small_L1 x0 K0 m a1 = res → RC Tryz.prog (.loop ac33_L1) S (QR Tryz.prog [(2, none)] (RF33 res)) [(3, vi a1), (1, .fp v0)] ⟨0, []⟩ := by
  have a5 := a2
  try simp only [qa, qaD] at a5
  intro m
  induction m with
  | zero =>
    intro a1 c2 b0 hres
    rw [law16_Small_L1] at hres
    refine rc_loop ?_
    refine rc_seq ?_
    refine sR ?_
    refine mV rfl ?_
    refine gL (api_Program.g_Actions r0) rfl rfl rfl fun c8 c1 => ?_
    refine rd_op (ov_bi rfl (sl_len c1 Tryz.underlying25 _)) ?_
    refine bN i_lss rfl rfl ?_
    refine nS ?_
    refine rc_cond rfl ?_ ?_ <;> intro c <;> try simp only [qa, qaD] at c
    · omega
    refine rc_exit ?_
    refine px_seq ?_
    refine px_again ?_
    exact wP (c5  hres) rfl
  | succ m ih =>
    intro a1 c2 b0 hres
    rw [law16_Small_L1] at hres
    refine rc_loop ?_
    refine rc_seq ?_
    refine sR ?_
    refine mV rfl ?_
    refine gL (api_Program.g_Actions r0) rfl rfl rfl fun c3 b1 => ?_
    refine rd_op (ov_bi rfl (sl_len b1 Tryz.underlying25 _)) ?_
    refine bN i_lss rfl rfl ?_
    refine nS ?_
    refine rc_cond rfl (fun a0 => ?_) (fun a0 => ?_)
    · have hgo := hres
      have a6 := a0
      try simp only [qa, qaD] at a6
      refine rc_skip ?_
      refine pn_seq ?_
      refine rc_seq ?_
      refine rc_block ?_
      refine rc_seq ?_
      refine sR ?_
      refine gL (api_Program.g_Actions r0) rfl rfl rfl fun d0 c0 => ?_
      refine mV rfl ?_
      obtain ⟨c6, b5, b6⟩ := sl_idx (i := a1) c0 (by omega) (by omega)
      refine rd_op (ov_iaddr rfl rfl b5) ?_
      refine gL (api_Action.g_Params b6) rfl rfl rfl fun d1 b7 => ?_
      refine rd_op (ov_bi rfl (sl_len b7 Tryz.underlying23 _)) ?_
      refine bN i_gtr rfl rfl ?_
      refine mV rfl ?_
      refine rd_cutn 9 (d := 53) (v := vb ((decide (20 < (((ix x0.Actions a1).Params).length : Int))) || (decide (30 < (((ix x0.Actions a1).Body).length : Int))))) ?_ ?_
      · intro S Q r
        cases b2 : (decide (20 < (((ix x0.Actions a1).Params).length : Int)))
        · intro k
          have a8 := b2
          try simp only [qa, qaD] at a8
          obtain ⟨c4, b3, a7⟩ := api_Program.g_Actions r0
          refine rd_yes rfl rfl (ov_faddr rfl b3) ?_
          refine rd_yes rfl rfl (ov_load rfl (TR.cnt (tSl api_Action.t) a7) (TR.agg (tSl api_Action.t) a7)) ?_
          refine rd_yes rfl rfl (ov_move rfl) ?_
          obtain ⟨c7, b8, b9⟩ := sl_idx (i := a1) a7 (by omega) (by omega)
          refine rd_yes rfl rfl (ov_iaddr rfl rfl b8) ?_
          obtain ⟨c9, b4, a9⟩ := api_Action.g_Body b9
          refine rd_yes rfl rfl (ov_faddr rfl b4) ?_
          refine rd_yes rfl rfl (ov_load rfl (TR.cnt (tSl api_Statement.t) a9) (TR.agg (tSl api_Statement.t) a9)) ?_
          refine rd_yes rfl rfl (ov_bi rfl (sl_len a9 Tryz.underlying95 _)) ?_
          refine rd_yes rfl rfl (ov_bin rfl rfl i_gtr) ?_
          exact gK rfl rfl rfl rfl rfl k
        · exact gN 8 rfl rfl rfl rfl rfl rfl
      refine nS ?_
      refine rc_br hres rfl ?_ ?_ <;> clear hres <;> intro a3 hres <;> have a4 := a3 <;> try simp only [qa, qaD] at a4
      · refine sR ?_
        refine mB rfl ?_
        refine nS ?_
        exact rR hres rfl rfl rfl
      · refine rc_skip ?_
        refine pn_seq ?_
        refine sR ?_
        refine mI rfl ?_
        refine nS ?_
        refine rc_block ?_
        refine wC (law16_Small_L2_ok r0 a2 b0 a0 a3 ?_  rfl (by omega) hres) rfl
        · intro  hres
          refine px_blk ?_
          refine pn_blk ?_
          refine pn_seq ?_
          refine rc_region ?_
          refine mV rfl ?_
          refine bN i_add rfl rfl ?_
          refine mV rfl ?_
          refine rd_nil ?_
          refine pn_again ?_
          have hbd := sl_bound b1
          have hinc : wr (a1 + 1) = a1 + 1 := wr_of (by omega) (by omega)
          erw [hinc]
          exact wC (ih   (by omega) (by omega) hres) rfl
    · exfalso
      try simp only [qa, qaD] at a0
      omega

theorem law16_Small_L3_ok {S : List Fr} {res : Bool} {x0 : api_Program} {v0 : PV} (r0 : api_Program.t.R x0 v0) (a4 : ((((decide (20 < (x0.Headers.length : Int))) || (decide (30 < (x0.Metadata.length : Int)))) || (decide (20 < (x0.Registers.length : Int)))) || (decide (40 < (x0.Actions.length : Int)))) = false) {K4 : Unit → Bool}
    (b3 : K4 () = res → PX Tryz.prog 4 S (QR Tryz.prog [(2, none)] (RF33 res)) [(1, .fp v0)] ⟨0, []⟩) :
    ∀ {m : Nat} {a0 : Int} (b0 : m = Int.toNat ((x0.Headers.length : Int) - a0)) (a3 : 0 ≤ a0), law16_Small_L3 x0 K4 m a0 = res → RC Tryz.prog (.loop ac33_L3) S (QR Tryz.prog [(2, none)] (RF33 res)) [(5, vi a0), (1, .fp v0)] ⟨0, []⟩ := by
  have a1 := a4
  try simp only [qa, qaD] at a1
  intro m
  induction m with
  | zero =>
    intro a0 b0 a3 hres
    rw [law16_Small_L3] at hres
    refine rc_loop ?_
    refine rc_seq ?_
    refine sR ?_
    refine mV rfl ?_
    refine gL (api_Program.g_Headers r0) rfl rfl rfl fun b1 a7 => ?_
    refine rd_op (ov_bi rfl (sl_len a7 Tryz.underlying22 _)) ?_
    refine bN i_lss rfl rfl ?_
    refine nS ?_
    refine rc_cond rfl ?_ ?_ <;> intro c <;> try simp only [qa, qaD] at c
    · omega
    refine rc_exit ?_
    refine px_seq ?_
    refine px_again ?_
    exact wP (b3  hres) rfl
  | succ m ih =>
    intro a0 b0 a3 hres
    rw [law16_Small_L3] at hres
    refine rc_loop ?_
    refine rc_seq ?_
    refine sR ?_
    refine mV rfl ?_
    refine gL (api_Program.g_Headers r0) rfl rfl rfl fun b2 a2 => ?_
    refine rd_op (ov_bi rfl (sl_len a2 Tryz.underlying22 _)) ?_
    refine bN i_lss rfl rfl ?_
    refine nS ?_
    refine rc_cond rfl ?_ ?_ <;> intro c <;> try simp only [qa, qaD] at c
    rotate_left
    · omega
    refine rc_skip ?_
    refine pn_seq ?_
    refine rc_seq ?_
    refine rc_block ?_
    refine sR ?_
    refine gL (api_Program.g_Headers r0) rfl rfl rfl fun b6 a8 => ?_
    refine mV rfl ?_
    obtain ⟨b4, a6, a9⟩ := sl_idx (i := a0) a8 (by omega) (by omega)
    refine rd_op (ov_iaddr rfl rfl a6) ?_
    refine gL (api_Header.g_Fields a9) rfl rfl rfl fun b5 a5 => ?_
    refine rd_op (ov_bi rfl (sl_len a5 Tryz.underlying23 _)) ?_
    refine bN i_gtr rfl rfl ?_
    refine nS ?_
    refine rc_br hres rfl ?_ ?_ <;> clear hres <;> intro c hres <;> try simp only [qa, qaD] at c
    · refine sR ?_
      refine mB rfl ?_
      refine nS ?_
      exact rR hres rfl rfl rfl
    · refine rc_skip ?_
      refine pn_blk ?_
      refine pn_seq ?_
      refine rc_region ?_
      refine mV rfl ?_
      refine bN i_add rfl rfl ?_
      refine mV rfl ?_
      refine rd_nil ?_
      refine pn_again ?_
      have hbd := sl_bound a2
      have hinc : wr (a0 + 1) = a0 + 1 := wr_of (by omega) (by omega)
      erw [hinc]
      exact wC (ih   (by omega) (by omega) hres) rfl

theorem law16_Small_L4_ok {S : List Fr} {res : Bool} {x0 : api_Program} {v0 : PV} (r0 : api_Program.t.R x0 v0) (a4 : ((((decide (20 < (x0.Headers.length : Int))) || (decide (30 < (x0.Metadata.length : Int)))) || (decide (20 < (x0.Registers.length : Int)))) || (decide (40 < (x0.Actions.length : Int)))) = false) {K6 : Unit → Bool}
    (b3 : K6 () = res → PX Tryz.prog 6 S (QR Tryz.prog [(2, none)] (RF33 res)) [] ⟨0, []⟩) :
    ∀ {m : Nat} {a0 : Int} (a9 : m = Int.toNat ((x0.Registers.length : Int) - a0)) (a3 : 0 ≤ a0), law16_Small_L4 x0 K6 m a0 = res → RC Tryz.prog (.loop ac33_L4) S (QR Tryz.prog [(2, none)] (RF33 res)) [(6, vi a0), (1, .fp v0)] ⟨0, []⟩ := by
  have a1 := a4
  try simp only [qa, qaD] at a1
  intro m
  induction m with
  | zero =>
    intro a0 a9 a3 hres
    rw [law16_Small_L4] at hres
    refine rc_loop ?_
    refine rc_seq ?_
    refine sR ?_
    refine mV rfl ?_
    refine gL (api_Program.g_Registers r0) rfl rfl rfl fun b2 a6 => ?_
    refine rd_op (ov_bi rfl (sl_len a6 Tryz.underlying24 _)) ?_
    refine bN i_lss rfl rfl ?_
    refine nS ?_
    refine rc_cond rfl ?_ ?_ <;> intro c <;> try simp only [qa, qaD] at c
    · omega
    refine rc_exit ?_
    refine px_seq ?_
    refine px_again ?_
    exact wP (b3  hres) rfl
  | succ m ih =>
    intro a0 a9 a3 hres
    rw [law16_Small_L4] at hres
    refine rc_loop ?_
    refine rc_seq ?_
    refine sR ?_
    refine mV rfl ?_
    refine gL (api_Program.g_Registers r0) rfl rfl rfl fun b0 a2 => ?_
    refine rd_op (ov_bi rfl (sl_len a2 Tryz.underlying24 _)) ?_
    refine bN i_lss rfl rfl ?_
    refine nS ?_
    refine rc_cond rfl ?_ ?_ <;> intro c <;> try simp only [qa, qaD] at c
    rotate_left
    · omega
    refine rc_skip ?_
    refine pn_seq ?_
    refine rc_seq ?_
    refine rc_block ?_
    refine sR ?_
    refine gL (api_Program.g_Registers r0) rfl rfl rfl fun b1 a8 => ?_
    refine mV rfl ?_
    obtain ⟨b4, a5, a7⟩ := sl_idx (i := a0) a8 (by omega) (by omega)
    refine rd_op (ov_iaddr rfl rfl a5) ?_
    refine fL rfl (api_Register.g_Size a7) rfl rfl ?_
    refine bN i_gtr rfl rfl ?_
    refine nS ?_
    refine rc_br hres rfl ?_ ?_ <;> clear hres <;> intro c hres <;> try simp only [qa, qaD] at c
    · refine sR ?_
      refine mB rfl ?_
      refine nS ?_
      exact rR hres rfl rfl rfl
    · refine rc_skip ?_
      refine pn_blk ?_
      refine pn_seq ?_
      refine rc_region ?_
      refine mV rfl ?_
      refine bN i_add rfl rfl ?_
      refine mV rfl ?_
      refine rd_nil ?_
      refine pn_again ?_
      have hbd := sl_bound a2
      have hinc : wr (a0 + 1) = a0 + 1 := wr_of (by omega) (by omega)
      erw [hinc]
      exact wC (ih   (by omega) (by omega) hres) rfl

theorem f33_ok {x0 : api_Program} {v0 : PV} (r0 : api_Program.t.R x0 v0) : FnR Tryz.prog 33 [v0] (vb (law16_Small x0)) := by
  refine fnS (R := RF33) text33 (fun _ h => h) rfl fun res hres => ?_
  unfold law16_Small at hres
  refine sR ?_
  refine rd_op (ov_box rfl (TR.cnt api_Program.t r0)) ?_
  refine mB rfl ?_
  refine nS ?_
  refine rc_seq ?_
  refine sR ?_
  refine gL (api_Program.g_Headers r0) rfl rfl rfl fun b6 b4 => ?_
  refine rd_op (ov_bi rfl (sl_len b4 Tryz.underlying22 _)) ?_
  refine bN i_gtr rfl rfl ?_
  refine mV rfl ?_
  refine rd_cutn 5 (d := 16) (v := vb ((decide (20 < (x0.Headers.length : Int))) || (decide (30 < (x0.Metadata.length : Int))))) ?_ ?_
  · intro S Q r
    cases a9 : (decide (20 < (x0.Headers.length : Int)))
    · intro k
      have a2 := a9
      try simp only [qa, qaD] at a2
      obtain ⟨b8, b3, a5⟩ := api_Program.g_Metadata r0
      refine rd_yes rfl rfl (ov_faddr rfl b3) ?_
      refine rd_yes rfl rfl (ov_load rfl (TR.cnt (tSl api_Field.t) a5) (TR.agg (tSl api_Field.t) a5)) ?_
      refine rd_yes rfl rfl (ov_bi rfl (sl_len a5 Tryz.underlying23 _)) ?_
      refine rd_yes rfl rfl (ov_bin rfl rfl i_gtr) ?_
      exact gK rfl rfl rfl rfl rfl k
    · exact gN 4 rfl rfl rfl rfl rfl rfl
  refine mV rfl ?_
  refine rd_cutn 5 (d := 22) (v := vb (((decide (20 < (x0.Headers.length : Int))) || (decide (30 < (x0.Metadata.length : Int)))) || (decide (20 < (x0.Registers.length : Int))))) ?_ ?_
  · intro S Q r
    cases b0 : ((decide (20 < (x0.Headers.length : Int))) || (decide (30 < (x0.Metadata.length : Int))))
    · intro k
      have a4 := b0
      try simp only [qa, qaD] at a4
      obtain ⟨b7, b1, a6⟩ := api_Program.g_Registers r0
      refine rd_yes rfl rfl (ov_faddr rfl b1) ?_
      refine rd_yes rfl rfl (ov_load rfl (TR.cnt (tSl api_Register.t) a6) (TR.agg (tSl api_Register.t) a6)) ?_
      refine rd_yes rfl rfl (ov_bi rfl (sl_len a6 Tryz.underlying24 _)) ?_
      refine rd_yes rfl rfl (ov_bin rfl rfl i_gtr) ?_
      exact gK rfl rfl rfl rfl rfl k
    · exact gN 4 rfl rfl rfl rfl rfl rfl
  refine mV rfl ?_
  refine rd_cutn 5 (d := 28) (v := vb ((((decide (20 < (x0.Headers.length : Int))) || (decide (30 < (x0.Metadata.length : Int)))) || (decide (20 < (x0.Registers.length : Int)))) || (decide (40 < (x0.Actions.length : Int))))) ?_ ?_
  · intro S Q r
    cases a8 : (((decide (20 < (x0.Headers.length : Int))) || (decide (30 < (x0.Metadata.length : Int)))) || (decide (20 < (x0.Registers.length : Int))))
    · intro k
      have a1 := a8
      try simp only [qa, qaD] at a1
      obtain ⟨b5, b2, a7⟩ := api_Program.g_Actions r0
      refine rd_yes rfl rfl (ov_faddr rfl b2) ?_
      refine rd_yes rfl rfl (ov_load rfl (TR.cnt (tSl api_Action.t) a7) (TR.agg (tSl api_Action.t) a7)) ?_
      refine rd_yes rfl rfl (ov_bi rfl (sl_len a7 Tryz.underlying25 _)) ?_
      refine rd_yes rfl rfl (ov_bin rfl rfl i_gtr) ?_
      exact gK rfl rfl rfl rfl rfl k
    · exact gN 4 rfl rfl rfl rfl rfl rfl
  refine nS ?_
  refine rc_br hres rfl ?_ ?_ <;> clear hres <;> intro a0 hres <;> have a3 := a0 <;> try simp only [qa, qaD] at a3
  · refine sR ?_
    refine mB rfl ?_
    refine nS ?_
    exact rR hres rfl rfl rfl
  · refine rc_skip ?_
    refine pn_seq ?_
    refine rc_seq ?_
    refine sR ?_
    refine mI rfl ?_
    refine nS ?_
    refine rc_block ?_
    refine wC (law16_Small_L1_ok r0 a0 ?_  rfl (by omega) hres) rfl
    · intro  hres
      refine px_blk ?_
      refine pn_seq ?_
      refine rc_seq ?_
      refine sR ?_
      refine mI rfl ?_
      refine nS ?_
      refine rc_block ?_
      refine wC (law16_Small_L3_ok r0 a0 ?_  rfl (by omega) hres) rfl
      · intro  hres
        refine px_blk ?_
        refine pn_seq ?_
        refine rc_seq ?_
        refine sR ?_
        refine mI rfl ?_
        refine nS ?_
        refine rc_block ?_
        refine wC (law16_Small_L4_ok r0 a0 ?_  rfl (by omega) hres) rfl
        · intro  hres
          refine px_blk ?_
          refine pn_seq ?_
          refine sR ?_
          refine mB rfl ?_
          refine nS ?_
          exact rR hres rfl rfl rfl

theorem f34_ok : FnR Tryz.prog 34 [] (vb law16_awake) := run34

def RF221 (res : Bool) (r : PV) : Prop := r = vb res
theorem f221_ok {x0 : UInt8} : FnR Tryz.prog 221 [vu8 x0] (vb (lexer_isLetter x0)) := by
  refine fnS (R := RF221) text221 (fun _ h => h) rfl fun res hres => ?_
  unfold lexer_isLetter at hres
  refine sR ?_
  refine mB rfl ?_
  refine nR ?_
  refine mV rfl ?_
  refine rd_op (ov_bin (a := vu8 x0) (b := vu8 (97 : UInt8)) rfl rfl y_geq) ?_
  refine mV rfl ?_
  refine rd_cutn 3 (d := 8) (v := vb ((decide ((97 : UInt8) ≤ x0)) && (decide (x0 ≤ (122 : UInt8))))) ?_ ?_
  · intro S Q r
    cases a3 : (decide ((97 : UInt8) ≤ x0))
    · exact gN 2 rfl rfl rfl rfl rfl rfl
    · intro k
      have a2 := a3
      try simp only [qa, qaD] at a2
      refine rd_yes rfl rfl (ov_move rfl) ?_
      refine rd_yes rfl rfl (ov_bin (a := vu8 x0) (b := vu8 (122 : UInt8)) rfl rfl y_leq) ?_
      exact gK rfl rfl rfl rfl rfl k
  refine mV rfl ?_
  refine rd_cutn 7 (d := 16) (v := vb (((decide ((97 : UInt8) ≤ x0)) && (decide (x0 ≤ (122 : UInt8)))) || ((decide ((65 : UInt8) ≤ x0)) && (decide (x0 ≤ (90 : UInt8)))))) ?_ ?_
  · intro S Q r
    cases a5 : ((decide ((97 : UInt8) ≤ x0)) && (decide (x0 ≤ (122 : UInt8))))
    · intro k
      have a0 := a5
      try simp only [qa, qaD] at a0
      refine rd_yes rfl rfl (ov_move rfl) ?_
      refine rd_yes rfl rfl (ov_bin (a := vu8 x0) (b := vu8 (65 : UInt8)) rfl rfl y_geq) ?_
      refine rd_yes rfl rfl (ov_move rfl) ?_
      refine rd_cutn 3 (d := 15) (v := vb ((decide ((65 : UInt8) ≤ x0)) && (decide (x0 ≤ (90 : UInt8))))) ?_ ?_
      · intro S Q r
        cases a4 : (decide ((65 : UInt8) ≤ x0))
        · intro k
          refine rd_skip rfl rfl ?_
          refine rd_skip rfl rfl ?_
          refine rd_yes (v := vb false) rfl rfl (ov_pick rfl rfl rfl rfl) ?_
          exact wD k rfl
        · intro k
          have a1 := a4
          try simp only [qa, qaD] at a1
          refine rd_yes rfl rfl (ov_move rfl) ?_
          refine rd_yes rfl rfl (ov_bin (a := vu8 x0) (b := vu8 (90 : UInt8)) rfl rfl y_leq) ?_
          refine rd_yes (v := vb (decide (x0 ≤ (90 : UInt8)))) rfl rfl (ov_pick rfl rfl rfl rfl) ?_
          exact wD k rfl
      exact gK rfl rfl rfl rfl rfl k
    · exact gN 6 rfl rfl rfl rfl rfl rfl
  refine mV rfl ?_
  refine nS ?_
  exact rR hres rfl rfl rfl

def RF222 (res : Int) (r : PV) : Prop := r = vi res
theorem lexer_extent_L1_ok {S : List Fr} {res : Int} {x0 : List UInt8} {x1 : UInt8 → Bool} {v1 : PV} (r1 : (tFn Tryz.prog tU8 tB).R x1 v1) (hs : x0.length ≤ 1000) {K0 : Int → Int}
    (b1 : ∀ {a0 : Int}, K0 a0 = res → PX Tryz.prog 0 S (QR Tryz.prog [(4, none)] (RF222 res)) [(5, vi a0)] ⟨0, []⟩) :
    ∀ {m : Nat} {a0 : Int} (b0 : m = Int.toNat ((x0.length : Int) - a0)) (a6 : 0 ≤ a0), lexer_extent_L1 x0 x1 K0 m a0 = res → RC Tryz.prog (.loop ac222_L1) S (QR Tryz.prog [(4, none)] (RF222 res)) [(5, vi a0), (1, v1), (0, vs x0)] ⟨0, []⟩ := by
  intro m
  induction m with
  | zero =>
    intro a0 b0 a6 hres
    rw [lexer_extent_L1] at hres
    refine rc_loop ?_
    refine rc_seq ?_
    refine sR ?_
    refine mV rfl ?_
    refine mV rfl ?_
    refine rd_op (ov_bi rfl (str_len Tryz.underlying9)) ?_
    refine bN i_lss rfl rfl ?_
    refine mV rfl ?_
    refine rd_cutn 6 (d := 16) (v := vb ((decide (a0 < (x0.length : Int))) && (x1 (ix x0 a0)))) ?_ ?_
    · intro S Q r
      cases a5 : (decide (a0 < (x0.length : Int)))
      · exact gN 5 rfl rfl rfl rfl rfl rfl
      · intro k
        have a1 := a5
        try simp only [qa, qaD] at a1
        refine rd_yes rfl rfl (ov_move rfl) ?_
        refine rd_yes rfl rfl (ov_move rfl) ?_
        refine rd_yes rfl rfl (ov_move rfl) ?_
        refine rd_yes rfl rfl (ov_indexS rfl rfl (str_idx Tryz.underlying9 (by omega) (by omega))) ?_
        refine rd_ycallF rfl rfl rfl r1 rfl (show tU8.R (ix x0 a0) (vu8 (ix x0 a0)) from rfl) (fun a9 a2 => ?_)
        have a2 : a9 = vb (x1 (ix x0 a0)) := a2; subst a2
        exact gK rfl rfl rfl rfl rfl k
    refine nS ?_
    refine rc_cond rfl ?_ ?_ <;> intro c <;> try simp only [qa, qaD] at c
    · omega
    refine rc_exit ?_
    refine px_seq ?_
    refine px_again ?_
    exact wP (b1  hres) rfl
  | succ m ih =>
    intro a0 b0 a6 hres
    rw [lexer_extent_L1] at hres
    refine rc_loop ?_
    refine rc_seq ?_
    refine sR ?_
    refine mV rfl ?_
    refine mV rfl ?_
    refine rd_op (ov_bi rfl (str_len Tryz.underlying9)) ?_
    refine bN i_lss rfl rfl ?_
    refine mV rfl ?_
    refine rd_cutn 6 (d := 16) (v := vb ((decide (a0 < (x0.length : Int))) && (x1 (ix x0 a0)))) ?_ ?_
    · intro S Q r
      cases a7 : (decide (a0 < (x0.length : Int)))
      · exact gN 5 rfl rfl rfl rfl rfl rfl
      · intro k
        have a3 := a7
        try simp only [qa, qaD] at a3
        refine rd_yes rfl rfl (ov_move rfl) ?_
        refine rd_yes rfl rfl (ov_move rfl) ?_
        refine rd_yes rfl rfl (ov_move rfl) ?_
        refine rd_yes rfl rfl (ov_indexS rfl rfl (str_idx Tryz.underlying9 (by omega) (by omega))) ?_
        refine rd_ycallF rfl rfl rfl r1 rfl (show tU8.R (ix x0 a0) (vu8 (ix x0 a0)) from rfl) (fun a8 a4 => ?_)
        have a4 : a8 = vb (x1 (ix x0 a0)) := a4; subst a4
        exact gK rfl rfl rfl rfl rfl k
    refine nS ?_
    refine rc_br hres rfl ?_ ?_ <;> clear hres <;> intro c hres <;> try simp only [qa, qaD] at c
    · refine rc_skip ?_
      refine pn_seq ?_
      refine rc_block ?_
      refine rc_region ?_
      refine mV rfl ?_
      refine bN i_add rfl rfl ?_
      refine mV rfl ?_
      refine rd_nil ?_
      refine pn_blk ?_
      refine pn_again ?_
      have hinc : wr (a0 + 1) = a0 + 1 := wr_of (by omega) (by omega)
      erw [hinc]
      exact wC (ih   (by omega) (by omega) hres) rfl
    · refine rc_exit ?_
      refine px_seq ?_
      refine px_again ?_
      exact wP (b1  hres) rfl

theorem f222_ok {x0 : List UInt8} {x1 : UInt8 → Bool} {v1 : PV} (r1 : (tFn Tryz.prog tU8 tB).R x1 v1) (hs : x0.length ≤ 1000) : FnR Tryz.prog 222 [vs x0, v1] (vi (lexer_extent x0 x1)) := by
  refine fnS (R := RF222) text222 (fun _ h => h) rfl fun res hres => ?_
  unfold lexer_extent at hres
  refine sR ?_
  refine mI rfl ?_
  refine nR ?_
  refine mI rfl ?_
  refine nS ?_
  refine rc_seq ?_
  refine rc_block ?_
  refine wC (lexer_extent_L1_ok r1 hs ?_  rfl (by omega) hres) rfl
  · intro a0 hres
    refine px_blk ?_
    refine pn_seq ?_
    refine sR ?_
    refine mV rfl ?_
    refine mV rfl ?_
    refine nS ?_
    exact rR hres rfl rfl rfl

def RF224 (res : Bool) (r : PV) : Prop := r = vb res
theorem f224_ok {x0 : UInt8} : FnR Tryz.prog 224 [vu8 x0] (vb (lexer_isDigit x0)) := by
  refine fnS (R := RF224) text224 (fun _ h => h) rfl fun res hres => ?_
  unfold lexer_isDigit at hres
  refine sR ?_
  refine mB rfl ?_
  refine nR ?_
  refine mV rfl ?_
  refine rd_op (ov_bin (a := vu8 x0) (b := vu8 (48 : UInt8)) rfl rfl y_geq) ?_
  refine mV rfl ?_
  refine rd_cutn 3 (d := 8) (v := vb ((decide ((48 : UInt8) ≤ x0)) && (decide (x0 ≤ (57 : UInt8))))) ?_ ?_
  · intro S Q r
    cases a1 : (decide ((48 : UInt8) ≤ x0))
    · exact gN 2 rfl rfl rfl rfl rfl rfl
    · intro k
      have a0 := a1
      try simp only [qa, qaD] at a0
      refine rd_yes rfl rfl (ov_move rfl) ?_
      refine rd_yes rfl rfl (ov_bin (a := vu8 x0) (b := vu8 (57 : UInt8)) rfl rfl y_leq) ?_
      exact gK rfl rfl rfl rfl rfl k
  refine mV rfl ?_
  refine nS ?_
  exact rR hres rfl rfl rfl

def RF223 (res : Bool) (r : PV) : Prop := r = vb res
theorem f223_ok {x0 : UInt8} : FnR Tryz.prog 223 [vu8 x0] (vb (lexer_IsIdentifier_1 x0)) := by
  refine fnS (R := RF223) text223 (fun _ h => h) rfl fun res hres => ?_
  unfold lexer_IsIdentifier_1 at hres
  refine sR ?_
  refine mB rfl ?_
  refine nR ?_
  refine mV rfl ?_
  obtain ⟨a0, a4, hres⟩ := let_ex hres
  have a3 := f221_ok (x0 := x0)  
  rw [a4] at a3
  refine cL a3 rfl rfl (clL_cons rfl clL_nil) ?_
  refine mV rfl ?_
  refine rd_cutn 3 (d := 8) (v := vb (a0 || (lexer_isDigit x0))) ?_ ?_
  · intro S Q r
    cases a5 : a0
    · intro k
      have a1 := a5
      try simp only [qa, qaD] at a1
      refine rd_yes rfl rfl (ov_move rfl) ?_
      have a7 := f224_ok (x0 := x0)  
      refine rd_ycall rfl rfl (cv_fn rfl rfl (clL_cons rfl clL_nil) a7) ?_
      exact gK rfl rfl rfl rfl rfl k
    · exact gN 2 rfl rfl rfl rfl rfl rfl
  refine mV rfl ?_
  refine rd_cutn 3 (d := 12) (v := vb ((a0 || (lexer_isDigit x0)) || (decide (x0 = (95 : UInt8))))) ?_ ?_
  · intro S Q r
    cases a6 : (a0 || (lexer_isDigit x0))
    · intro k
      have a2 := a6
      try simp only [qa, qaD] at a2
      refine rd_yes rfl rfl (ov_move rfl) ?_
      refine rd_yes rfl rfl (ov_bin (a := vu8 x0) (b := vu8 (95 : UInt8)) rfl rfl y_eql) ?_
      exact gK rfl rfl rfl rfl rfl k
    · exact gN 2 rfl rfl rfl rfl rfl rfl
  refine mV rfl ?_
  refine nS ?_
  exact rR hres rfl rfl rfl

theorem tfn223 : (tFn Tryz.prog tU8 tB).R lexer_IsIdentifier_1 (.fn (.func 223) [] []) := tFn_of fun a va ra => by obtain rfl := ra; exact ⟨_, f223_ok, rfl⟩

def RF169 (res : Bool) (r : PV) : Prop := r = vb res
theorem f169_ok {x0 : List UInt8} : FnR Tryz.prog 169 [vs x0] (vb (lexer_IsIdentifier x0)) := by
  refine fnS (R := RF169) text169 (fun _ h => h) rfl fun res hres => ?_
  unfold lexer_IsIdentifier at hres
  refine sR ?_
  refine mB rfl ?_
  refine nS ?_
  refine rc_seq ?_
  refine sR ?_
  refine mV rfl ?_
  refine rd_op (ov_bi rfl (str_len Tryz.underlying9)) ?_
  refine bN i_eql rfl rfl ?_
  refine mV rfl ?_
  refine rd_cutn 4 (d := 10) (v := vb ((decide ((x0.length : Int) = 0)) || (decide (16 < (x0.length : Int))))) ?_ ?_
  · intro S Q r
    cases a3 : (decide ((x0.length : Int) = 0))
    · intro k
      have a0 := a3
      try simp only [qa, qaD] at a0
      refine rd_yes rfl rfl (ov_move rfl) ?_
      refine rd_yes rfl rfl (ov_bi rfl (str_len Tryz.underlying9)) ?_
      refine rd_yes rfl rfl (ov_bin rfl rfl i_gtr) ?_
      exact gK rfl rfl rfl rfl rfl k
    · exact gN 3 rfl rfl rfl rfl rfl rfl
  refine mV rfl ?_
  refine rd_cutn 5 (d := 16) (v := vb (((decide ((x0.length : Int) = 0)) || (decide (16 < (x0.length : Int)))) || (!(lexer_isLetter (ix x0 0))))) ?_ ?_
  · intro S Q r
    cases a5 : ((decide ((x0.length : Int) = 0)) || (decide (16 < (x0.length : Int))))
    · intro k
      have a1 := a5
      try simp only [qa, qaD] at a1
      refine rd_yes rfl rfl (ov_move rfl) ?_
      refine rd_yes rfl rfl (ov_indexS rfl rfl (str_idx (i := 0) Tryz.underlying9 (by omega) (by omega))) ?_
      have a6 := f221_ok (x0 := (ix x0 0))  
      refine rd_ycall rfl rfl (cv_fn rfl rfl (clL_cons rfl clL_nil) a6) ?_
      refine rd_yes rfl rfl (ov_not rfl) ?_
      exact gK rfl rfl rfl rfl rfl k
    · exact gN 4 rfl rfl rfl rfl rfl rfl
  refine nS ?_
  refine rc_br hres rfl ?_ ?_ <;> clear hres <;> intro c hres <;> try simp only [qa, qaD] at c
  · refine sR ?_
    refine mB rfl ?_
    refine nS ?_
    exact rR hres rfl rfl rfl
  · refine rc_skip ?_
    refine pn_seq ?_
    refine sR ?_
    refine mV rfl ?_
    obtain ⟨a7, a4, hres⟩ := let_ex hres
    have a2 := f222_ok (x0 := x0) tfn223 (by first | assumption | omega | (rw [wr_of (by omega) (by omega)]; omega) | (have hk := rval rfl (And.right (And.left (by assumption))); omega) | (have hk := rval (by assumption) (by assumption); omega) | (have hk := rval (by assumption) (And.left (by assumption)); omega) | (have hk := rval (by assumption) (And.left (And.left (by assumption))); have hz := rslc (by assumption); omega) | (simp; done) | (simp only [List.length_append, List.length_nil, List.length_cons]; omega) | (have hk := (chk_ok (by assumption) (by assumption)).1; omega) | (simp only [List.length_cons, List.length_nil]; omega) | (simp only [List.length_append]; have hk := (chk_ok (by assumption) (by assumption)).1; omega) | (simp only [List.length_append, List.length_nil]; have hk := (chk_ok (by assumption) (by assumption)).1; omega))
    rw [a4] at a2
    refine cL a2 rfl rfl (clL_cons rfl (clL_cons rfl clL_nil)) ?_
    refine mV rfl ?_
    refine rd_op (ov_bi rfl (str_len Tryz.underlying9)) ?_
    refine bN i_eql rfl rfl ?_
    refine mV rfl ?_
    refine nS ?_
    exact rR hres rfl rfl rfl

def RF171 (res : Bool) (r : PV) : Prop := r = vb res
theorem f171_ok {x0 : api_Field} {c0 : api_Field} {v0 w0 : PV} (r0 : api_Field.t.R x0 v0) (a0 : api_Field.t.R c0 w0) : FnR Tryz.prog 171 [v0, .fp w0] (vb (action_declaration_1 x0 c0)) := by
  refine fnS (R := RF171) text171 (fun _ h => h) rfl fun res hres => ?_
  unfold action_declaration_1 at hres
  refine sR ?_
  refine rd_op (ov_box rfl (TR.cnt api_Field.t r0)) ?_
  refine mB rfl ?_
  refine nR ?_
  refine fL rfl (api_Field.g_Name r0) rfl rfl ?_
  refine fL rfl (api_Field.g_Name a0) rfl rfl ?_
  refine rd_op (ov_bin (a := vs x0.Name) (b := vs c0.Name) rfl rfl str_eql) ?_
  refine mV rfl ?_
  refine nS ?_
  exact rR hres rfl rfl rfl

def RF225 (res : Int) (r : PV) : Prop := r = vi res
theorem slices_IndexFunc__api_Field_api_Field__L1_ok {S : List Fr} {res : Int} {x0 : List api_Field} {x1 : api_Field → Bool} {v0 v1 : PV} (r0 : (tSl api_Field.t).R x0 v0) (r1 : (tFn Tryz.prog api_Field.t tB).R x1 v1) {K0 : Unit → Int}
    (a8 : K0 () = res → PX Tryz.prog 0 S (QR Tryz.prog [(4, none)] (RF225 res)) [] ⟨0, []⟩) :
    ∀ {m : Nat} {a0 : Int} (a7 : m = Int.toNat ((x0.length : Int) - a0)) (a3 : 0 ≤ a0), slices_IndexFunc__api_Field_api_Field__L1 x0 x1 K0 m a0 = res → RC Tryz.prog (.loop ac225_L1) S (QR Tryz.prog [(4, none)] (RF225 res)) [(8, vi a0), (7, vi (x0.length : Int)), (1, v1), (0, v0)] ⟨0, []⟩ := by
  intro m
  induction m with
  | zero =>
    intro a0 a7 a3 hres
    rw [slices_IndexFunc__api_Field_api_Field__L1] at hres
    refine rc_loop ?_
    refine sR ?_
    refine bN i_lss rfl rfl ?_
    refine nS ?_
    refine rc_seq ?_
    refine rc_cond rfl ?_ ?_ <;> intro c <;> try simp only [qa, qaD] at c
    · omega
    refine rc_exit ?_
    refine px_seq ?_
    refine px_again ?_
    exact wP (a8  hres) rfl
  | succ m ih =>
    intro a0 a7 a3 hres
    rw [slices_IndexFunc__api_Field_api_Field__L1] at hres
    refine rc_loop ?_
    refine sR ?_
    refine bN i_lss rfl rfl ?_
    refine nS ?_
    refine rc_seq ?_
    refine rc_cond rfl ?_ ?_ <;> intro c <;> try simp only [qa, qaD] at c
    rotate_left
    · omega
    refine rc_skip ?_
    refine pn_seq ?_
    refine rc_seq ?_
    refine rc_block ?_
    refine sR ?_
    refine mV rfl ?_
    refine mV rfl ?_
    refine nR ?_
    refine mV rfl ?_
    refine mV rfl ?_
    refine mV rfl ?_
    obtain ⟨a6, a4, a2⟩ := sl_idx (i := a0) r0 (by omega) (by omega)
    refine rd_op (ov_iaddr rfl rfl a4) ?_
    refine lD a2 rfl rfl rfl ?_
    refine rd_callF rfl r1 rfl (show api_Field.t.R (ix x0 a0) a6 from a2) (fun a5 a1 => ?_)
    have a1 : a5 = vb (x1 (ix x0 a0)) := a1; subst a1
    refine nS ?_
    refine rc_br hres rfl ?_ ?_ <;> clear hres <;> intro c hres <;> try simp only [qa, qaD] at c
    · refine sR ?_
      refine mV rfl ?_
      refine mV rfl ?_
      refine nS ?_
      exact rR hres rfl rfl rfl
    · refine rc_skip ?_
      refine pn_blk ?_
      refine pn_seq ?_
      refine rc_region ?_
      refine bN i_add rfl rfl ?_
      refine mV rfl ?_
      refine rd_nil ?_
      refine pn_again ?_
      have hbd := sl_bound r0
      have hinc : wr (a0 + 1) = a0 + 1 := wr_of (by omega) (by omega)
      erw [hinc]
      exact wC (ih   (by omega) (by omega) hres) rfl

theorem f225_ok {x0 : List api_Field} {x1 : api_Field → Bool} {v0 v1 : PV} (r0 : (tSl api_Field.t).R x0 v0) (r1 : (tFn Tryz.prog api_Field.t tB).R x1 v1) : FnR Tryz.prog 225 [v0, v1] (vi (slices_IndexFunc__api_Field_api_Field_ x0 x1)) := by
  refine fnS (R := RF225) text225 (fun _ h => h) rfl fun res hres => ?_
  unfold slices_IndexFunc__api_Field_api_Field_ at hres
  refine sR ?_
  refine mI rfl ?_
  refine nS ?_
  refine rc_seq ?_
  refine sR ?_
  refine mV rfl ?_
  refine rd_op (ov_bi rfl (sl_len r0 Tryz.underlying23 _)) ?_
  refine mI rfl ?_
  refine nS ?_
  refine rc_block ?_
  refine wC (slices_IndexFunc__api_Field_api_Field__L1_ok r0 r1 ?_  rfl (by omega) hres) rfl
  · intro  hres
    refine px_blk ?_
    refine pn_seq ?_
    refine sR ?_
    refine mI rfl ?_
    refine nS ?_
    exact rR hres rfl rfl rfl

def RF170 (res : Bool) (r : PV) : Prop := r = vb res
theorem f170_ok {x0 : List api_Field} {x1 : api_Field → Bool} {v0 v1 : PV} (r0 : (tSl api_Field.t).R x0 v0) (r1 : (tFn Tryz.prog api_Field.t tB).R x1 v1) : FnR Tryz.prog 170 [v0, v1] (vb (slices_ContainsFunc__api_Field_api_Field_ x0 x1)) := by
  refine fnS (R := RF170) text170 (fun _ h => h) rfl fun res hres => ?_
  unfold slices_ContainsFunc__api_Field_api_Field_ at hres
  refine sR ?_
  refine mB rfl ?_
  refine nR ?_
  refine mV rfl ?_
  refine mV rfl ?_
  obtain ⟨a2, a1, hres⟩ := let_ex hres
  have a0 := f225_ok  r0 r1 
  rw [a1] at a0
  refine cL a0 rfl rfl (clL_cons (TR.clo (tSl api_Field.t) r0) (clL_cons (TR.clo (tFn Tryz.prog api_Field.t tB) r1) clL_nil)) ?_
  refine bN i_geq rfl rfl ?_
  refine mV rfl ?_
  refine nS ?_
  exact rR hres rfl rfl rfl

def RF103 (res : Int) (r : PV) : Prop := r = vi res
theorem action_declaration_L1_ok {S : List Fr} {res : Int} {x0 : api_Action} {c4 : Bool} {v0 a4 : PV} (r0 : api_Action.t.R x0 v0) (d4 : lexer_IsIdentifier x0.Name = c4) (b3 : (!c4) = false) (b5 : ((decide (4 < (x0.Params.length : Int))) || (decide (12 < (x0.Body.length : Int)))) = false) (c1 : (tSl api_Field.t).R x0.Params a4) {K1 : Unit → Int}
    (d6 : ∀ {h : Heap} (M0 : Mem h []), K1 () = res → PX Tryz.prog 1 S (QR Tryz.prog [(2, none)] (RF103 res)) [] h) :
    ∀ {m : Nat} {a0 : Int} (d3 : m = Int.toNat ((x0.Params.length : Int) - a0)) (c3 : 0 ≤ a0) {h : Heap} (M0 : Mem h []), action_declaration_L1 x0 K1 m a0 = res → RC Tryz.prog (.loop ac103_L1) S (QR Tryz.prog [(2, none)] (RF103 res)) [(24, vi a0), (23, vi (x0.Params.length : Int)), (22, a4), (1, .fp v0)] h := by
  have a7 := b3
  try simp only [qa, qaD] at a7
  have a9 := b5
  try simp only [qa, qaD] at a9
  intro m
  induction m with
  | zero =>
    intro a0 d3 c3 h M0 hres
    rw [action_declaration_L1] at hres
    refine rc_loop ?_
    refine sR ?_
    refine bN i_lss rfl rfl ?_
    refine nS ?_
    refine rc_seq ?_
    refine rc_cond rfl ?_ ?_ <;> intro c <;> try simp only [qa, qaD] at c
    · omega
    refine rc_exit ?_
    refine px_seq ?_
    refine px_again ?_
    exact wP (d6 (Mem.sub M0 .slnil) hres) rfl
  | succ m ih =>
    intro a0 d3 c3 h M0 hres
    rw [action_declaration_L1] at hres
    refine rc_loop ?_
    refine sR ?_
    refine bN i_lss rfl rfl ?_
    refine nS ?_
    refine rc_seq ?_
    refine rc_cond rfl ?_ ?_ <;> intro c <;> try simp only [qa, qaD] at c
    rotate_left
    · omega
    refine rc_skip ?_
    refine pn_seq ?_
    refine rc_seq ?_
    refine rc_block ?_
    refine sR ?_
    refine mV rfl ?_
    obtain ⟨a1, c8, a3⟩ := sl_idx (i := a0) c1 (by omega) (by omega)
    refine rd_op (ov_iaddr rfl rfl c8) ?_
    refine lD a3 rfl rfl rfl ?_
    refine rd_allocO (x := .agg [vs [], vi 0]) M0 rfl rfl (fun c5 d1 d7 d2 => ?_)
    refine mV rfl ?_
    refine rd_storeO (k := 0) (v := a1) d2 rfl rfl rfl (TR.cnt api_Field.t a3) (fun d0 a5 => ?_)
    replace a5 : Mem d0 [⟨.op c5 d1 0, 166, 2, [a1]⟩] := a5
    refine nS ?_
    refine rc_block ?_
    refine rc_seq ?_
    refine rc_regionS ?_
    refine rs_step ?_
    refine rd_op (ov_faddrO rfl) ?_
    refine rs_back ?_
    refine rs_step ?_
    refine rd_op (ov_loadf (k := 0) a5 rfl rfl (api_Field.g_Name a3)) ?_
    refine rs_back ?_
    refine rs_step ?_
    obtain ⟨a2, b8, hres⟩ := let_ex hres
    have c0 := f169_ok (x0 := (ix x0.Params a0).Name)  
    rw [b8] at c0
    refine cL c0 rfl rfl (clL_cons rfl clL_nil) ?_
    refine rs_back ?_
    refine rs_step ?_
    refine rd_op (ov_not rfl) ?_
    refine rs_back ?_
    refine rs_step ?_
    refine mV rfl ?_
    refine rs_back ?_
    refine rs_freezeP (k := 0) (E' := [(29, vb (!a2)), (33, vb (!a2)), (32, vb a2), (31, vs ((ix x0.Params a0).Name)), (3, vi a0), (4, .fp a1), (28, a1), (27, .fp a1), (26, vi a0), (25, vb (decide (a0 < (x0.Params.length : Int)))), (24, vi a0), (23, vi (x0.Params.length : Int)), (22, a4), (1, .fp v0)]) a5 rfl (frz_keep rfl (frz_keep rfl (frz_keep rfl (frz_keep rfl (frz_keep rfl (frz_turn rfl (frz_keep rfl (frz_keep rfl (frz_keep rfl (frz_keep rfl (frz_keep rfl (frz_keep rfl (frz_keep rfl (frz_keep rfl frz_nil)))))))))))))) (fun b1 b0 => ?_)
    replace b0 : Mem b1 [] := b0
    refine rs_nil ?_
    refine pn_seq ?_
    refine rc_br hres rfl ?_ ?_ <;> clear hres <;> intro c hres <;> try simp only [qa, qaD] at c
    · refine sR ?_
      refine mI rfl ?_
      refine nS ?_
      exact rR hres rfl rfl rfl
    · refine sR ?_
      refine fL rfl (api_Field.g_Width a3) rfl rfl ?_
      refine bN i_lss rfl rfl ?_
      refine mV rfl ?_
      refine rd_cutn 4 (d := 42) (v := vb ((decide (((ix x0.Params a0).Width) < 1)) || (decide (32 < ((ix x0.Params a0).Width))))) ?_ ?_
      · intro S Q r
        cases b2 : (decide (((ix x0.Params a0).Width) < 1))
        · intro k
          have a8 := b2
          try simp only [qa, qaD] at a8
          refine rd_yes rfl rfl (ov_faddr rfl (api_Field.g_Width a3)) ?_
          refine rd_yes rfl rfl (ov_load rfl rfl rfl) ?_
          refine rd_yes rfl rfl (ov_bin rfl rfl i_gtr) ?_
          exact gK rfl rfl rfl rfl rfl k
        · exact gN 3 rfl rfl rfl rfl rfl rfl
      refine mV rfl ?_
      refine nS ?_
      refine rc_br hres rfl ?_ ?_ <;> clear hres <;> intro c hres <;> try simp only [qa, qaD] at c
      · refine sR ?_
        refine mI rfl ?_
        refine nS ?_
        exact rR hres rfl rfl rfl
      · refine sR ?_
        obtain ⟨a6, c7, b9⟩ := api_Action.g_Params r0
        refine fA rfl c7 ?_
        refine lD b9 rfl rfl rfl ?_
        refine mV rfl ?_
        refine rd_weak (E0 := [(46, vi a0), (45, a6), (44, .fp a6), (34, vb ((decide (((ix x0.Params a0).Width) < 1)) || (decide (32 < ((ix x0.Params a0).Width))))), (42, vb ((decide (((ix x0.Params a0).Width) < 1)) || (decide (32 < ((ix x0.Params a0).Width))))), (38, vb (decide (((ix x0.Params a0).Width) < 1))), (37, vb (decide (((ix x0.Params a0).Width) < 1))), (36, vi ((ix x0.Params a0).Width)), (35, .fp (vi ((ix x0.Params a0).Width))), (29, vb (!a2)), (33, vb (!a2)), (32, vb a2), (31, vs ((ix x0.Params a0).Name)), (3, vi a0), (4, .fp a1), (28, a1), (27, .fp a1), (26, vi a0), (25, vb (decide (a0 < (x0.Params.length : Int)))), (24, vi a0), (23, vi (x0.Params.length : Int)), (22, a4), (1, .fp v0)]) (sB rfl) ?_
        obtain ⟨c6, c9, b6⟩ := sl_sub (P := Tryz.prog) (hf := false) (E := [(46, vi a0), (45, a6), (44, .fp a6), (34, vb ((decide (((ix x0.Params a0).Width) < 1)) || (decide (32 < ((ix x0.Params a0).Width))))), (42, vb ((decide (((ix x0.Params a0).Width) < 1)) || (decide (32 < ((ix x0.Params a0).Width))))), (38, vb (decide (((ix x0.Params a0).Width) < 1))), (37, vb (decide (((ix x0.Params a0).Width) < 1))), (36, vi ((ix x0.Params a0).Width)), (35, .fp (vi ((ix x0.Params a0).Width))), (29, vb (!a2)), (33, vb (!a2)), (32, vb a2), (31, vs ((ix x0.Params a0).Name)), (3, vi a0), (4, .fp a1), (28, a1), (27, .fp a1), (26, vi a0), (25, vb (decide (a0 < (x0.Params.length : Int)))), (24, vi a0), (23, vi (x0.Params.length : Int)), (22, a4), (1, .fp v0)]) (h := b1) (t := api_Field.t) (tt := 23) (x := (.tmp 45)) (lo := none) (hi := (some (.tmp 46))) (a := 0) (b := a0) b9 rfl rfl rfl (show 0 ≤ 0 by omega) (show 0 ≤ a0 by omega) (show a0 ≤ (x0.Params.length : Int) by omega) (fun ad => by kernel_rfl)
        have d5 := sub_len (l := x0.Params) (show 0 ≤ 0 by omega) (show 0 ≤ a0 by omega) (show a0 ≤ (x0.Params.length : Int) by omega)
        refine rd_op (v := c6) (c9) ?_
        have c2 : (tFn Tryz.prog api_Field.t tB).R (fun a_ => action_declaration_1 a_ (ix x0.Params a0)) (.fn (.func 171) [] [.fp a1]) := tFn_ofC (clL_cons (clo_fp (TR.clo api_Field.t a3)) clL_nil) fun a va ra => by exact ⟨_, f171_ok  ra a3 , rfl⟩
        refine rd_op (v := .fn (.func 171) [] [.fp a1]) (ov_mkFunc rfl rfl) ?_
        obtain ⟨d8, b4, hres⟩ := let_ex hres
        have b7 := f170_ok  b6 c2 
        rw [b4] at b7
        refine cL b7 rfl rfl (clL_cons (TR.clo (tSl api_Field.t) b6) (clL_cons (TR.clo (tFn Tryz.prog api_Field.t tB) c2) clL_nil)) ?_
        refine mV rfl ?_
        refine nS ?_
        refine rc_br hres rfl ?_ ?_ <;> clear hres <;> intro c hres <;> try simp only [qa, qaD] at c
        · refine sR ?_
          refine mI rfl ?_
          refine nS ?_
          exact rR hres rfl rfl rfl
        · refine rc_skip ?_
          refine pn_blk ?_
          refine pn_blk ?_
          refine pn_seq ?_
          refine rc_region ?_
          refine bN i_add rfl rfl ?_
          refine mV rfl ?_
          refine rd_nil ?_
          refine pn_again ?_
          have hbd := sl_bound c1
          have hinc : wr (a0 + 1) = a0 + 1 := wr_of (by omega) (by omega)
          erw [hinc]
          exact wC (ih   (by omega) (by omega) (Mem.sub b0 .slnil) hres) rfl

theorem f103_ok {x0 : api_Action} {v0 : PV} (r0 : api_Action.t.R x0 v0) : FnR Tryz.prog 103 [v0] (vi (action_declaration x0)) := by
  refine fnS (R := RF103) text103 (fun _ h => h) rfl fun res hres => ?_
  unfold action_declaration at hres
  refine sR ?_
  refine rd_op (ov_box rfl (TR.cnt api_Action.t r0)) ?_
  refine mI rfl ?_
  refine nS ?_
  refine rc_seq ?_
  refine rc_block ?_
  refine sR ?_
  refine fL rfl (api_Action.g_Name r0) rfl rfl ?_
  obtain ⟨b7, a0, hres⟩ := let_ex hres
  have a7 := f169_ok (x0 := x0.Name)  
  rw [a0] at a7
  refine cL a7 rfl rfl (clL_cons rfl clL_nil) ?_
  refine rd_op (ov_not rfl) ?_
  refine mV rfl ?_
  refine nS ?_
  refine rc_br hres rfl ?_ ?_ <;> clear hres <;> intro a1 hres <;> have a3 := a1 <;> try simp only [qa, qaD] at a3
  · refine sR ?_
    refine mI rfl ?_
    refine nS ?_
    exact rR hres rfl rfl rfl
  · refine sR ?_
    refine gL (api_Action.g_Params r0) rfl rfl rfl fun b6 b1 => ?_
    refine rd_op (ov_bi rfl (sl_len b1 Tryz.underlying23 _)) ?_
    refine bN i_gtr rfl rfl ?_
    refine mV rfl ?_
    refine rd_cutn 5 (d := 20) (v := vb ((decide (4 < (x0.Params.length : Int))) || (decide (12 < (x0.Body.length : Int))))) ?_ ?_
    · intro S Q r
      cases a9 : (decide (4 < (x0.Params.length : Int)))
      · intro k
        have a5 := a9
        try simp only [qa, qaD] at a5
        obtain ⟨b4, b0, a6⟩ := api_Action.g_Body r0
        refine rd_yes rfl rfl (ov_faddr rfl b0) ?_
        refine rd_yes rfl rfl (ov_load rfl (TR.cnt (tSl api_Statement.t) a6) (TR.agg (tSl api_Statement.t) a6)) ?_
        refine rd_yes rfl rfl (ov_bi rfl (sl_len a6 Tryz.underlying95 _)) ?_
        refine rd_yes rfl rfl (ov_bin rfl rfl i_gtr) ?_
        exact gK rfl rfl rfl rfl rfl k
      · exact gN 4 rfl rfl rfl rfl rfl rfl
    refine mV rfl ?_
    refine nS ?_
    refine rc_br hres rfl ?_ ?_ <;> clear hres <;> intro a2 hres <;> have a4 := a2 <;> try simp only [qa, qaD] at a4
    · refine sR ?_
      refine mI rfl ?_
      refine nS ?_
      exact rR hres rfl rfl rfl
    · refine rc_skip ?_
      refine pn_blk ?_
      refine pn_seq ?_
      refine rc_seq ?_
      refine sR ?_
      refine gL (api_Action.g_Params r0) rfl rfl rfl fun b3 a8 => ?_
      refine rd_op (ov_bi rfl (sl_len a8 Tryz.underlying23 _)) ?_
      refine mI rfl ?_
      refine nS ?_
      refine rc_block ?_
      refine wC (action_declaration_L1_ok r0 a0 a1 a2 a8 ?_  rfl (by omega) (Mem.sub (Mem.nil ⟨0, []⟩) .slnil) hres) rfl
      · intro b2 b5 hres
        refine px_blk ?_
        refine pn_seq ?_
        refine sR ?_
        refine mI rfl ?_
        refine nS ?_
        exact rR hres rfl rfl rfl

def RF172 (res : Int × Bool) (r : PV) : Prop := r = .tup [vi res.1, vb res.2]
theorem f172_ok {x0 : api_Program} {x1 : api_FieldRef} {v0 v1 : PV} (r0 : api_Program.t.R x0 v0) (r1 : api_FieldRef.t.R x1 v1) : FnR Tryz.prog 172 [v0, v1] (.tup [vi ((action_width x0 x1).1), vb ((action_width x0 x1).2)]) := by
  refine fnS (R := RF172) text172 (fun _ h => h) rfl fun res hres => ?_
  unfold action_width at hres
  refine sR ?_
  refine rd_op (ov_box rfl (TR.cnt api_Program.t r0)) ?_
  refine rd_op (ov_box rfl (TR.cnt api_FieldRef.t r1)) ?_
  refine mI rfl ?_
  refine mB rfl ?_
  refine nR ?_
  refine gL (api_Program.g_Metadata r0) rfl rfl rfl fun b9 b2 => ?_
  refine mV rfl ?_
  refine nS ?_
  refine rc_seq ?_
  refine sR ?_
  refine fL rfl (api_FieldRef.g_Header r1) rfl rfl ?_
  refine bN (i_neq (b := -1)) rfl rfl ?_
  refine nS ?_
  obtain ⟨b7, a8, hres⟩ := let_ex hres
  refine rc_join (F := fun b S Q => ∀ (a0 : List api_Field) (a1 : PV) (a2 : (tSl api_Field.t).R a0 a1), b7 a0 = res → RC Tryz.prog b S Q [(6, a1), (3, .fp v1)] ⟨0, []⟩) ?_ ?_
  · intro a0 a1 a2  hres
    rw [← a8] at hres
    refine rc_seq ?_
    refine sR ?_
    refine fL rfl (api_FieldRef.g_Field r1) rfl rfl ?_
    refine bN i_lss rfl rfl ?_
    refine mV rfl ?_
    refine rd_cutn 6 (d := 39) (v := vb ((decide (x1.Field < 0)) || (decide ((a0.length : Int) ≤ x1.Field)))) ?_ ?_
    · intro S Q r
      cases a6 : (decide (x1.Field < 0))
      · intro k
        have a3 := a6
        try simp only [qa, qaD] at a3
        refine rd_yes rfl rfl (ov_faddr rfl (api_FieldRef.g_Field r1)) ?_
        refine rd_yes rfl rfl (ov_load rfl rfl rfl) ?_
        refine rd_yes rfl rfl (ov_move rfl) ?_
        refine rd_yes rfl rfl (ov_bi rfl (sl_len a2 Tryz.underlying23 _)) ?_
        refine rd_yes rfl rfl (ov_bin rfl rfl i_geq) ?_
        exact gK rfl rfl rfl rfl rfl k
      · exact gN 5 rfl rfl rfl rfl rfl rfl
    refine nS ?_
    refine rc_br hres rfl ?_ ?_ <;> clear hres <;> intro c hres <;> try simp only [qa, qaD] at c
    · refine sR ?_
      refine mI rfl ?_
      refine mB rfl ?_
      refine nS ?_
      exact rT hres rfl rfl rfl rfl rfl
    · refine rc_skip ?_
      refine pn_seq ?_
      refine sR ?_
      refine mV rfl ?_
      refine fL rfl (api_FieldRef.g_Field r1) rfl rfl ?_
      obtain ⟨c2, b4, a9⟩ := sl_idx (i := x1.Field) a2 (by omega) (by omega)
      refine rd_op (ov_iaddr rfl rfl b4) ?_
      refine fL rfl (api_Field.g_Width a9) rfl rfl ?_
      refine mV rfl ?_
      refine mB rfl ?_
      refine nS ?_
      exact rT hres rfl rfl rfl rfl rfl
  · intro J
    refine rc_br hres rfl ?_ ?_ <;> clear hres <;> intro c hres <;> try simp only [qa, qaD] at c
    · refine rc_seq ?_
      refine sR ?_
      refine fL rfl (api_FieldRef.g_Header r1) rfl rfl ?_
      refine bN i_lss rfl rfl ?_
      refine mV rfl ?_
      refine rd_cutn 7 (d := 22) (v := vb ((decide (x1.Header < 0)) || (decide ((x0.Headers.length : Int) ≤ x1.Header)))) ?_ ?_
      · intro S Q r
        cases a7 : (decide (x1.Header < 0))
        · intro k
          have a5 := a7
          try simp only [qa, qaD] at a5
          refine rd_yes rfl rfl (ov_faddr rfl (api_FieldRef.g_Header r1)) ?_
          refine rd_yes rfl rfl (ov_load rfl rfl rfl) ?_
          obtain ⟨c3, b0, a4⟩ := api_Program.g_Headers r0
          refine rd_yes rfl rfl (ov_faddr rfl b0) ?_
          refine rd_yes rfl rfl (ov_load rfl (TR.cnt (tSl api_Header.t) a4) (TR.agg (tSl api_Header.t) a4)) ?_
          refine rd_yes rfl rfl (ov_bi rfl (sl_len a4 Tryz.underlying22 _)) ?_
          refine rd_yes rfl rfl (ov_bin rfl rfl i_geq) ?_
          exact gK rfl rfl rfl rfl rfl k
        · exact gN 6 rfl rfl rfl rfl rfl rfl
      refine nS ?_
      refine rc_br hres rfl ?_ ?_ <;> clear hres <;> intro c hres <;> try simp only [qa, qaD] at c
      · refine sR ?_
        refine mI rfl ?_
        refine mB rfl ?_
        refine nS ?_
        exact rT hres rfl rfl rfl rfl rfl
      · refine rc_skip ?_
        refine pn_seq ?_
        refine rc_region ?_
        refine gL (api_Program.g_Headers r0) rfl rfl rfl fun b8 b1 => ?_
        refine fL rfl (api_FieldRef.g_Header r1) rfl rfl ?_
        obtain ⟨c0, b5, b6⟩ := sl_idx (i := x1.Header) b1 (by omega) (by omega)
        refine rd_op (ov_iaddr rfl rfl b5) ?_
        refine gL (api_Header.g_Fields b6) rfl rfl rfl fun c1 b3 => ?_
        refine mV rfl ?_
        refine rd_nil ?_
        refine pn_seq (wC (J _ _ b3  hres) rfl)
    · refine rc_skip ?_
      refine pn_seq (wC (J _ _ b2  hres) rfl)

end Go.Proofs.YtmonnlkagniolaaGreat
