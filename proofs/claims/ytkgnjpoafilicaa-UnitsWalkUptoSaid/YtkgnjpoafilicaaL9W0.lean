/-
  The code of each function does what its plain program says.
-/
import Derived.Test.YtkgnjpoafilicaaKDef
import Derived.Test.YtkgnjpoafilicaaL9Text
import Derived.Test.YtkgnjpoafilicaaPbC
import Derived.Test.YtkgnjpoafilicaaKVisClU
import Derived.Test.YtkgnjpoafilicaaKUnRsPnPurePoCkUUbUw
import Derived.Test.YtkgnjpoafilicaaKExAEx
import Derived.Test.YtkgnjpoafilicaaKVisClU
import Derived.Test.YtkgnjpoafilicaaKUnRsPnPurePoCkUUbUw
import Derived.Test.YtkgnjpoafilicaaL9Run
set_option linter.unusedVariables false
set_option linter.unusedSimpArgs false
set_option maxRecDepth 100000
namespace Go.Proofs.Ytkgnjpoafilicaa
open Go Go.Pb Go.RowKit
def RF60 (res : Bool) (r : PV) : Prop := r = vb res
theorem law16_Small_L2_ok {S : List Fr} {res : Bool} {x0 : api_Program} {a0 : Int} {v0 : PV} (r0 : api_Program.t.R x0 v0) (b0 : ((((decide (20 < (x0.Headers.length : Int))) || (decide (30 < (x0.Metadata.length : Int)))) || (decide (20 < (x0.Registers.length : Int)))) || (decide (40 < (x0.Actions.length : Int)))) = false) (e1 : 0 ≤ a0) (b1 : (decide (a0 < (x0.Actions.length : Int))) = true) (b3 : ((decide (20 < (((ix x0.Actions a0).Params).length : Int))) || (decide (30 < (((ix x0.Actions a0).Body).length : Int)))) = false) {K2 : Unit → Bool}
    (f1 : K2 () = res → PX Try.prog 2 S (QR Try.prog [(2, none)] (RF60 res)) [(1, .fp v0), (3, vi a0)] ⟨0, []⟩) :
    ∀ {m : Nat} {a1 : Int} (e0 : m = Int.toNat ((((ix x0.Actions a0).Body).length : Int) - a1)) (b2 : 0 ≤ a1), law16_Small_L2 x0 a0 K2 m a1 = res → RC Try.prog (.loop ac60_L2) S (QR Try.prog [(2, none)] (RF60 res)) [(4, vi a1), (3, vi a0), (1, .fp v0)] ⟨0, []⟩ := by
  have a3 := b0
  try simp only [qa, qaD] at a3
  have a2 := b1
  try simp only [qa, qaD] at a2
  have a6 := b3
  try simp only [qa, qaD] at a6
  intro m
  induction m with
  | zero =>
    intro a1 e0 b2 hres
    rw [law16_Small_L2] at hres
    refine rc_loop ?_
    refine rc_seq ?_
    refine sR ?_
    refine mV rfl ?_
    refine gL (api_Program.g_Actions r0) rfl rfl rfl fun e5 b8 => ?_
    refine mV rfl ?_
    obtain ⟨f2, b9, d0⟩ := sl_idx (i := a0) b8 (by omega) (by omega)
    refine rd_op (ov_iaddr rfl rfl b9) ?_
    refine gL (api_Action.g_Body d0) rfl rfl rfl fun f7 d9 => ?_
    refine rd_op (ov_bi rfl (sl_len d9 Try.underlying79 _)) ?_
    refine bN i_lss rfl rfl ?_
    refine nS ?_
    refine rc_cond rfl ?_ ?_ <;> intro c <;> try simp only [qa, qaD] at c
    · omega
    refine rc_exit ?_
    refine px_seq ?_
    refine px_again ?_
    exact wP (f1  hres) rfl
  | succ m ih =>
    intro a1 e0 b2 hres
    rw [law16_Small_L2] at hres
    refine rc_loop ?_
    refine rc_seq ?_
    refine sR ?_
    refine mV rfl ?_
    refine gL (api_Program.g_Actions r0) rfl rfl rfl fun e3 c5 => ?_
    refine mV rfl ?_
    obtain ⟨f3, c7, d7⟩ := sl_idx (i := a0) c5 (by omega) (by omega)
    refine rd_op (ov_iaddr rfl rfl c7) ?_
    refine gL (api_Action.g_Body d7) rfl rfl rfl fun e4 b4 => ?_
    refine rd_op (ov_bi rfl (sl_len b4 Try.underlying79 _)) ?_
    refine bN i_lss rfl rfl ?_
    refine nS ?_
    refine rc_cond rfl ?_ ?_ <;> intro c <;> try simp only [qa, qaD] at c
    rotate_left
    · omega
    refine rc_skip ?_
    refine pn_seq ?_
    refine rc_seq ?_
    refine rc_block ?_
    refine sR ?_
    refine gL (api_Program.g_Actions r0) rfl rfl rfl fun e2 d3 => ?_
    refine mV rfl ?_
    obtain ⟨f4, d1, b6⟩ := sl_idx (i := a0) d3 (by omega) (by omega)
    refine rd_op (ov_iaddr rfl rfl d1) ?_
    refine gL (api_Action.g_Body b6) rfl rfl rfl fun e7 d5 => ?_
    refine mV rfl ?_
    obtain ⟨f0, c8, d8⟩ := sl_idx (i := a1) d5 (by omega) (by omega)
    refine rd_op (ov_iaddr rfl rfl c8) ?_
    refine gL (api_Statement.g_Index d8) rfl rfl rfl fun f6 d6 => ?_
    refine rd_op (ov_bi rfl (sl_len d6 Try.underlying38 _)) ?_
    refine bN i_gtr rfl rfl ?_
    refine mV rfl ?_
    refine rd_cutn 13 (d := 90) (v := vb ((decide (60 < (((ix ((ix x0.Actions a0).Body) a1).Index).length : Int))) || (decide (60 < (((ix ((ix x0.Actions a0).Body) a1).Value).length : Int))))) ?_ ?_
    · intro S Q r
      cases a9 : (decide (60 < (((ix ((ix x0.Actions a0).Body) a1).Index).length : Int)))
      · intro k
        have a5 := a9
        try simp only [qa, qaD] at a5
        obtain ⟨f5, c9, a4⟩ := api_Program.g_Actions r0
        refine rd_yes rfl rfl (ov_faddr rfl c9) ?_
        refine rd_yes rfl rfl (ov_load rfl (TR.cnt (tSl api_Action.t) a4) (TR.agg (tSl api_Action.t) a4)) ?_
        refine rd_yes rfl rfl (ov_move rfl) ?_
        obtain ⟨e8, b7, d2⟩ := sl_idx (i := a0) a4 (by omega) (by omega)
        refine rd_yes rfl rfl (ov_iaddr rfl rfl b7) ?_
        obtain ⟨e9, c4, a8⟩ := api_Action.g_Body d2
        refine rd_yes rfl rfl (ov_faddr rfl c4) ?_
        refine rd_yes rfl rfl (ov_load rfl (TR.cnt (tSl api_Statement.t) a8) (TR.agg (tSl api_Statement.t) a8)) ?_
        refine rd_yes rfl rfl (ov_move rfl) ?_
        obtain ⟨e6, d4, b5⟩ := sl_idx (i := a1) a8 (by omega) (by omega)
        refine rd_yes rfl rfl (ov_iaddr rfl rfl d4) ?_
        obtain ⟨f8, c6, a7⟩ := api_Statement.g_Value b5
        refine rd_yes rfl rfl (ov_faddr rfl c6) ?_
        refine rd_yes rfl rfl (ov_load rfl (TR.cnt (tSl api_ExprNode.t) a7) (TR.agg (tSl api_ExprNode.t) a7)) ?_
        refine rd_yes rfl rfl (ov_bi rfl (sl_len a7 Try.underlying38 _)) ?_
        refine rd_yes rfl rfl (ov_bin rfl rfl i_gtr) ?_
        exact gK rfl rfl rfl rfl rfl k
      · exact gN 12 rfl rfl rfl rfl rfl rfl
    refine nS ?_
    refine rc_br hres rfl ?_ ?_ <;> clear hres <;> intro c hres <;> try simp only [qa, qaD] at c
    · refine sR ?_
      refine mB rfl ?_
      refine nS ?_
      exact rR hres rfl rfl rfl
    · refine rc_skip ?_
      refine pn_blk ?_
      refine pn_seq ?_
      refine rc_region ?_
      refine mV rfl ?_
      refine bN i_add rfl rfl ?_
      refine mV rfl ?_
      refine rd_nil ?_
      refine pn_again ?_
      have hbd := sl_bound b4
      have hinc : wr (a1 + 1) = a1 + 1 := wr_of (by omega) (by omega)
      erw [hinc]
      exact wC (ih   (by omega) (by omega) hres) rfl

theorem law16_Small_L1_ok {S : List Fr} {res : Bool} {x0 : api_Program} {v0 : PV} (r0 : api_Program.t.R x0 v0) (a2 : ((((decide (20 < (x0.Headers.length : Int))) || (decide (30 < (x0.Metadata.length : Int)))) || (decide (20 < (x0.Registers.length : Int)))) || (decide (40 < (x0.Actions.length : Int)))) = false) {K0 : Unit → Bool}
    (d5 : K0 () = res → PX Try.prog 0 S (QR Try.prog [(2, none)] (RF60 res)) [(1, .fp v0)] ⟨0, []⟩) :
    ∀ {m : Nat} {a1 : Int} (c6 : m = Int.toNat ((x0.Actions.length : Int) - a1)) (a5 : 0 ≤ a1), law16_Small_L1 x0 K0 m a1 = res → RC Try.prog (.loop ac60_L1) S (QR Try.prog [(2, none)] (RF60 res)) [(3, vi a1), (1, .fp v0)] ⟨0, []⟩ := by
  have a9 := a2
  try simp only [qa, qaD] at a9
  intro m
  induction m with
  | zero =>
    intro a1 c6 a5 hres
    rw [law16_Small_L1] at hres
    refine rc_loop ?_
    refine rc_seq ?_
    refine sR ?_
    refine mV rfl ?_
    refine gL (api_Program.g_Actions r0) rfl rfl rfl fun d1 b3 => ?_
    refine rd_op (ov_bi rfl (sl_len b3 Try.underlying25 _)) ?_
    refine bN i_lss rfl rfl ?_
    refine nS ?_
    refine rc_cond rfl ?_ ?_ <;> intro c <;> try simp only [qa, qaD] at c
    · omega
    refine rc_exit ?_
    refine px_seq ?_
    refine px_again ?_
    exact wP (d5  hres) rfl
  | succ m ih =>
    intro a1 c6 a5 hres
    rw [law16_Small_L1] at hres
    refine rc_loop ?_
    refine rc_seq ?_
    refine sR ?_
    refine mV rfl ?_
    refine gL (api_Program.g_Actions r0) rfl rfl rfl fun c7 b1 => ?_
    refine rd_op (ov_bi rfl (sl_len b1 Try.underlying25 _)) ?_
    refine bN i_lss rfl rfl ?_
    refine nS ?_
    refine rc_cond rfl (fun a0 => ?_) (fun a0 => ?_)
    · have hgo := hres
      have a6 := a0
      try simp only [qa, qaD] at a6
      refine rc_skip ?_
      refine pn_seq ?_
      refine rc_seq ?_
      refine rc_block ?_
      refine rc_seq ?_
      refine sR ?_
      refine gL (api_Program.g_Actions r0) rfl rfl rfl fun d4 b8 => ?_
      refine mV rfl ?_
      obtain ⟨d2, b4, b7⟩ := sl_idx (i := a1) b8 (by omega) (by omega)
      refine rd_op (ov_iaddr rfl rfl b4) ?_
      refine gL (api_Action.g_Params b7) rfl rfl rfl fun c9 b5 => ?_
      refine rd_op (ov_bi rfl (sl_len b5 Try.underlying23 _)) ?_
      refine bN i_gtr rfl rfl ?_
      refine mV rfl ?_
      refine rd_cutn 9 (d := 53) (v := vb ((decide (20 < (((ix x0.Actions a1).Params).length : Int))) || (decide (30 < (((ix x0.Actions a1).Body).length : Int))))) ?_ ?_
      · intro S Q r
        cases b2 : (decide (20 < (((ix x0.Actions a1).Params).length : Int)))
        · intro k
          have a7 := b2
          try simp only [qa, qaD] at a7
          obtain ⟨c8, b6, a4⟩ := api_Program.g_Actions r0
          refine rd_yes rfl rfl (ov_faddr rfl b6) ?_
          refine rd_yes rfl rfl (ov_load rfl (TR.cnt (tSl api_Action.t) a4) (TR.agg (tSl api_Action.t) a4)) ?_
          refine rd_yes rfl rfl (ov_move rfl) ?_
          obtain ⟨d3, b9, c5⟩ := sl_idx (i := a1) a4 (by omega) (by omega)
          refine rd_yes rfl rfl (ov_iaddr rfl rfl b9) ?_
          obtain ⟨d0, c4, a8⟩ := api_Action.g_Body c5
          refine rd_yes rfl rfl (ov_faddr rfl c4) ?_
          refine rd_yes rfl rfl (ov_load rfl (TR.cnt (tSl api_Statement.t) a8) (TR.agg (tSl api_Statement.t) a8)) ?_
          refine rd_yes rfl rfl (ov_bi rfl (sl_len a8 Try.underlying79 _)) ?_
          refine rd_yes rfl rfl (ov_bin rfl rfl i_gtr) ?_
          exact gK rfl rfl rfl rfl rfl k
        · exact gN 8 rfl rfl rfl rfl rfl rfl
      refine nS ?_
      refine rc_br hres rfl ?_ ?_ <;> clear hres <;> intro a3 hres <;> have b0 := a3 <;> try simp only [qa, qaD] at b0
      · refine sR ?_
        refine mB rfl ?_
        refine nS ?_
        exact rR hres rfl rfl rfl
      · refine rc_skip ?_
        refine pn_seq ?_
        refine sR ?_
        refine mI rfl ?_
        refine nS ?_
        refine rc_block ?_
        refine wC (law16_Small_L2_ok r0 a2 a5 a0 a3 ?_  rfl (by omega) hres) rfl
        · intro  hres
          refine px_blk ?_
          refine pn_blk ?_
          refine pn_seq ?_
          refine rc_region ?_
          refine mV rfl ?_
          refine bN i_add rfl rfl ?_
          refine mV rfl ?_
          refine rd_nil ?_
          refine pn_again ?_
          have hbd := sl_bound b1
          have hinc : wr (a1 + 1) = a1 + 1 := wr_of (by omega) (by omega)
          erw [hinc]
          exact wC (ih   (by omega) (by omega) hres) rfl
    · exfalso
      try simp only [qa, qaD] at a0
      omega

theorem law16_Small_L3_ok {S : List Fr} {res : Bool} {x0 : api_Program} {v0 : PV} (r0 : api_Program.t.R x0 v0) (a3 : ((((decide (20 < (x0.Headers.length : Int))) || (decide (30 < (x0.Metadata.length : Int)))) || (decide (20 < (x0.Registers.length : Int)))) || (decide (40 < (x0.Actions.length : Int)))) = false) {K4 : Unit → Bool}
    (b6 : K4 () = res → PX Try.prog 4 S (QR Try.prog [(2, none)] (RF60 res)) [(1, .fp v0)] ⟨0, []⟩) :
    ∀ {m : Nat} {a0 : Int} (b0 : m = Int.toNat ((x0.Headers.length : Int) - a0)) (a2 : 0 ≤ a0), law16_Small_L3 x0 K4 m a0 = res → RC Try.prog (.loop ac60_L3) S (QR Try.prog [(2, none)] (RF60 res)) [(5, vi a0), (1, .fp v0)] ⟨0, []⟩ := by
  have a1 := a3
  try simp only [qa, qaD] at a1
  intro m
  induction m with
  | zero =>
    intro a0 b0 a2 hres
    rw [law16_Small_L3] at hres
    refine rc_loop ?_
    refine rc_seq ?_
    refine sR ?_
    refine mV rfl ?_
    refine gL (api_Program.g_Headers r0) rfl rfl rfl fun b4 a5 => ?_
    refine rd_op (ov_bi rfl (sl_len a5 Try.underlying22 _)) ?_
    refine bN i_lss rfl rfl ?_
    refine nS ?_
    refine rc_cond rfl ?_ ?_ <;> intro c <;> try simp only [qa, qaD] at c
    · omega
    refine rc_exit ?_
    refine px_seq ?_
    refine px_again ?_
    exact wP (b6  hres) rfl
  | succ m ih =>
    intro a0 b0 a2 hres
    rw [law16_Small_L3] at hres
    refine rc_loop ?_
    refine rc_seq ?_
    refine sR ?_
    refine mV rfl ?_
    refine gL (api_Program.g_Headers r0) rfl rfl rfl fun b1 a4 => ?_
    refine rd_op (ov_bi rfl (sl_len a4 Try.underlying22 _)) ?_
    refine bN i_lss rfl rfl ?_
    refine nS ?_
    refine rc_cond rfl ?_ ?_ <;> intro c <;> try simp only [qa, qaD] at c
    rotate_left
    · omega
    refine rc_skip ?_
    refine pn_seq ?_
    refine rc_seq ?_
    refine rc_block ?_
    refine sR ?_
    refine gL (api_Program.g_Headers r0) rfl rfl rfl fun b5 a8 => ?_
    refine mV rfl ?_
    obtain ⟨b2, a9, a6⟩ := sl_idx (i := a0) a8 (by omega) (by omega)
    refine rd_op (ov_iaddr rfl rfl a9) ?_
    refine gL (api_Header.g_Fields a6) rfl rfl rfl fun b3 a7 => ?_
    refine rd_op (ov_bi rfl (sl_len a7 Try.underlying23 _)) ?_
    refine bN i_gtr rfl rfl ?_
    refine nS ?_
    refine rc_br hres rfl ?_ ?_ <;> clear hres <;> intro c hres <;> try simp only [qa, qaD] at c
    · refine sR ?_
      refine mB rfl ?_
      refine nS ?_
      exact rR hres rfl rfl rfl
    · refine rc_skip ?_
      refine pn_blk ?_
      refine pn_seq ?_
      refine rc_region ?_
      refine mV rfl ?_
      refine bN i_add rfl rfl ?_
      refine mV rfl ?_
      refine rd_nil ?_
      refine pn_again ?_
      have hbd := sl_bound a4
      have hinc : wr (a0 + 1) = a0 + 1 := wr_of (by omega) (by omega)
      erw [hinc]
      exact wC (ih   (by omega) (by omega) hres) rfl

theorem law16_Small_L4_ok {S : List Fr} {res : Bool} {x0 : api_Program} {v0 : PV} (r0 : api_Program.t.R x0 v0) (a2 : ((((decide (20 < (x0.Headers.length : Int))) || (decide (30 < (x0.Metadata.length : Int)))) || (decide (20 < (x0.Registers.length : Int)))) || (decide (40 < (x0.Actions.length : Int)))) = false) {K6 : Unit → Bool}
    (b0 : K6 () = res → PX Try.prog 6 S (QR Try.prog [(2, none)] (RF60 res)) [] ⟨0, []⟩) :
    ∀ {m : Nat} {a0 : Int} (a9 : m = Int.toNat ((x0.Registers.length : Int) - a0)) (a3 : 0 ≤ a0), law16_Small_L4 x0 K6 m a0 = res → RC Try.prog (.loop ac60_L4) S (QR Try.prog [(2, none)] (RF60 res)) [(6, vi a0), (1, .fp v0)] ⟨0, []⟩ := by
  have a1 := a2
  try simp only [qa, qaD] at a1
  intro m
  induction m with
  | zero =>
    intro a0 a9 a3 hres
    rw [law16_Small_L4] at hres
    refine rc_loop ?_
    refine rc_seq ?_
    refine sR ?_
    refine mV rfl ?_
    refine gL (api_Program.g_Registers r0) rfl rfl rfl fun b1 a5 => ?_
    refine rd_op (ov_bi rfl (sl_len a5 Try.underlying24 _)) ?_
    refine bN i_lss rfl rfl ?_
    refine nS ?_
    refine rc_cond rfl ?_ ?_ <;> intro c <;> try simp only [qa, qaD] at c
    · omega
    refine rc_exit ?_
    refine px_seq ?_
    refine px_again ?_
    exact wP (b0  hres) rfl
  | succ m ih =>
    intro a0 a9 a3 hres
    rw [law16_Small_L4] at hres
    refine rc_loop ?_
    refine rc_seq ?_
    refine sR ?_
    refine mV rfl ?_
    refine gL (api_Program.g_Registers r0) rfl rfl rfl fun b4 a4 => ?_
    refine rd_op (ov_bi rfl (sl_len a4 Try.underlying24 _)) ?_
    refine bN i_lss rfl rfl ?_
    refine nS ?_
    refine rc_cond rfl ?_ ?_ <;> intro c <;> try simp only [qa, qaD] at c
    rotate_left
    · omega
    refine rc_skip ?_
    refine pn_seq ?_
    refine rc_seq ?_
    refine rc_block ?_
    refine sR ?_
    refine gL (api_Program.g_Registers r0) rfl rfl rfl fun b2 a7 => ?_
    refine mV rfl ?_
    obtain ⟨b3, a6, a8⟩ := sl_idx (i := a0) a7 (by omega) (by omega)
    refine rd_op (ov_iaddr rfl rfl a6) ?_
    refine fL rfl (api_Register.g_Size a8) rfl rfl ?_
    refine bN i_gtr rfl rfl ?_
    refine nS ?_
    refine rc_br hres rfl ?_ ?_ <;> clear hres <;> intro c hres <;> try simp only [qa, qaD] at c
    · refine sR ?_
      refine mB rfl ?_
      refine nS ?_
      exact rR hres rfl rfl rfl
    · refine rc_skip ?_
      refine pn_blk ?_
      refine pn_seq ?_
      refine rc_region ?_
      refine mV rfl ?_
      refine bN i_add rfl rfl ?_
      refine mV rfl ?_
      refine rd_nil ?_
      refine pn_again ?_
      have hbd := sl_bound a4
      have hinc : wr (a0 + 1) = a0 + 1 := wr_of (by omega) (by omega)
      erw [hinc]
      exact wC (ih   (by omega) (by omega) hres) rfl

theorem f60_ok {x0 : api_Program} {v0 : PV} (r0 : api_Program.t.R x0 v0) : FnR Try.prog 60 [v0] (vb (law16_Small x0)) := by
  refine fnS (R := RF60) text60 (fun _ h => h) rfl fun res hres => ?_
  unfold law16_Small at hres
  refine sR ?_
  refine rd_op (ov_box rfl (TR.cnt api_Program.t r0)) ?_
  refine mB rfl ?_
  refine nS ?_
  refine rc_seq ?_
  refine sR ?_
  refine gL (api_Program.g_Headers r0) rfl rfl rfl fun b6 b2 => ?_
  refine rd_op (ov_bi rfl (sl_len b2 Try.underlying22 _)) ?_
  refine bN i_gtr rfl rfl ?_
  refine mV rfl ?_
  refine rd_cutn 5 (d := 16) (v := vb ((decide (20 < (x0.Headers.length : Int))) || (decide (30 < (x0.Metadata.length : Int))))) ?_ ?_
  · intro S Q r
    cases a9 : (decide (20 < (x0.Headers.length : Int)))
    · intro k
      have a4 := a9
      try simp only [qa, qaD] at a4
      obtain ⟨b7, b3, a3⟩ := api_Program.g_Metadata r0
      refine rd_yes rfl rfl (ov_faddr rfl b3) ?_
      refine rd_yes rfl rfl (ov_load rfl (TR.cnt (tSl api_Field.t) a3) (TR.agg (tSl api_Field.t) a3)) ?_
      refine rd_yes rfl rfl (ov_bi rfl (sl_len a3 Try.underlying23 _)) ?_
      refine rd_yes rfl rfl (ov_bin rfl rfl i_gtr) ?_
      exact gK rfl rfl rfl rfl rfl k
    · exact gN 4 rfl rfl rfl rfl rfl rfl
  refine mV rfl ?_
  refine rd_cutn 5 (d := 22) (v := vb (((decide (20 < (x0.Headers.length : Int))) || (decide (30 < (x0.Metadata.length : Int)))) || (decide (20 < (x0.Registers.length : Int))))) ?_ ?_
  · intro S Q r
    cases a8 : ((decide (20 < (x0.Headers.length : Int))) || (decide (30 < (x0.Metadata.length : Int))))
    · intro k
      have a7 := a8
      try simp only [qa, qaD] at a7
      obtain ⟨b8, b4, a2⟩ := api_Program.g_Registers r0
      refine rd_yes rfl rfl (ov_faddr rfl b4) ?_
      refine rd_yes rfl rfl (ov_load rfl (TR.cnt (tSl api_Register.t) a2) (TR.agg (tSl api_Register.t) a2)) ?_
      refine rd_yes rfl rfl (ov_bi rfl (sl_len a2 Try.underlying24 _)) ?_
      refine rd_yes rfl rfl (ov_bin rfl rfl i_gtr) ?_
      exact gK rfl rfl rfl rfl rfl k
    · exact gN 4 rfl rfl rfl rfl rfl rfl
  refine mV rfl ?_
  refine rd_cutn 5 (d := 28) (v := vb ((((decide (20 < (x0.Headers.length : Int))) || (decide (30 < (x0.Metadata.length : Int)))) || (decide (20 < (x0.Registers.length : Int)))) || (decide (40 < (x0.Actions.length : Int))))) ?_ ?_
  · intro S Q r
    cases b0 : (((decide (20 < (x0.Headers.length : Int))) || (decide (30 < (x0.Metadata.length : Int)))) || (decide (20 < (x0.Registers.length : Int))))
    · intro k
      have a5 := b0
      try simp only [qa, qaD] at a5
      obtain ⟨b5, b1, a1⟩ := api_Program.g_Actions r0
      refine rd_yes rfl rfl (ov_faddr rfl b1) ?_
      refine rd_yes rfl rfl (ov_load rfl (TR.cnt (tSl api_Action.t) a1) (TR.agg (tSl api_Action.t) a1)) ?_
      refine rd_yes rfl rfl (ov_bi rfl (sl_len a1 Try.underlying25 _)) ?_
      refine rd_yes rfl rfl (ov_bin rfl rfl i_gtr) ?_
      exact gK rfl rfl rfl rfl rfl k
    · exact gN 4 rfl rfl rfl rfl rfl rfl
  refine nS ?_
  refine rc_br hres rfl ?_ ?_ <;> clear hres <;> intro a0 hres <;> have a6 := a0 <;> try simp only [qa, qaD] at a6
  · refine sR ?_
    refine mB rfl ?_
    refine nS ?_
    exact rR hres rfl rfl rfl
  · refine rc_skip ?_
    refine pn_seq ?_
    refine rc_seq ?_
    refine sR ?_
    refine mI rfl ?_
    refine nS ?_
    refine rc_block ?_
    refine wC (law16_Small_L1_ok r0 a0 ?_  rfl (by omega) hres) rfl
    · intro  hres
      refine px_blk ?_
      refine pn_seq ?_
      refine rc_seq ?_
      refine sR ?_
      refine mI rfl ?_
      refine nS ?_
      refine rc_block ?_
      refine wC (law16_Small_L3_ok r0 a0 ?_  rfl (by omega) hres) rfl
      · intro  hres
        refine px_blk ?_
        refine pn_seq ?_
        refine rc_seq ?_
        refine sR ?_
        refine mI rfl ?_
        refine nS ?_
        refine rc_block ?_
        refine wC (law16_Small_L4_ok r0 a0 ?_  rfl (by omega) hres) rfl
        · intro  hres
          refine px_blk ?_
          refine pn_seq ?_
          refine sR ?_
          refine mB rfl ?_
          refine nS ?_
          exact rR hres rfl rfl rfl

def RF61 (res : Int) (r : PV) : Prop := r = vi res
theorem law22_blocks_L1_ok {S : List Fr} {res : Int} {x0 : List api_ControlNode} {x1 x2 : Int} {rec_ : (List api_ControlNode) → Int → Int → Int} {mu_ : Nat} {v0 : PV} (r0 : (tSl api_ControlNode.t).R x0 v0) (ihR : ∀ {z0 : List api_ControlNode} {z1 z2 : Int} {c8 : PV} (d8 : (tSl api_ControlNode.t).R z0 c8), csl z0 < mu_ → FnR Try.prog 61 [c8, vi z1, vi z2] (vi (rec_ z0 z1 z2))) (hmu : mu_ = csl x0) (b5 : ((decide (x2 < (x0.length : Int))) || (decide (20 < x1))) = false) {K0 : Int → Int}
    (c9 : ∀ {a1 : Int}, K0 a1 = res → PX Try.prog 0 S (QR Try.prog [(6, none)] (RF61 res)) [(7, vi a1)] ⟨0, []⟩) :
    ∀ {m : Nat} {a1 a0 : Int} (c7 : m = Int.toNat ((x0.length : Int) - a0)) (a5 : 0 ≤ a0), law22_blocks_L1 x0 x1 x2 rec_ K0 m a1 a0 = res → RC Try.prog (.loop ac61_L1) S (QR Try.prog [(6, none)] (RF61 res)) [(8, vi a0), (7, vi a1), (2, vi x2), (1, vi x1), (0, v0)] ⟨0, []⟩ := by
  have a2 := b5
  try simp only [qa, qaD] at a2
  intro m
  induction m with
  | zero =>
    intro a1 a0 c7 a5 hres
    rw [law22_blocks_L1] at hres
    refine rc_loop ?_
    refine rc_seq ?_
    refine sR ?_
    refine mV rfl ?_
    refine mV rfl ?_
    refine rd_op (ov_bi rfl (sl_len r0 Try.underlying28 _)) ?_
    refine bN i_lss rfl rfl ?_
    refine mV rfl ?_
    refine rd_cutn 4 (d := 28) (v := vb ((decide (a0 < (x0.length : Int))) && (decide (a1 ≤ x2)))) ?_ ?_
    · intro S Q r
      cases b0 : (decide (a0 < (x0.length : Int)))
      · exact gN 3 rfl rfl rfl rfl rfl rfl
      · intro k
        have a3 := b0
        try simp only [qa, qaD] at a3
        refine rd_yes rfl rfl (ov_move rfl) ?_
        refine rd_yes rfl rfl (ov_move rfl) ?_
        refine rd_yes rfl rfl (ov_bin rfl rfl i_leq) ?_
        exact gK rfl rfl rfl rfl rfl k
    refine nS ?_
    refine rc_cond rfl ?_ ?_ <;> intro c <;> try simp only [qa, qaD] at c
    · omega
    refine rc_exit ?_
    refine px_seq ?_
    refine px_again ?_
    exact wP (c9  hres) rfl
  | succ m ih =>
    intro a1 a0 c7 a5 hres
    rw [law22_blocks_L1] at hres
    refine rc_loop ?_
    refine rc_seq ?_
    refine sR ?_
    refine mV rfl ?_
    refine mV rfl ?_
    refine rd_op (ov_bi rfl (sl_len r0 Try.underlying28 _)) ?_
    refine bN i_lss rfl rfl ?_
    refine mV rfl ?_
    refine rd_cutn 4 (d := 28) (v := vb ((decide (a0 < (x0.length : Int))) && (decide (a1 ≤ x2)))) ?_ ?_
    · intro S Q r
      cases b1 : (decide (a0 < (x0.length : Int)))
      · exact gN 3 rfl rfl rfl rfl rfl rfl
      · intro k
        have a4 := b1
        try simp only [qa, qaD] at a4
        refine rd_yes rfl rfl (ov_move rfl) ?_
        refine rd_yes rfl rfl (ov_move rfl) ?_
        refine rd_yes rfl rfl (ov_bin rfl rfl i_leq) ?_
        exact gK rfl rfl rfl rfl rfl k
    refine nS ?_
    refine rc_br hres rfl ?_ ?_ <;> clear hres <;> intro c hres <;> try simp only [qa, qaD] at c
    · refine rc_skip ?_
      refine pn_seq ?_
      refine rc_seq ?_
      refine rc_block ?_
      refine rc_region ?_
      refine mV rfl ?_
      refine mV rfl ?_
      refine mV rfl ?_
      obtain ⟨d2, b8, b6⟩ := sl_idx (i := a0) r0 (by omega) (by omega)
      refine rd_op (ov_iaddr rfl rfl b8) ?_
      refine gL (api_ControlNode.g_Then b6) rfl rfl rfl fun d3 a8 => ?_
      refine mV rfl ?_
      refine bN i_add rfl rfl ?_
      refine mV rfl ?_
      obtain ⟨d5, b4, hres⟩ := let_ex hres
      have b2 := ihR (z0 := (ix x0 a0).Then) (z1 := (wr (x1 + 1))) (z2 := x2) a8  (by (have hk := csl_ix (l := x0) (by omega) (by omega); omega))
      rw [b4] at b2
      refine cL b2 rfl rfl (clL_cons (TR.clo (tSl api_ControlNode.t) a8) (clL_cons rfl (clL_cons rfl clL_nil))) ?_
      refine mV rfl ?_
      refine mV rfl ?_
      obtain ⟨d0, c4, c6⟩ := sl_idx (i := a0) r0 (by omega) (by omega)
      refine rd_op (ov_iaddr rfl rfl c4) ?_
      refine gL (api_ControlNode.g_Else c6) rfl rfl rfl fun d1 a6 => ?_
      refine mV rfl ?_
      refine bN i_add rfl rfl ?_
      refine mV rfl ?_
      obtain ⟨d6, b3, hres⟩ := let_ex hres
      have a7 := ihR (z0 := (ix x0 a0).Else) (z1 := (wr (x1 + 1))) (z2 := x2) a6  (by (have hk := csl_ix (l := x0) (by omega) (by omega); omega))
      rw [b3] at a7
      refine cL a7 rfl rfl (clL_cons (TR.clo (tSl api_ControlNode.t) a6) (clL_cons rfl (clL_cons rfl clL_nil))) ?_
      refine bN i_add rfl rfl ?_
      refine mV rfl ?_
      refine mV rfl ?_
      obtain ⟨d7, b9, c5⟩ := sl_idx (i := a0) r0 (by omega) (by omega)
      refine rd_op (ov_iaddr rfl rfl b9) ?_
      obtain ⟨d4, b7, a9⟩ := api_ControlNode.g_Cond c5
      refine fA rfl b7 ?_
      refine lD a9 rfl rfl rfl ?_
      refine rd_op (ov_bi rfl (sl_len a9 Try.underlying38 _)) ?_
      refine bN (i_quo (by decide)) rfl rfl ?_
      refine bN i_add rfl rfl ?_
      refine bN i_add rfl rfl ?_
      refine mV rfl ?_
      refine rd_nil ?_
      refine pn_blk ?_
      refine pn_seq ?_
      refine rc_region ?_
      refine mV rfl ?_
      refine bN i_add rfl rfl ?_
      refine mV rfl ?_
      refine rd_nil ?_
      refine pn_again ?_
      have hbd := sl_bound r0
      have hinc : wr (a0 + 1) = a0 + 1 := wr_of (by omega) (by omega)
      erw [hinc]
      exact wC (ih   (by omega) (by omega) hres) rfl
    · refine rc_exit ?_
      refine px_seq ?_
      refine px_again ?_
      exact wP (c9  hres) rfl

theorem f61_okB {rec_ : (List api_ControlNode) → Int → Int → Int} {mu_ : Nat} {x0 : List api_ControlNode} {x1 x2 : Int} {v0 : PV} (r0 : (tSl api_ControlNode.t).R x0 v0) (hmu : mu_ = csl x0) (ihR : ∀ {z0 : List api_ControlNode} {z1 z2 : Int} {a5 : PV} (a6 : (tSl api_ControlNode.t).R z0 a5), csl z0 < mu_ → FnR Try.prog 61 [a5, vi z1, vi z2] (vi (rec_ z0 z1 z2))) : FnR Try.prog 61 [v0, vi x1, vi x2] (vi (law22_blocks_B rec_ x0 x1 x2)) := by
  refine fnS (R := RF61) text61 (fun _ h => h) rfl fun res hres => ?_
  unfold law22_blocks_B at hres
  refine sR ?_
  refine mI rfl ?_
  refine nR ?_
  refine mV rfl ?_
  refine rd_op (ov_bi rfl (sl_len r0 Try.underlying28 _)) ?_
  refine mV rfl ?_
  refine nS ?_
  refine rc_seq ?_
  refine sR ?_
  refine mV rfl ?_
  refine mV rfl ?_
  refine bN i_gtr rfl rfl ?_
  refine mV rfl ?_
  refine rd_cutn 3 (d := 17) (v := vb ((decide (x2 < (x0.length : Int))) || (decide (20 < x1)))) ?_ ?_
  · intro S Q r
    cases a3 : (decide (x2 < (x0.length : Int)))
    · intro k
      have a2 := a3
      try simp only [qa, qaD] at a2
      refine rd_yes rfl rfl (ov_move rfl) ?_
      refine rd_yes rfl rfl (ov_bin rfl rfl i_gtr) ?_
      exact gK rfl rfl rfl rfl rfl k
    · exact gN 2 rfl rfl rfl rfl rfl rfl
  refine nS ?_
  refine rc_br hres rfl ?_ ?_ <;> clear hres <;> intro a0 hres <;> have a1 := a0 <;> try simp only [qa, qaD] at a1
  · refine sR ?_
    refine mV rfl ?_
    refine bN i_add rfl rfl ?_
    refine mV rfl ?_
    refine nS ?_
    exact rR hres rfl rfl rfl
  · refine rc_skip ?_
    refine pn_seq ?_
    refine rc_seq ?_
    refine sR ?_
    refine mI rfl ?_
    refine nS ?_
    refine rc_block ?_
    refine wC (law22_blocks_L1_ok r0 ihR hmu a0 ?_  rfl (by omega) hres) rfl
    · intro a4 hres
      refine px_blk ?_
      refine pn_seq ?_
      refine sR ?_
      refine mV rfl ?_
      refine mV rfl ?_
      refine nS ?_
      exact rR hres rfl rfl rfl
theorem f61_okR : ∀ (n_ : Nat) {x0 : List api_ControlNode} {x1 x2 : Int} {v0 : PV} (r0 : (tSl api_ControlNode.t).R x0 v0), csl x0 < n_ → FnR Try.prog 61 [v0, vi x1, vi x2] (vi (law22_blocks_R n_ x0 x1 x2)) := by
  intro n_
  induction n_ with
  | zero => intros; rename_i hlt; exact absurd hlt (Nat.not_lt_zero _)
  | succ n_ ihn =>
    intro x0 x1 x2 v0 r0 hlt
    have e_ : law22_blocks_R (n_ + 1) x0 x1 x2 = law22_blocks_B (law22_blocks_R n_) x0 x1 x2 := by rw [law22_blocks_R]
    rw [e_]
    exact f61_okB r0 rfl (fun {z0} {z1} {z2} {zv0} zr0 hz => ihn zr0 (by omega))
theorem f61_ok {x0 : List api_ControlNode} {x1 x2 : Int} {v0 : PV} (r0 : (tSl api_ControlNode.t).R x0 v0) : FnR Try.prog 61 [v0, vi x1, vi x2] (vi (law22_blocks x0 x1 x2)) := f61_okR _ r0 (Nat.lt_succ_self _)

def RF28 (res : Bool) (r : PV) : Prop := r = vb res
theorem law22_Small_L1_ok {S : List Fr} {res : Bool} {x0 : api_Program} {b2 : Bool} {v0 : PV} (r0 : api_Program.t.R x0 v0) (d4 : law16_Small x0 = b2) (b3 : (((((!b2) || (decide (30 < (x0.Tables.length : Int)))) || (decide (30 < (x0.States.length : Int)))) || (decide (30 < (x0.Deparser.length : Int)))) || (decide (60 < (law22_blocks x0.Control 0 60)))) = false) {K0 : Unit → Bool}
    (e7 : K0 () = res → PX Try.prog 0 S (QR Try.prog [(2, none)] (RF28 res)) [(1, .fp v0)] ⟨0, []⟩) :
    ∀ {m : Nat} {a0 : Int} (d3 : m = Int.toNat ((x0.Tables.length : Int) - a0)) (a8 : 0 ≤ a0), law22_Small_L1 x0 K0 m a0 = res → RC Try.prog (.loop ac28_L1) S (QR Try.prog [(2, none)] (RF28 res)) [(3, vi a0), (1, .fp v0)] ⟨0, []⟩ := by
  have a1 := b3
  try simp only [qa, qaD] at a1
  intro m
  induction m with
  | zero =>
    intro a0 d3 a8 hres
    rw [law22_Small_L1] at hres
    refine rc_loop ?_
    refine rc_seq ?_
    refine sR ?_
    refine mV rfl ?_
    refine gL (api_Program.g_Tables r0) rfl rfl rfl fun e6 b6 => ?_
    refine rd_op (ov_bi rfl (sl_len b6 Try.underlying26 _)) ?_
    refine bN i_lss rfl rfl ?_
    refine nS ?_
    refine rc_cond rfl ?_ ?_ <;> intro c <;> try simp only [qa, qaD] at c
    · omega
    refine rc_exit ?_
    refine px_seq ?_
    refine px_again ?_
    exact wP (e7  hres) rfl
  | succ m ih =>
    intro a0 d3 a8 hres
    rw [law22_Small_L1] at hres
    refine rc_loop ?_
    refine rc_seq ?_
    refine sR ?_
    refine mV rfl ?_
    refine gL (api_Program.g_Tables r0) rfl rfl rfl fun d9 b0 => ?_
    refine rd_op (ov_bi rfl (sl_len b0 Try.underlying26 _)) ?_
    refine bN i_lss rfl rfl ?_
    refine nS ?_
    refine rc_cond rfl ?_ ?_ <;> intro c <;> try simp only [qa, qaD] at c
    rotate_left
    · omega
    refine rc_skip ?_
    refine pn_seq ?_
    refine rc_seq ?_
    refine rc_block ?_
    refine sR ?_
    refine gL (api_Program.g_Tables r0) rfl rfl rfl fun e4 b5 => ?_
    refine mV rfl ?_
    obtain ⟨d5, b7, b4⟩ := sl_idx (i := a0) b5 (by omega) (by omega)
    refine rd_op (ov_iaddr rfl rfl b7) ?_
    refine gL (api_Table.g_Keys b4) rfl rfl rfl fun e5 d2 => ?_
    refine rd_op (ov_bi rfl (sl_len d2 Try.underlying82 _)) ?_
    refine bN i_gtr rfl rfl ?_
    refine mV rfl ?_
    refine rd_cutn 9 (d := 56) (v := vb ((decide (20 < (((ix x0.Tables a0).Keys).length : Int))) || (decide (40 < (((ix x0.Tables a0).Actions).length : Int))))) ?_ ?_
    · intro S Q r
      cases b1 : (decide (20 < (((ix x0.Tables a0).Keys).length : Int)))
      · intro k
        have a4 := b1
        try simp only [qa, qaD] at a4
        obtain ⟨d6, d1, a6⟩ := api_Program.g_Tables r0
        refine rd_yes rfl rfl (ov_faddr rfl d1) ?_
        refine rd_yes rfl rfl (ov_load rfl (TR.cnt (tSl api_Table.t) a6) (TR.agg (tSl api_Table.t) a6)) ?_
        refine rd_yes rfl rfl (ov_move rfl) ?_
        obtain ⟨d8, c8, b9⟩ := sl_idx (i := a0) a6 (by omega) (by omega)
        refine rd_yes rfl rfl (ov_iaddr rfl rfl c8) ?_
        obtain ⟨e2, c4, a3⟩ := api_Table.g_Actions b9
        refine rd_yes rfl rfl (ov_faddr rfl c4) ?_
        refine rd_yes rfl rfl (ov_load rfl (TR.cnt (tSl tI) a3) (TR.agg (tSl tI) a3)) ?_
        refine rd_yes rfl rfl (ov_bi rfl (sl_len a3 Try.underlying29 _)) ?_
        refine rd_yes rfl rfl (ov_bin rfl rfl i_gtr) ?_
        exact gK rfl rfl rfl rfl rfl k
      · exact gN 8 rfl rfl rfl rfl rfl rfl
    refine mV rfl ?_
    refine rd_cutn 10 (d := 67) (v := vb (((decide (20 < (((ix x0.Tables a0).Keys).length : Int))) || (decide (40 < (((ix x0.Tables a0).Actions).length : Int)))) || (decide (40 < ((((ix x0.Tables a0).Default).Args).length : Int))))) ?_ ?_
    · intro S Q r
      cases a9 : ((decide (20 < (((ix x0.Tables a0).Keys).length : Int))) || (decide (40 < (((ix x0.Tables a0).Actions).length : Int))))
      · intro k
        have a5 := a9
        try simp only [qa, qaD] at a5
        obtain ⟨e0, b8, a2⟩ := api_Program.g_Tables r0
        refine rd_yes rfl rfl (ov_faddr rfl b8) ?_
        refine rd_yes rfl rfl (ov_load rfl (TR.cnt (tSl api_Table.t) a2) (TR.agg (tSl api_Table.t) a2)) ?_
        refine rd_yes rfl rfl (ov_move rfl) ?_
        obtain ⟨d7, c5, c6⟩ := sl_idx (i := a0) a2 (by omega) (by omega)
        refine rd_yes rfl rfl (ov_iaddr rfl rfl c5) ?_
        obtain ⟨e3, c7, d0⟩ := api_Table.g_Default c6
        refine rd_yes rfl rfl (ov_faddr rfl c7) ?_
        obtain ⟨e1, c9, a7⟩ := api_ActionCall.g_Args d0
        refine rd_yes rfl rfl (ov_faddr rfl c9) ?_
        refine rd_yes rfl rfl (ov_load rfl (TR.cnt (tSl tU32) a7) (TR.agg (tSl tU32) a7)) ?_
        refine rd_yes rfl rfl (ov_bi rfl (sl_len a7 Try.underlying83 _)) ?_
        refine rd_yes rfl rfl (ov_bin rfl rfl i_gtr) ?_
        exact gK rfl rfl rfl rfl rfl k
      · exact gN 9 rfl rfl rfl rfl rfl rfl
    refine nS ?_
    refine rc_br hres rfl ?_ ?_ <;> clear hres <;> intro c hres <;> try simp only [qa, qaD] at c
    · refine sR ?_
      refine mB rfl ?_
      refine nS ?_
      exact rR hres rfl rfl rfl
    · refine rc_skip ?_
      refine pn_blk ?_
      refine pn_seq ?_
      refine rc_region ?_
      refine mV rfl ?_
      refine bN i_add rfl rfl ?_
      refine mV rfl ?_
      refine rd_nil ?_
      refine pn_again ?_
      have hbd := sl_bound b0
      have hinc : wr (a0 + 1) = a0 + 1 := wr_of (by omega) (by omega)
      erw [hinc]
      exact wC (ih   (by omega) (by omega) hres) rfl

theorem law22_Small_L2_ok {S : List Fr} {res : Bool} {x0 : api_Program} {a6 : Bool} {v0 : PV} (r0 : api_Program.t.R x0 v0) (b9 : law16_Small x0 = a6) (a7 : (((((!a6) || (decide (30 < (x0.Tables.length : Int)))) || (decide (30 < (x0.States.length : Int)))) || (decide (30 < (x0.Deparser.length : Int)))) || (decide (60 < (law22_blocks x0.Control 0 60)))) = false) {K2 : Unit → Bool}
    (d0 : K2 () = res → PX Try.prog 2 S (QR Try.prog [(2, none)] (RF28 res)) [] ⟨0, []⟩) :
    ∀ {m : Nat} {a0 : Int} (c4 : m = Int.toNat ((x0.States.length : Int) - a0)) (a8 : 0 ≤ a0), law22_Small_L2 x0 K2 m a0 = res → RC Try.prog (.loop ac28_L2) S (QR Try.prog [(2, none)] (RF28 res)) [(4, vi a0), (1, .fp v0)] ⟨0, []⟩ := by
  have a1 := a7
  try simp only [qa, qaD] at a1
  intro m
  induction m with
  | zero =>
    intro a0 c4 a8 hres
    rw [law22_Small_L2] at hres
    refine rc_loop ?_
    refine rc_seq ?_
    refine sR ?_
    refine mV rfl ?_
    refine gL (api_Program.g_States r0) rfl rfl rfl fun d2 b0 => ?_
    refine rd_op (ov_bi rfl (sl_len b0 Try.underlying27 _)) ?_
    refine bN i_lss rfl rfl ?_
    refine nS ?_
    refine rc_cond rfl ?_ ?_ <;> intro c <;> try simp only [qa, qaD] at c
    · omega
    refine rc_exit ?_
    refine px_seq ?_
    refine px_again ?_
    exact wP (d0  hres) rfl
  | succ m ih =>
    intro a0 c4 a8 hres
    rw [law22_Small_L2] at hres
    refine rc_loop ?_
    refine rc_seq ?_
    refine sR ?_
    refine mV rfl ?_
    refine gL (api_Program.g_States r0) rfl rfl rfl fun c9 a9 => ?_
    refine rd_op (ov_bi rfl (sl_len a9 Try.underlying27 _)) ?_
    refine bN i_lss rfl rfl ?_
    refine nS ?_
    refine rc_cond rfl ?_ ?_ <;> intro c <;> try simp only [qa, qaD] at c
    rotate_left
    · omega
    refine rc_skip ?_
    refine pn_seq ?_
    refine rc_seq ?_
    refine rc_block ?_
    refine sR ?_
    refine gL (api_Program.g_States r0) rfl rfl rfl fun c7 b3 => ?_
    refine mV rfl ?_
    obtain ⟨d1, b2, b6⟩ := sl_idx (i := a0) b3 (by omega) (by omega)
    refine rd_op (ov_iaddr rfl rfl b2) ?_
    refine gL (api_ParserState.g_Extract b6) rfl rfl rfl fun c8 b4 => ?_
    refine rd_op (ov_bi rfl (sl_len b4 Try.underlying29 _)) ?_
    refine bN i_gtr rfl rfl ?_
    refine mV rfl ?_
    refine rd_cutn 9 (d := 92) (v := vb ((decide (20 < (((ix x0.States a0).Extract).length : Int))) || (decide (20 < (((ix x0.States a0).Cases).length : Int))))) ?_ ?_
    · intro S Q r
      cases a5 : (decide (20 < (((ix x0.States a0).Extract).length : Int)))
      · intro k
        have a2 := a5
        try simp only [qa, qaD] at a2
        obtain ⟨c5, b5, a3⟩ := api_Program.g_States r0
        refine rd_yes rfl rfl (ov_faddr rfl b5) ?_
        refine rd_yes rfl rfl (ov_load rfl (TR.cnt (tSl api_ParserState.t) a3) (TR.agg (tSl api_ParserState.t) a3)) ?_
        refine rd_yes rfl rfl (ov_move rfl) ?_
        obtain ⟨d3, b1, b7⟩ := sl_idx (i := a0) a3 (by omega) (by omega)
        refine rd_yes rfl rfl (ov_iaddr rfl rfl b1) ?_
        obtain ⟨c6, b8, a4⟩ := api_ParserState.g_Cases b7
        refine rd_yes rfl rfl (ov_faddr rfl b8) ?_
        refine rd_yes rfl rfl (ov_load rfl (TR.cnt (tSl api_SelectCase.t) a4) (TR.agg (tSl api_SelectCase.t) a4)) ?_
        refine rd_yes rfl rfl (ov_bi rfl (sl_len a4 Try.underlying90 _)) ?_
        refine rd_yes rfl rfl (ov_bin rfl rfl i_gtr) ?_
        exact gK rfl rfl rfl rfl rfl k
      · exact gN 8 rfl rfl rfl rfl rfl rfl
    refine nS ?_
    refine rc_br hres rfl ?_ ?_ <;> clear hres <;> intro c hres <;> try simp only [qa, qaD] at c
    · refine sR ?_
      refine mB rfl ?_
      refine nS ?_
      exact rR hres rfl rfl rfl
    · refine rc_skip ?_
      refine pn_blk ?_
      refine pn_seq ?_
      refine rc_region ?_
      refine mV rfl ?_
      refine bN i_add rfl rfl ?_
      refine mV rfl ?_
      refine rd_nil ?_
      refine pn_again ?_
      have hbd := sl_bound a9
      have hinc : wr (a0 + 1) = a0 + 1 := wr_of (by omega) (by omega)
      erw [hinc]
      exact wC (ih   (by omega) (by omega) hres) rfl

theorem f28_ok {x0 : api_Program} {v0 : PV} (r0 : api_Program.t.R x0 v0) : FnR Try.prog 28 [v0] (vb (law22_Small x0)) := by
  refine fnS (R := RF28) text28 (fun _ h => h) rfl fun res hres => ?_
  unfold law22_Small at hres
  refine sR ?_
  refine rd_op (ov_box rfl (TR.cnt api_Program.t r0)) ?_
  refine mB rfl ?_
  refine nS ?_
  refine rc_seq ?_
  refine sR ?_
  refine lD r0 rfl rfl rfl ?_
  obtain ⟨a0, a1, hres⟩ := let_ex hres
  have b4 := f60_ok  r0 
  rw [a1] at b4
  refine cL b4 rfl rfl (clL_cons (TR.clo api_Program.t r0) clL_nil) ?_
  refine rd_op (ov_not rfl) ?_
  refine mV rfl ?_
  refine rd_cutn 5 (d := 13) (v := vb ((!a0) || (decide (30 < (x0.Tables.length : Int))))) ?_ ?_
  · intro S Q r
    cases b3 : (!a0)
    · intro k
      have a8 := b3
      try simp only [qa, qaD] at a8
      obtain ⟨c8, c4, a7⟩ := api_Program.g_Tables r0
      refine rd_yes rfl rfl (ov_faddr rfl c4) ?_
      refine rd_yes rfl rfl (ov_load rfl (TR.cnt (tSl api_Table.t) a7) (TR.agg (tSl api_Table.t) a7)) ?_
      refine rd_yes rfl rfl (ov_bi rfl (sl_len a7 Try.underlying26 _)) ?_
      refine rd_yes rfl rfl (ov_bin rfl rfl i_gtr) ?_
      exact gK rfl rfl rfl rfl rfl k
    · exact gN 4 rfl rfl rfl rfl rfl rfl
  refine mV rfl ?_
  refine rd_cutn 5 (d := 19) (v := vb (((!a0) || (decide (30 < (x0.Tables.length : Int)))) || (decide (30 < (x0.States.length : Int))))) ?_ ?_
  · intro S Q r
    cases b2 : ((!a0) || (decide (30 < (x0.Tables.length : Int))))
    · intro k
      have b1 := b2
      try simp only [qa, qaD] at b1
      obtain ⟨c9, c5, a6⟩ := api_Program.g_States r0
      refine rd_yes rfl rfl (ov_faddr rfl c5) ?_
      refine rd_yes rfl rfl (ov_load rfl (TR.cnt (tSl api_ParserState.t) a6) (TR.agg (tSl api_ParserState.t) a6)) ?_
      refine rd_yes rfl rfl (ov_bi rfl (sl_len a6 Try.underlying27 _)) ?_
      refine rd_yes rfl rfl (ov_bin rfl rfl i_gtr) ?_
      exact gK rfl rfl rfl rfl rfl k
    · exact gN 4 rfl rfl rfl rfl rfl rfl
  refine mV rfl ?_
  refine rd_cutn 5 (d := 25) (v := vb ((((!a0) || (decide (30 < (x0.Tables.length : Int)))) || (decide (30 < (x0.States.length : Int)))) || (decide (30 < (x0.Deparser.length : Int))))) ?_ ?_
  · intro S Q r
    cases b5 : (((!a0) || (decide (30 < (x0.Tables.length : Int)))) || (decide (30 < (x0.States.length : Int))))
    · intro k
      have b0 := b5
      try simp only [qa, qaD] at b0
      obtain ⟨c6, b9, a5⟩ := api_Program.g_Deparser r0
      refine rd_yes rfl rfl (ov_faddr rfl b9) ?_
      refine rd_yes rfl rfl (ov_load rfl (TR.cnt (tSl tI) a5) (TR.agg (tSl tI) a5)) ?_
      refine rd_yes rfl rfl (ov_bi rfl (sl_len a5 Try.underlying29 _)) ?_
      refine rd_yes rfl rfl (ov_bin rfl rfl i_gtr) ?_
      exact gK rfl rfl rfl rfl rfl k
    · exact gN 4 rfl rfl rfl rfl rfl rfl
  refine mV rfl ?_
  refine rd_cutn 5 (d := 31) (v := vb (((((!a0) || (decide (30 < (x0.Tables.length : Int)))) || (decide (30 < (x0.States.length : Int)))) || (decide (30 < (x0.Deparser.length : Int)))) || (decide (60 < (law22_blocks x0.Control 0 60))))) ?_ ?_
  · intro S Q r
    cases b6 : ((((!a0) || (decide (30 < (x0.Tables.length : Int)))) || (decide (30 < (x0.States.length : Int)))) || (decide (30 < (x0.Deparser.length : Int))))
    · intro k
      have a9 := b6
      try simp only [qa, qaD] at a9
      obtain ⟨c7, b7, a3⟩ := api_Program.g_Control r0
      refine rd_yes rfl rfl (ov_faddr rfl b7) ?_
      refine rd_yes rfl rfl (ov_load rfl (TR.cnt (tSl api_ControlNode.t) a3) (TR.agg (tSl api_ControlNode.t) a3)) ?_
      have b8 := f61_ok (x1 := 0) (x2 := 60) a3 
      refine rd_ycall rfl rfl (cv_fn rfl rfl (clL_cons (TR.clo (tSl api_ControlNode.t) a3) (clL_cons rfl (clL_cons rfl clL_nil))) b8) ?_
      refine rd_yes rfl rfl (ov_bin rfl rfl i_gtr) ?_
      exact gK rfl rfl rfl rfl rfl k
    · exact gN 4 rfl rfl rfl rfl rfl rfl
  refine nS ?_
  refine rc_br hres rfl ?_ ?_ <;> clear hres <;> intro a2 hres <;> have a4 := a2 <;> try simp only [qa, qaD] at a4
  · refine sR ?_
    refine mB rfl ?_
    refine nS ?_
    exact rR hres rfl rfl rfl
  · refine rc_skip ?_
    refine pn_seq ?_
    refine rc_seq ?_
    refine sR ?_
    refine mI rfl ?_
    refine nS ?_
    refine rc_block ?_
    refine wC (law22_Small_L1_ok r0 a1 a2 ?_  rfl (by omega) hres) rfl
    · intro  hres
      refine px_blk ?_
      refine pn_seq ?_
      refine rc_seq ?_
      refine sR ?_
      refine mI rfl ?_
      refine nS ?_
      refine rc_block ?_
      refine wC (law22_Small_L2_ok r0 a1 a2 ?_  rfl (by omega) hres) rfl
      · intro  hres
        refine px_blk ?_
        refine pn_seq ?_
        refine sR ?_
        refine mB rfl ?_
        refine nS ?_
        exact rR hres rfl rfl rfl

theorem f29_ok : FnR Try.prog 29 [] (vb law32_awake) := run29

def RF56 (i1_ w1_ : Nat) (R_ : List Ent) (res : Bool × Int) (r : PV) (h : Heap) : Prop := Mem h (⟨.op i1_ w1_ 0, 3, 1, [vi res.2]⟩ :: R_) ∧ r = vb res.1
theorem f56_ok {x0 : api_ControlNode} {c0 : Int} {v0 : PV} {R_ : List Ent} {h_ : Heap} {a1 a2 : Nat} (r0 : api_ControlNode.t.R x0 v0) (M_ : Mem h_ (⟨.op a1 a2 0, 3, 1, [vi c0]⟩ :: R_)) : ∃ r a5, FnX Try.prog 56 [v0, .op a1 a2 0] h_ r a5 ∧ RF56 a1 a2 R_ (control_Count_1 x0 c0) r a5 := by
  refine fnXX (R := RF56 a1 a2 R_) text56 rfl fun res hres => ?_
  unfold control_Count_1 at hres
  refine sR ?_
  refine rd_op (ov_box rfl (TR.cnt api_ControlNode.t r0)) ?_
  refine mB rfl ?_
  refine nR ?_
  refine rd_op (ov_load0 (k := 0) M_ rfl rfl rfl) ?_
  refine bN i_add rfl rfl ?_
  refine rd_storeO (k := 0) (v := vi (wr (c0 + 1))) M_ rfl rfl rfl rfl (fun a4 a0 => ?_)
  replace a0 : Mem a4 (⟨.op a1 a2 0, 3, 1, [vi (wr (c0 + 1))]⟩ :: R_) := a0
  refine nR ?_
  refine mB rfl ?_
  refine nS ?_
  have a3 : Mem a4 (⟨.op a1 a2 0, 3, 1, [vi (wr (c0 + 1))]⟩ :: R_) := (Mem.front (k := 0) a0 rfl)
  subst hres
  exact rc_retX (.tmp rfl .nil) ⟨Mem.sub a3 (.cons_cons _ (List.Sublist.refl R_)), rfl⟩
def ME56 (i1_ w1_ k_ : Nat) (s_ : Int) (L_ : List Ent) : Prop := (L_ = (⟨.op i1_ w1_ 0, 3, 1, [vi s_]⟩ :: [])) ∧ (True)
theorem mono56 (a0 a1 : Nat) : ∀ k_ s_ L_, ME56 a0 a1 (k_ + 1) s_ L_ → ME56 a0 a1 k_ s_ L_ := fun k_ s_ L_ h_ => ⟨h_.1, by have hi_ := h_.2; trivial⟩
theorem hv56 {a0 a1 : Nat} : VIS Try.prog 56 [.op a0 a1 0] (fun a_ s_ => control_Count_1 a_ s_) (ME56 a0 a1) (fun _ => True) := by
  intro k_ a_ va_ s_ L_ R_ h_ hg_ ra_ hE_ M_
  obtain ⟨hL_, hi_⟩ := hE_
  subst hL_
  obtain ⟨r_, a2, hX_, hZ_⟩ := f56_ok (x0 := a_) (c0 := s_) ra_   M_ 
  obtain ⟨a3, hr_⟩ := hZ_
  subst hr_
  exact ⟨a2, _, hX_, ⟨rfl, by trivial⟩, a3⟩

def RF20 (res : Int) (r : PV) : Prop := r = vi res
theorem f20_ok {x0 : List api_ControlNode} {v0 : PV} (r0 : (tSl api_ControlNode.t).R x0 v0) : FnR Try.prog 20 [v0] (vi (control_Count x0)) := by
  refine fnS (R := RF20) text20 (fun _ h => h) rfl fun res hres => ?_
  unfold control_Count at hres
  refine sR ?_
  refine mI rfl ?_
  refine nR ?_
  refine rd_allocO (x := vi 0) (Mem.nil ⟨0, []⟩) rfl rfl (fun a0 a1 b5 b1 => ?_)
  refine rd_storeO (k := 0) (v := vi 0) b1 rfl rfl rfl rfl (fun a4 a5 => ?_)
  replace a5 : Mem a4 [⟨.op a0 a1 0, 3, 1, [vi 0]⟩] := a5
  refine nS ?_
  refine rc_seq ?_
  refine rc_regionS ?_
  refine rs_step ?_
  refine mV rfl ?_
  refine rs_back ?_
  refine rs_step ?_
  refine rd_op (v := .fn (.func 56) [] [.op a0 a1 0]) (ov_mkFunc rfl rfl) ?_
  refine rs_back ?_
  have b2 : Mem a4 [⟨.op a0 a1 0, 3, 1, [vi 0]⟩] := (Mem.front (k := 0) a5 rfl)
  obtain ⟨a3, a9, hres⟩ := let_ex hres
  obtain ⟨b0, b4, a8, a6, a2⟩ : ∃ h2 L2, FnX Try.prog 48 [v0, .fn (.func 56) [] [.op a0 a1 0]] a4 (vb a3.1) h2 ∧ ME56 a0 a1 0 a3.2 L2 ∧ Mem h2 (L2 ++ []) := by
    rw [← a9]
    exact f48_pre (mono56 a0 a1) (hv56  ) _ _ (Nat.lt_succ_self _) (by exact fun _ _ => trivial) 0 _ 0 [⟨.op a0 a1 0, 3, 1, [vi 0]⟩] [] _ r0 (show ME56 a0 a1 (csl x0 + 0) 0 [⟨.op a0 a1 0, 3, 1, [vi 0]⟩] from ⟨rfl, by trivial⟩) b2
  obtain ⟨a7, b3⟩ := a6
  subst a7
  replace a2 : Mem b0 [⟨.op a0 a1 0, 3, 1, [vi a3.2]⟩] := a2
  refine rs_callX rfl rfl a8 ?_
  refine rs_nil ?_
  refine pn_seq ?_
  refine sR ?_
  refine rd_op (ov_load0 (k := 0) a2 rfl rfl rfl) ?_
  refine mV rfl ?_
  refine nS ?_
  exact rR hres rfl rfl rfl

def RF22 (res : Int) (r : PV) : Prop := r = vi res
theorem control_Nesting_L1_ok {S : List Fr} {res : Int} {x0 : List api_ControlNode} {rec_ : (List api_ControlNode) → Int} {mu_ : Nat} {v0 : PV} (r0 : (tSl api_ControlNode.t).R x0 v0) (ihR : ∀ {z0 : List api_ControlNode} {c6 : PV} (d3 : (tSl api_ControlNode.t).R z0 c6), csl z0 < mu_ → FnR Try.prog 22 [c6] (vi (rec_ z0))) (hmu : mu_ = csl x0) (b2 : (decide ((x0.length : Int) = 0)) = false) {K0 : Int → Int}
    (d2 : ∀ {a3 : Int} {h : Heap} (M0 : Mem h []), K0 a3 = res → PX Try.prog 0 S (QR Try.prog [(2, none)] (RF22 res)) [(3, vi a3)] h) :
    ∀ {m : Nat} {a3 a0 : Int} (c5 : m = Int.toNat ((x0.length : Int) - a0)) (a5 : 0 ≤ a0) {h : Heap} (M0 : Mem h []), control_Nesting_L1 x0 rec_ K0 m a3 a0 = res → RC Try.prog (.loop ac22_L1) S (QR Try.prog [(2, none)] (RF22 res)) [(11, vi a0), (10, vi (x0.length : Int)), (9, v0), (3, vi a3)] h := by
  have a4 := b2
  try simp only [qa, qaD] at a4
  intro m
  induction m with
  | zero =>
    intro a3 a0 c5 a5 h M0 hres
    rw [control_Nesting_L1] at hres
    refine rc_loop ?_
    refine sR ?_
    refine bN i_lss rfl rfl ?_
    refine nS ?_
    refine rc_seq ?_
    refine rc_cond rfl ?_ ?_ <;> intro c <;> try simp only [qa, qaD] at c
    · omega
    refine rc_exit ?_
    refine px_seq ?_
    refine px_again ?_
    exact wP (d2 (Mem.sub M0 .slnil) hres) rfl
  | succ m ih =>
    intro a3 a0 c5 a5 h M0 hres
    rw [control_Nesting_L1] at hres
    refine rc_loop ?_
    refine sR ?_
    refine bN i_lss rfl rfl ?_
    refine nS ?_
    refine rc_seq ?_
    refine rc_cond rfl ?_ ?_ <;> intro c <;> try simp only [qa, qaD] at c
    rotate_left
    · omega
    refine rc_skip ?_
    refine pn_seq ?_
    refine rc_seq ?_
    refine rc_block ?_
    refine sR ?_
    obtain ⟨a8, b5, a2⟩ := sl_idx (i := a0) r0 (by omega) (by omega)
    refine rd_op (ov_iaddr rfl rfl b5) ?_
    refine lD a2 rfl rfl rfl ?_
    refine rd_allocO (x := .agg [vi 0, vi 0, nilS, nilS, nilS]) M0 rfl rfl (fun b8 b4 c8 c4 => ?_)
    refine rd_storeO (k := 0) (v := a8) c4 rfl rfl rfl (TR.cnt api_ControlNode.t a2) (fun b7 a1 => ?_)
    replace a1 : Mem b7 [⟨.op b8 b4 0, 40, 5, [a8]⟩] := a1
    refine nS ?_
    refine rc_region ?_
    refine mV rfl ?_
    refine rd_op (ov_faddrO rfl) ?_
    obtain ⟨c9, b9, a6⟩ := api_ControlNode.g_Then a2
    refine rd_op (ov_loadf (k := 0) a1 rfl rfl b9) ?_
    obtain ⟨d0, b0, hres⟩ := let_ex hres
    have a9 := ihR (z0 := (ix x0 a0).Then) a6  (by (have hk := csl_ix (l := x0) (by omega) (by omega); omega))
    rw [b0] at a9
    refine cL a9 rfl rfl (clL_cons (TR.clo (tSl api_ControlNode.t) a6) clL_nil) ?_
    refine rd_op (ov_faddrO rfl) ?_
    obtain ⟨c7, b6, b3⟩ := api_ControlNode.g_Else a2
    refine rd_op (ov_loadf (k := 0) a1 rfl rfl b6) ?_
    obtain ⟨d1, b1, hres⟩ := let_ex hres
    have a7 := ihR (z0 := (ix x0 a0).Else) b3  (by (have hk := csl_ix (l := x0) (by omega) (by omega); omega))
    rw [b1] at a7
    refine cL a7 rfl rfl (clL_cons (TR.clo (tSl api_ControlNode.t) b3) clL_nil) ?_
    refine rd_op (ov_bi rfl (max_int3 _ _)) ?_
    refine mV rfl ?_
    refine rd_nil ?_
    refine pn_blk ?_
    refine pn_seq ?_
    refine rc_region ?_
    refine bN i_add rfl rfl ?_
    refine mV rfl ?_
    refine rd_nil ?_
    refine pn_again ?_
    have hbd := sl_bound r0
    have hinc : wr (a0 + 1) = a0 + 1 := wr_of (by omega) (by omega)
    erw [hinc]
    exact wC (ih   (by omega) (by omega) (Mem.sub a1 (.cons _ .slnil)) hres) rfl

theorem f22_okB {rec_ : (List api_ControlNode) → Int} {mu_ : Nat} {x0 : List api_ControlNode} {v0 : PV} (r0 : (tSl api_ControlNode.t).R x0 v0) (hmu : mu_ = csl x0) (ihR : ∀ {z0 : List api_ControlNode} {a3 : PV} (a6 : (tSl api_ControlNode.t).R z0 a3), csl z0 < mu_ → FnR Try.prog 22 [a3] (vi (rec_ z0))) : FnR Try.prog 22 [v0] (vi (control_Nesting_B rec_ x0)) := by
  refine fnS (R := RF22) text22 (fun _ h => h) rfl fun res hres => ?_
  unfold control_Nesting_B at hres
  refine sR ?_
  refine mI rfl ?_
  refine nS ?_
  refine rc_seq ?_
  refine sR ?_
  refine mV rfl ?_
  refine rd_op (ov_bi rfl (sl_len r0 Try.underlying28 _)) ?_
  refine bN i_eql rfl rfl ?_
  refine nS ?_
  refine rc_br hres rfl ?_ ?_ <;> clear hres <;> intro a0 hres <;> have a1 := a0 <;> try simp only [qa, qaD] at a1
  · refine sR ?_
    refine mI rfl ?_
    refine nS ?_
    exact rR hres rfl rfl rfl
  · refine rc_skip ?_
    refine pn_seq ?_
    refine sR ?_
    refine mI rfl ?_
    refine nS ?_
    refine rc_seq ?_
    refine sR ?_
    refine mV rfl ?_
    refine rd_op (ov_bi rfl (sl_len r0 Try.underlying28 _)) ?_
    refine mI rfl ?_
    refine nS ?_
    refine rc_block ?_
    refine wC (control_Nesting_L1_ok r0 ihR hmu a0 ?_  rfl (by omega) (Mem.sub (Mem.nil ⟨0, []⟩) .slnil) hres) rfl
    · intro a2 a4 a5 hres
      refine px_blk ?_
      refine pn_seq ?_
      refine sR ?_
      refine mV rfl ?_
      refine bN i_add rfl rfl ?_
      refine mV rfl ?_
      refine nS ?_
      exact rR hres rfl rfl rfl
theorem f22_okR : ∀ (n_ : Nat) {x0 : List api_ControlNode} {v0 : PV} (r0 : (tSl api_ControlNode.t).R x0 v0), csl x0 < n_ → FnR Try.prog 22 [v0] (vi (control_Nesting_R n_ x0)) := by
  intro n_
  induction n_ with
  | zero => intros; rename_i hlt; exact absurd hlt (Nat.not_lt_zero _)
  | succ n_ ihn =>
    intro x0 v0 r0 hlt
    have e_ : control_Nesting_R (n_ + 1) x0 = control_Nesting_B (control_Nesting_R n_) x0 := by rw [control_Nesting_R]
    rw [e_]
    exact f22_okB r0 rfl (fun {z0} {zv0} zr0 hz => ihn zr0 (by omega))
theorem f22_ok {x0 : List api_ControlNode} {v0 : PV} (r0 : (tSl api_ControlNode.t).R x0 v0) : FnR Try.prog 22 [v0] (vi (control_Nesting x0)) := f22_okR _ r0 (Nat.lt_succ_self _)

def RF86 (res : Int) (r : PV) : Prop := r = vi res
theorem f86_ok {x0 : Int} : FnR Try.prog 86 [vi x0] (vi (expr_arity x0)) := by
  refine fnS (R := RF86) text86 (fun _ h => h) rfl fun res hres => ?_
  unfold expr_arity at hres
  refine sR ?_
  refine mI rfl ?_
  refine nS ?_
  refine rc_seq ?_
  refine sR ?_
  refine mV rfl ?_
  refine nS ?_
  refine rc_block ?_
  refine rc_seq ?_
  refine sR ?_
  refine bN i_eql rfl rfl ?_
  refine mV rfl ?_
  refine nS ?_
  obtain ⟨a8, a5, hres⟩ := let_ex hres
  refine rc_join (F := fun b S Q => ∀ (a2 : Bool), a8 a2 = res → RC Try.prog b S Q [(4, vb a2), (3, vi x0)] ⟨0, []⟩) ?_ ?_
  · intro a2  hres
    rw [← a5] at hres
    refine rc_br hres rfl ?_ ?_ <;> clear hres <;> intro c hres <;> try simp only [qa, qaD] at c
    · refine sR ?_
      refine mI rfl ?_
      refine nS ?_
      exact rR hres rfl rfl rfl
    · refine rc_seq ?_
      refine sR ?_
      refine bN i_eql rfl rfl ?_
      refine mV rfl ?_
      refine nS ?_
      obtain ⟨a7, a4, hres⟩ := let_ex hres
      refine rc_join (F := fun b S Q => ∀ (a1 : Bool), a7 a1 = res → RC Try.prog b S Q [(9, vb a1), (3, vi x0)] ⟨0, []⟩) ?_ ?_
      · intro a1  hres
        rw [← a4] at hres
        refine rc_br hres rfl ?_ ?_ <;> clear hres <;> intro c hres <;> try simp only [qa, qaD] at c
        · refine sR ?_
          refine mI rfl ?_
          refine nS ?_
          exact rR hres rfl rfl rfl
        · refine rc_seq ?_
          refine sR ?_
          refine bN i_eql rfl rfl ?_
          refine mV rfl ?_
          refine nS ?_
          obtain ⟨a6, a3, hres⟩ := let_ex hres
          refine rc_join (F := fun b S Q => ∀ (a0 : Bool), a6 a0 = res → RC Try.prog b S Q [(14, vb a0), (3, vi x0)] ⟨0, []⟩) ?_ ?_
          · intro a0  hres
            rw [← a3] at hres
            refine rc_br hres rfl ?_ ?_ <;> clear hres <;> intro c hres <;> try simp only [qa, qaD] at c
            · refine sR ?_
              refine mI rfl ?_
              refine nS ?_
              exact rR hres rfl rfl rfl
            · refine sR ?_
              refine bN i_eql rfl rfl ?_
              refine mV rfl ?_
              refine nS ?_
              refine rc_br hres rfl ?_ ?_ <;> clear hres <;> intro c hres <;> try simp only [qa, qaD] at c
              · refine sR ?_
                refine mI rfl ?_
                refine nS ?_
                exact rR hres rfl rfl rfl
              · refine rc_skip ?_
                refine pn_blk ?_
                refine pn_seq ?_
                refine sR ?_
                refine mI rfl ?_
                refine nS ?_
                exact rR hres rfl rfl rfl
          · intro J
            refine rc_br hres rfl ?_ ?_ <;> clear hres <;> intro c hres <;> try simp only [qa, qaD] at c
            · refine rc_skip ?_
              refine pn_seq (wC (J _  hres) rfl)
            · refine sR ?_
              refine bN i_eql rfl rfl ?_
              refine mV rfl ?_
              refine nS ?_
              refine rc_br hres rfl ?_ ?_ <;> clear hres <;> intro c hres <;> try simp only [qa, qaD] at c
              · refine rc_skip ?_
                refine pn_seq (wC (J _  hres) rfl)
              · refine sR ?_
                refine bN i_eql rfl rfl ?_
                refine mV rfl ?_
                refine nS ?_
                refine rc_br hres rfl ?_ ?_ <;> clear hres <;> intro c hres <;> try simp only [qa, qaD] at c
                · refine rc_skip ?_
                  refine pn_seq (wC (J _  hres) rfl)
                · refine sR ?_
                  refine bN i_eql rfl rfl ?_
                  refine mV rfl ?_
                  refine nS ?_
                  refine rc_br hres rfl ?_ ?_ <;> clear hres <;> intro c hres <;> try simp only [qa, qaD] at c
                  · refine rc_skip ?_
                    refine pn_seq (wC (J _  hres) rfl)
                  · refine sR ?_
                    refine bN i_eql rfl rfl ?_
                    refine mV rfl ?_
                    refine nS ?_
                    refine rc_br hres rfl ?_ ?_ <;> clear hres <;> intro c hres <;> try simp only [qa, qaD] at c
                    · refine rc_skip ?_
                      refine pn_seq (wC (J _  hres) rfl)
                    · refine sR ?_
                      refine bN i_eql rfl rfl ?_
                      refine mV rfl ?_
                      refine nS ?_
                      refine rc_br hres rfl ?_ ?_ <;> clear hres <;> intro c hres <;> try simp only [qa, qaD] at c
                      · refine rc_skip ?_
                        refine pn_seq (wC (J _  hres) rfl)
                      · refine sR ?_
                        refine bN i_eql rfl rfl ?_
                        refine mV rfl ?_
                        refine nS ?_
                        refine rc_br hres rfl ?_ ?_ <;> clear hres <;> intro c hres <;> try simp only [qa, qaD] at c
                        · refine rc_skip ?_
                          refine pn_seq (wC (J _  hres) rfl)
                        · refine rc_region ?_
                          refine bN i_eql rfl rfl ?_
                          refine mV rfl ?_
                          refine rd_nil ?_
                          refine pn_seq (wC (J _  hres) rfl)
      · intro J
        refine rc_br hres rfl ?_ ?_ <;> clear hres <;> intro c hres <;> try simp only [qa, qaD] at c
        · refine rc_skip ?_
          refine pn_seq (wC (J _  hres) rfl)
        · refine sR ?_
          refine bN i_eql rfl rfl ?_
          refine mV rfl ?_
          refine nS ?_
          refine rc_br hres rfl ?_ ?_ <;> clear hres <;> intro c hres <;> try simp only [qa, qaD] at c
          · refine rc_skip ?_
            refine pn_seq (wC (J _  hres) rfl)
          · refine sR ?_
            refine bN i_eql rfl rfl ?_
            refine mV rfl ?_
            refine nS ?_
            refine rc_br hres rfl ?_ ?_ <;> clear hres <;> intro c hres <;> try simp only [qa, qaD] at c
            · refine rc_skip ?_
              refine pn_seq (wC (J _  hres) rfl)
            · refine rc_region ?_
              refine bN i_eql rfl rfl ?_
              refine mV rfl ?_
              refine rd_nil ?_
              refine pn_seq (wC (J _  hres) rfl)
  · intro J
    refine rc_br hres rfl ?_ ?_ <;> clear hres <;> intro c hres <;> try simp only [qa, qaD] at c
    · refine rc_skip ?_
      refine pn_seq (wC (J _  hres) rfl)
    · refine sR ?_
      refine bN i_eql rfl rfl ?_
      refine mV rfl ?_
      refine nS ?_
      refine rc_br hres rfl ?_ ?_ <;> clear hres <;> intro c hres <;> try simp only [qa, qaD] at c
      · refine rc_skip ?_
        refine pn_seq (wC (J _  hres) rfl)
      · refine sR ?_
        refine bN i_eql rfl rfl ?_
        refine mV rfl ?_
        refine nS ?_
        refine rc_br hres rfl ?_ ?_ <;> clear hres <;> intro c hres <;> try simp only [qa, qaD] at c
        · refine rc_skip ?_
          refine pn_seq (wC (J _  hres) rfl)
        · refine rc_region ?_
          refine bN i_eql rfl rfl ?_
          refine mV rfl ?_
          refine rd_nil ?_
          refine pn_seq (wC (J _  hres) rfl)

end Go.Proofs.Ytkgnjpoafilicaa
