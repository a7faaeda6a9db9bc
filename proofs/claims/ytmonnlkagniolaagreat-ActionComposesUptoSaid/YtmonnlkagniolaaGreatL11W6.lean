/-
  The code of each function does what its plain program says.
-/
import Derived.Test.YtmonnlkagniolaaGreatL11W5
set_option linter.unusedVariables false
set_option linter.unusedSimpArgs false
set_option maxRecDepth 100000
namespace Go.Proofs.YtmonnlkagniolaaGreat
open Go Go.Pb Go.RowKit
def RF46 (res : Bool) (r : PV) : Prop := r = vb res
theorem ref15_Equal_L1_ok {S : List Fr} {res : Bool} {x0 : List (List (BitVec 32))} {x1 : List (List (BitVec 32))} {v0 v1 : PV} (r0 : (tSl (tSl tU32)).R x0 v0) (r1 : (tSl (tSl tU32)).R x1 v1) (a7 : (!decide ((x0.length : Int) = (x1.length : Int))) = false) {K0 : Unit → Bool}
    (b1 : K0 () = res → PX Tryz.prog 0 S (QR Tryz.prog [(4, none)] (RF46 res)) [] ⟨0, []⟩) :
    ∀ {m : Nat} {a0 : Int} (b0 : m = Int.toNat ((x0.length : Int) - a0)) (a6 : 0 ≤ a0), ref15_Equal_L1 x0 x1 K0 m a0 = res → RC Tryz.prog (.loop ac46_L1) S (QR Tryz.prog [(4, none)] (RF46 res)) [(5, vi a0), (1, v1), (0, v0)] ⟨0, []⟩ := by
  have a3 := a7
  try simp only [qa, qaD] at a3
  intro m
  induction m with
  | zero =>
    intro a0 b0 a6 hres
    rw [ref15_Equal_L1] at hres
    refine rc_loop ?_
    refine rc_seq ?_
    refine sR ?_
    refine mV rfl ?_
    refine mV rfl ?_
    refine rd_op (ov_bi rfl (sl_len r0 Tryz.underlying42 _)) ?_
    refine bN i_lss rfl rfl ?_
    refine nS ?_
    refine rc_cond rfl ?_ ?_ <;> intro c <;> try simp only [qa, qaD] at c
    · omega
    refine rc_exit ?_
    refine px_seq ?_
    refine px_again ?_
    exact wP (b1  hres) rfl
  | succ m ih =>
    intro a0 b0 a6 hres
    rw [ref15_Equal_L1] at hres
    refine rc_loop ?_
    refine rc_seq ?_
    refine sR ?_
    refine mV rfl ?_
    refine mV rfl ?_
    refine rd_op (ov_bi rfl (sl_len r0 Tryz.underlying42 _)) ?_
    refine bN i_lss rfl rfl ?_
    refine nS ?_
    refine rc_cond rfl ?_ ?_ <;> intro c <;> try simp only [qa, qaD] at c
    rotate_left
    · omega
    refine rc_skip ?_
    refine pn_seq ?_
    refine rc_seq ?_
    refine rc_block ?_
    refine sR ?_
    refine mV rfl ?_
    refine mV rfl ?_
    obtain ⟨b4, a9, a1⟩ := sl_idx (i := a0) r0 (by omega) (by omega)
    refine rd_op (ov_iaddr rfl rfl a9) ?_
    refine lD a1 rfl rfl rfl ?_
    refine mV rfl ?_
    refine mV rfl ?_
    obtain ⟨b2, a8, a2⟩ := sl_idx (i := a0) r1 (by omega) (by omega)
    refine rd_op (ov_iaddr rfl rfl a8) ?_
    refine lD a2 rfl rfl rfl ?_
    obtain ⟨b3, a4, hres⟩ := let_ex hres
    have a5 := f24_ok  a1 a2 
    rw [a4] at a5
    refine cL a5 rfl rfl (clL_cons (TR.clo (tSl tU32) a1) (clL_cons (TR.clo (tSl tU32) a2) clL_nil)) ?_
    refine rd_op (ov_not rfl) ?_
    refine nS ?_
    refine rc_br hres rfl ?_ ?_ <;> clear hres <;> intro c hres <;> try simp only [qa, qaD] at c
    · refine sR ?_
      refine mB rfl ?_
      refine nS ?_
      exact rR hres rfl rfl rfl
    · refine rc_skip ?_
      refine pn_blk ?_
      refine pn_seq ?_
      refine rc_region ?_
      refine mV rfl ?_
      refine bN i_add rfl rfl ?_
      refine mV rfl ?_
      refine rd_nil ?_
      refine pn_again ?_
      have hbd := sl_bound r0
      have hinc : wr (a0 + 1) = a0 + 1 := wr_of (by omega) (by omega)
      erw [hinc]
      exact wC (ih   (by omega) (by omega) hres) rfl

theorem f46_ok {x0 : List (List (BitVec 32))} {x1 : List (List (BitVec 32))} {v0 v1 : PV} (r0 : (tSl (tSl tU32)).R x0 v0) (r1 : (tSl (tSl tU32)).R x1 v1) : FnR Tryz.prog 46 [v0, v1] (vb (ref15_Equal x0 x1)) := by
  refine fnS (R := RF46) text46 (fun _ h => h) rfl fun res hres => ?_
  unfold ref15_Equal at hres
  refine sR ?_
  refine mB rfl ?_
  refine nS ?_
  refine rc_seq ?_
  refine sR ?_
  refine mV rfl ?_
  refine rd_op (ov_bi rfl (sl_len r0 Tryz.underlying42 _)) ?_
  refine mV rfl ?_
  refine rd_op (ov_bi rfl (sl_len r1 Tryz.underlying42 _)) ?_
  refine bN i_neq rfl rfl ?_
  refine nS ?_
  refine rc_br hres rfl ?_ ?_ <;> clear hres <;> intro a0 hres <;> have a1 := a0 <;> try simp only [qa, qaD] at a1
  · refine sR ?_
    refine mB rfl ?_
    refine nS ?_
    exact rR hres rfl rfl rfl
  · refine rc_skip ?_
    refine pn_seq ?_
    refine rc_seq ?_
    refine sR ?_
    refine mI rfl ?_
    refine nS ?_
    refine rc_block ?_
    refine wC (ref15_Equal_L1_ok r0 r1 a0 ?_  rfl (by omega) hres) rfl
    · intro  hres
      refine px_blk ?_
      refine pn_seq ?_
      refine sR ?_
      refine mB rfl ?_
      refine nS ?_
      exact rR hres rfl rfl rfl

def RF11 (res : Bool) (r : PV) : Prop := r = vb res
theorem f11_ok {x0 : law16_Case} {x1 : Int} {v0 : PV} (r0 : law16_Case.t.R x0 v0) (hE : EB x0.E) (hR : RB x0.Regs) : FnR Tryz.prog 11 [v0, vi x1] (vb (law16_ActionComposes x0 x1)) := by
  refine fnS (R := RF11) text11 (fun _ h => h) rfl fun res hres => ?_
  unfold law16_ActionComposes at hres
  refine sR ?_
  refine rd_op (ov_box rfl (TR.cnt law16_Case.t r0)) ?_
  refine mB rfl ?_
  refine nS ?_
  refine rc_seq ?_
  refine sR ?_
  refine gL (law16_Case.g_P r0) rfl rfl rfl fun c8 k5 => ?_
  obtain ⟨b4, j5, hres⟩ := let_ex hres
  have j7 := f33_ok  k5 
  rw [j5] at j7
  refine cL j7 rfl rfl (clL_cons (TR.clo api_Program.t k5) clL_nil) ?_
  refine rd_op (ov_not rfl) ?_
  refine mV rfl ?_
  refine rd_cutn 6 (d := 26) (v := vb ((!b4) || (decide (40 < (x0.Call.Args.length : Int))))) ?_ ?_
  · intro S Q r
    cases j0 : (!b4)
    · intro k
      have g5 := j0
      try simp only [qa, qaD] at g5
      obtain ⟨r4, o0, o6⟩ := law16_Case.g_Call r0
      refine rd_yes rfl rfl (ov_faddr rfl o0) ?_
      obtain ⟨q8, l1, h5⟩ := api_ActionCall.g_Args o6
      refine rd_yes rfl rfl (ov_faddr rfl l1) ?_
      refine rd_yes rfl rfl (ov_load rfl (TR.cnt (tSl tU32) h5) (TR.agg (tSl tU32) h5)) ?_
      refine rd_yes rfl rfl (ov_bi rfl (sl_len h5 Tryz.underlying43 _)) ?_
      refine rd_yes rfl rfl (ov_bin rfl rfl i_gtr) ?_
      exact gK rfl rfl rfl rfl rfl k
    · exact gN 5 rfl rfl rfl rfl rfl rfl
  refine nS ?_
  refine rc_br hres rfl ?_ ?_ <;> clear hres <;> intro c hres <;> try simp only [qa, qaD] at c
  · refine sR ?_
    obtain ⟨q4, j8, hres⟩ := let_ex hres
    have i6 := f34_ok   
    rw [j8] at i6
    refine cL i6 rfl rfl clL_nil ?_
    refine mV rfl ?_
    refine nS ?_
    exact rR hres rfl rfl rfl
  · refine rc_skip ?_
    refine pn_seq ?_
    refine sR ?_
    obtain ⟨e7, o2, n7⟩ := law16_Case.g_Call r0
    refine fA rfl o2 ?_
    refine fL rfl (api_ActionCall.g_Action n7) rfl rfl ?_
    refine mV rfl ?_
    refine nS ?_
    refine rc_seq ?_
    refine sR ?_
    refine gL (law16_Case.g_P r0) rfl rfl rfl fun c6 i4 => ?_
    refine mV rfl ?_
    obtain ⟨a0, k3, hres⟩ := let_ex hres
    have j9 := f35_ok (x1 := x0.Call.Action) i4 
    rw [k3] at j9
    refine cL j9 rfl rfl (clL_cons (TR.clo api_Program.t i4) (clL_cons rfl clL_nil)) ?_
    refine mV rfl ?_
    refine xT rfl rfl ?_
    refine xT rfl rfl ?_
    refine mV rfl ?_
    refine mV rfl ?_
    refine nR ?_
    refine mV rfl ?_
    refine bN i_neq rfl rfl ?_
    refine mV rfl ?_
    refine rd_cutn 3 (d := 43) (v := vb ((!decide (a0.2 = 0)) || (decide (x0.Call.Action < 0)))) ?_ ?_
    · intro S Q r
      cases h9 : (!decide (a0.2 = 0))
      · intro k
        have f9 := h9
        try simp only [qa, qaD] at f9
        refine rd_yes rfl rfl (ov_move rfl) ?_
        refine rd_yes rfl rfl (ov_bin rfl rfl i_lss) ?_
        exact gK rfl rfl rfl rfl rfl k
      · exact gN 2 rfl rfl rfl rfl rfl rfl
    refine mV rfl ?_
    refine rd_cutn 7 (d := 51) (v := vb (((!decide (a0.2 = 0)) || (decide (x0.Call.Action < 0))) || (decide ((x0.P.Actions.length : Int) ≤ x0.Call.Action)))) ?_ ?_
    · intro S Q r
      cases i3 : ((!decide (a0.2 = 0)) || (decide (x0.Call.Action < 0)))
      · intro k
        have h0 := i3
        try simp only [qa, qaD] at h0
        refine rd_yes rfl rfl (ov_move rfl) ?_
        obtain ⟨r3, o9, n6⟩ := law16_Case.g_P r0
        refine rd_yes rfl rfl (ov_faddr rfl o9) ?_
        obtain ⟨s6, l6, h4⟩ := api_Program.g_Actions n6
        refine rd_yes rfl rfl (ov_faddr rfl l6) ?_
        refine rd_yes rfl rfl (ov_load rfl (TR.cnt (tSl api_Action.t) h4) (TR.agg (tSl api_Action.t) h4)) ?_
        refine rd_yes rfl rfl (ov_bi rfl (sl_len h4 Tryz.underlying25 _)) ?_
        refine rd_yes rfl rfl (ov_bin rfl rfl i_geq) ?_
        exact gK rfl rfl rfl rfl rfl k
      · exact gN 6 rfl rfl rfl rfl rfl rfl
    refine mV rfl ?_
    refine rd_cutn 3 (d := 55) (v := vb ((((!decide (a0.2 = 0)) || (decide (x0.Call.Action < 0))) || (decide ((x0.P.Actions.length : Int) ≤ x0.Call.Action))) || (decide (x1 < 0)))) ?_ ?_
    · intro S Q r
      cases i5 : (((!decide (a0.2 = 0)) || (decide (x0.Call.Action < 0))) || (decide ((x0.P.Actions.length : Int) ≤ x0.Call.Action)))
      · intro k
        have f7 := i5
        try simp only [qa, qaD] at f7
        refine rd_yes rfl rfl (ov_move rfl) ?_
        refine rd_yes rfl rfl (ov_bin rfl rfl i_lss) ?_
        exact gK rfl rfl rfl rfl rfl k
      · exact gN 2 rfl rfl rfl rfl rfl rfl
    refine mV rfl ?_
    refine rd_cutn 11 (d := 67) (v := vb (((((!decide (a0.2 = 0)) || (decide (x0.Call.Action < 0))) || (decide ((x0.P.Actions.length : Int) ≤ x0.Call.Action))) || (decide (x1 < 0))) || (decide ((((ix x0.P.Actions x0.Call.Action).Body).length : Int) < x1)))) ?_ ?_
    · intro S Q r
      cases i2 : ((((!decide (a0.2 = 0)) || (decide (x0.Call.Action < 0))) || (decide ((x0.P.Actions.length : Int) ≤ x0.Call.Action))) || (decide (x1 < 0)))
      · intro k
        have f4 := i2
        try simp only [qa, qaD] at f4
        refine rd_yes rfl rfl (ov_move rfl) ?_
        obtain ⟨q6, p0, p4⟩ := law16_Case.g_P r0
        refine rd_yes rfl rfl (ov_faddr rfl p0) ?_
        obtain ⟨r1, p6, g0⟩ := api_Program.g_Actions p4
        refine rd_yes rfl rfl (ov_faddr rfl p6) ?_
        refine rd_yes rfl rfl (ov_load rfl (TR.cnt (tSl api_Action.t) g0) (TR.agg (tSl api_Action.t) g0)) ?_
        refine rd_yes rfl rfl (ov_move rfl) ?_
        obtain ⟨s9, p1, o8⟩ := sl_idx (i := x0.Call.Action) g0 (by omega) (by omega)
        refine rd_yes rfl rfl (ov_iaddr rfl rfl p1) ?_
        obtain ⟨q5, p3, f2⟩ := api_Action.g_Body o8
        refine rd_yes rfl rfl (ov_faddr rfl p3) ?_
        refine rd_yes rfl rfl (ov_load rfl (TR.cnt (tSl api_Statement.t) f2) (TR.agg (tSl api_Statement.t) f2)) ?_
        refine rd_yes rfl rfl (ov_bi rfl (sl_len f2 Tryz.underlying95 _)) ?_
        refine rd_yes rfl rfl (ov_bin rfl rfl i_gtr) ?_
        exact gK rfl rfl rfl rfl rfl k
      · exact gN 10 rfl rfl rfl rfl rfl rfl
    refine nS ?_
    refine rc_br hres rfl ?_ ?_ <;> clear hres <;> intro c hres <;> try simp only [qa, qaD] at c
    · refine sR ?_
      obtain ⟨s0, h7, hres⟩ := let_ex hres
      have j3 := f34_ok   
      rw [h7] at j3
      refine cL j3 rfl rfl clL_nil ?_
      refine mV rfl ?_
      refine nS ?_
      exact rR hres rfl rfl rfl
    · refine rc_skip ?_
      refine pn_seq ?_
      refine sR ?_
      obtain ⟨e2, n9, l2⟩ := law16_Case.g_P r0
      refine fA rfl n9 ?_
      refine gL (api_Program.g_Actions l2) rfl rfl rfl fun c7 n5 => ?_
      refine mV rfl ?_
      obtain ⟨b5, o7, d2⟩ := sl_idx (i := x0.Call.Action) n5 (by omega) (by omega)
      refine rd_op (ov_iaddr rfl rfl o7) ?_
      refine lD d2 rfl rfl rfl ?_
      refine rd_allocO (x := .agg [vs [], nilS, nilS]) (Mem.nil ⟨0, []⟩) rfl rfl (fun b1 b0 q9 m7 => ?_)
      refine rd_storeO (k := 0) (v := b5) m7 rfl rfl rfl (TR.cnt api_Action.t d2) (fun n2 g4 => ?_)
      replace g4 : Mem n2 [⟨.op b1 b0 0, 97, 3, [b5]⟩] := g4
      refine nR ?_
      refine gL (law16_Case.g_P r0) rfl rfl rfl fun c3 i9 => ?_
      refine rd_allocO (x := .agg [vs [], nilS, nilS, nilS, nilS, nilS, nilS, nilS, nilS]) g4 rfl rfl (fun c5 c4 s2 p8 => ?_)
      refine rd_storeO (k := 0) (v := c3) p8 rfl rfl rfl (TR.cnt api_Program.t i9) (fun f6 c9 => ?_)
      replace c9 : Mem f6 [⟨.op c5 c4 0, 31, 9, [c3]⟩, ⟨.op b1 b0 0, 97, 3, [b5]⟩] := c9
      refine nR ?_
      refine rd_op (ov_faddrO rfl) ?_
      obtain ⟨a8, n0, g8⟩ := api_Action.g_Params d2
      refine rd_op (ov_loadf (k := 1) c9 rfl rfl n0) ?_
      refine rd_op (ov_faddrO rfl) ?_
      obtain ⟨e0, o3, m5⟩ := api_Action.g_Body d2
      refine rd_op (ov_loadf (k := 1) c9 rfl rfl o3) ?_
      refine mV rfl ?_
      refine rd_weak (E0 := [(81, vi x1), (80, e0), (79, .op b1 b0 (0 + 2)), (78, a8), (77, .op b1 b0 (0 + 1)), (9, .op c5 c4 0), (76, c3), (75, .fp c3), (8, .op b1 b0 0), (74, b5), (73, .fp b5), (72, vi x0.Call.Action), (71, c7), (70, .fp c7), (69, .fp e2), (67, vb (((((!decide (a0.2 = 0)) || (decide (x0.Call.Action < 0))) || (decide ((x0.P.Actions.length : Int) ≤ x0.Call.Action))) || (decide (x1 < 0))) || (decide ((((ix x0.P.Actions x0.Call.Action).Body).length : Int) < x1)))), (56, vb ((((!decide (a0.2 = 0)) || (decide (x0.Call.Action < 0))) || (decide ((x0.P.Actions.length : Int) ≤ x0.Call.Action))) || (decide (x1 < 0)))), (55, vb ((((!decide (a0.2 = 0)) || (decide (x0.Call.Action < 0))) || (decide ((x0.P.Actions.length : Int) ≤ x0.Call.Action))) || (decide (x1 < 0)))), (52, vb (((!decide (a0.2 = 0)) || (decide (x0.Call.Action < 0))) || (decide ((x0.P.Actions.length : Int) ≤ x0.Call.Action)))), (51, vb (((!decide (a0.2 = 0)) || (decide (x0.Call.Action < 0))) || (decide ((x0.P.Actions.length : Int) ≤ x0.Call.Action)))), (44, vb ((!decide (a0.2 = 0)) || (decide (x0.Call.Action < 0)))), (43, vb ((!decide (a0.2 = 0)) || (decide (x0.Call.Action < 0)))), (40, vb (!decide (a0.2 = 0))), (39, vb (!decide (a0.2 = 0))), (38, vi a0.2), (7, vi a0.2), (6, vi a0.1), (37, vi a0.2), (36, vi a0.1), (31, .tup [vi a0.1, vi a0.2]), (35, .tup [vi a0.1, vi a0.2]), (34, vi x0.Call.Action), (33, c6), (32, .fp c6), (5, vi x0.Call.Action), (30, vi x0.Call.Action), (29, .fp (vi x0.Call.Action)), (28, .fp e7), (26, vb ((!b4) || (decide (40 < (x0.Call.Args.length : Int))))), (20, vb (!b4)), (19, vb (!b4)), (18, vb b4), (17, c8), (16, .fp c8), (4, vb false), (2, .fp v0), (0, v0), (1, vi x1)]) (sB rfl) ?_
      obtain ⟨a9, n8, h1⟩ := sl_sub (P := Tryz.prog) (hf := false) (E := [(81, vi x1), (80, e0), (79, .op b1 b0 (0 + 2)), (78, a8), (77, .op b1 b0 (0 + 1)), (9, .op c5 c4 0), (76, c3), (75, .fp c3), (8, .op b1 b0 0), (74, b5), (73, .fp b5), (72, vi x0.Call.Action), (71, c7), (70, .fp c7), (69, .fp e2), (67, vb (((((!decide (a0.2 = 0)) || (decide (x0.Call.Action < 0))) || (decide ((x0.P.Actions.length : Int) ≤ x0.Call.Action))) || (decide (x1 < 0))) || (decide ((((ix x0.P.Actions x0.Call.Action).Body).length : Int) < x1)))), (56, vb ((((!decide (a0.2 = 0)) || (decide (x0.Call.Action < 0))) || (decide ((x0.P.Actions.length : Int) ≤ x0.Call.Action))) || (decide (x1 < 0)))), (55, vb ((((!decide (a0.2 = 0)) || (decide (x0.Call.Action < 0))) || (decide ((x0.P.Actions.length : Int) ≤ x0.Call.Action))) || (decide (x1 < 0)))), (52, vb (((!decide (a0.2 = 0)) || (decide (x0.Call.Action < 0))) || (decide ((x0.P.Actions.length : Int) ≤ x0.Call.Action)))), (51, vb (((!decide (a0.2 = 0)) || (decide (x0.Call.Action < 0))) || (decide ((x0.P.Actions.length : Int) ≤ x0.Call.Action)))), (44, vb ((!decide (a0.2 = 0)) || (decide (x0.Call.Action < 0)))), (43, vb ((!decide (a0.2 = 0)) || (decide (x0.Call.Action < 0)))), (40, vb (!decide (a0.2 = 0))), (39, vb (!decide (a0.2 = 0))), (38, vi a0.2), (7, vi a0.2), (6, vi a0.1), (37, vi a0.2), (36, vi a0.1), (31, .tup [vi a0.1, vi a0.2]), (35, .tup [vi a0.1, vi a0.2]), (34, vi x0.Call.Action), (33, c6), (32, .fp c6), (5, vi x0.Call.Action), (30, vi x0.Call.Action), (29, .fp (vi x0.Call.Action)), (28, .fp e7), (26, vb ((!b4) || (decide (40 < (x0.Call.Args.length : Int))))), (20, vb (!b4)), (19, vb (!b4)), (18, vb b4), (17, c8), (16, .fp c8), (4, vb false), (2, .fp v0), (0, v0), (1, vi x1)]) (h := f6) (t := api_Statement.t) (tt := 95) (x := (.tmp 80)) (lo := none) (hi := (some (.tmp 81))) (a := 0) (b := x1) m5 rfl rfl rfl (show 0 ≤ 0 by omega) (show 0 ≤ x1 by omega) (show x1 ≤ (((ix x0.P.Actions x0.Call.Action).Body).length : Int) by omega) (fun ad => by kernel_rfl)
      have q0 := sub_len (l := ((ix x0.P.Actions x0.Call.Action).Body)) (show 0 ≤ 0 by omega) (show 0 ≤ x1 by omega) (show x1 ≤ (((ix x0.P.Actions x0.Call.Action).Body).length : Int) by omega)
      refine rd_op (v := a9) (n8) ?_
      refine rd_op (v := .agg [vs ([102, 105, 114, 115, 116] : List UInt8), a8, a9]) (ov_build (cs := [vs ([102, 105, 114, 115, 116] : List UInt8), a8, a9]) rfl (by simp only [buildV, cells_one (TR.cnt (tSl api_Field.t) g8) (TR.agg (tSl api_Field.t) g8), cells_one (TR.cnt (tSl api_Statement.t) h1) (TR.agg (tSl api_Statement.t) h1)]; rfl)) ?_
      refine rd_op (ov_faddrO rfl) ?_
      obtain ⟨b2, m3, h3⟩ := api_Action.g_Params d2
      refine rd_op (ov_loadf (k := 1) c9 rfl rfl m3) ?_
      refine rd_op (ov_faddrO rfl) ?_
      obtain ⟨k4, m6, p2⟩ := api_Action.g_Body d2
      refine rd_op (ov_loadf (k := 1) c9 rfl rfl m6) ?_
      refine mV rfl ?_
      refine rd_weak (E0 := [(88, vi x1), (87, k4), (86, .op b1 b0 (0 + 2)), (85, b2), (84, .op b1 b0 (0 + 1)), (83, .agg [vs ([102, 105, 114, 115, 116] : List UInt8), a8, a9]), (82, a9), (81, vi x1), (80, e0), (79, .op b1 b0 (0 + 2)), (78, a8), (77, .op b1 b0 (0 + 1)), (9, .op c5 c4 0), (76, c3), (75, .fp c3), (8, .op b1 b0 0), (74, b5), (73, .fp b5), (72, vi x0.Call.Action), (71, c7), (70, .fp c7), (69, .fp e2), (67, vb (((((!decide (a0.2 = 0)) || (decide (x0.Call.Action < 0))) || (decide ((x0.P.Actions.length : Int) ≤ x0.Call.Action))) || (decide (x1 < 0))) || (decide ((((ix x0.P.Actions x0.Call.Action).Body).length : Int) < x1)))), (56, vb ((((!decide (a0.2 = 0)) || (decide (x0.Call.Action < 0))) || (decide ((x0.P.Actions.length : Int) ≤ x0.Call.Action))) || (decide (x1 < 0)))), (55, vb ((((!decide (a0.2 = 0)) || (decide (x0.Call.Action < 0))) || (decide ((x0.P.Actions.length : Int) ≤ x0.Call.Action))) || (decide (x1 < 0)))), (52, vb (((!decide (a0.2 = 0)) || (decide (x0.Call.Action < 0))) || (decide ((x0.P.Actions.length : Int) ≤ x0.Call.Action)))), (51, vb (((!decide (a0.2 = 0)) || (decide (x0.Call.Action < 0))) || (decide ((x0.P.Actions.length : Int) ≤ x0.Call.Action)))), (44, vb ((!decide (a0.2 = 0)) || (decide (x0.Call.Action < 0)))), (43, vb ((!decide (a0.2 = 0)) || (decide (x0.Call.Action < 0)))), (40, vb (!decide (a0.2 = 0))), (39, vb (!decide (a0.2 = 0))), (38, vi a0.2), (7, vi a0.2), (6, vi a0.1), (37, vi a0.2), (36, vi a0.1), (31, .tup [vi a0.1, vi a0.2]), (35, .tup [vi a0.1, vi a0.2]), (34, vi x0.Call.Action), (33, c6), (32, .fp c6), (5, vi x0.Call.Action), (30, vi x0.Call.Action), (29, .fp (vi x0.Call.Action)), (28, .fp e7), (26, vb ((!b4) || (decide (40 < (x0.Call.Args.length : Int))))), (20, vb (!b4)), (19, vb (!b4)), (18, vb b4), (17, c8), (16, .fp c8), (4, vb false), (2, .fp v0), (0, v0), (1, vi x1)]) (sB rfl) ?_
      obtain ⟨b3, p5, f3⟩ := sl_sub (P := Tryz.prog) (hf := false) (E := [(88, vi x1), (87, k4), (86, .op b1 b0 (0 + 2)), (85, b2), (84, .op b1 b0 (0 + 1)), (83, .agg [vs ([102, 105, 114, 115, 116] : List UInt8), a8, a9]), (82, a9), (81, vi x1), (80, e0), (79, .op b1 b0 (0 + 2)), (78, a8), (77, .op b1 b0 (0 + 1)), (9, .op c5 c4 0), (76, c3), (75, .fp c3), (8, .op b1 b0 0), (74, b5), (73, .fp b5), (72, vi x0.Call.Action), (71, c7), (70, .fp c7), (69, .fp e2), (67, vb (((((!decide (a0.2 = 0)) || (decide (x0.Call.Action < 0))) || (decide ((x0.P.Actions.length : Int) ≤ x0.Call.Action))) || (decide (x1 < 0))) || (decide ((((ix x0.P.Actions x0.Call.Action).Body).length : Int) < x1)))), (56, vb ((((!decide (a0.2 = 0)) || (decide (x0.Call.Action < 0))) || (decide ((x0.P.Actions.length : Int) ≤ x0.Call.Action))) || (decide (x1 < 0)))), (55, vb ((((!decide (a0.2 = 0)) || (decide (x0.Call.Action < 0))) || (decide ((x0.P.Actions.length : Int) ≤ x0.Call.Action))) || (decide (x1 < 0)))), (52, vb (((!decide (a0.2 = 0)) || (decide (x0.Call.Action < 0))) || (decide ((x0.P.Actions.length : Int) ≤ x0.Call.Action)))), (51, vb (((!decide (a0.2 = 0)) || (decide (x0.Call.Action < 0))) || (decide ((x0.P.Actions.length : Int) ≤ x0.Call.Action)))), (44, vb ((!decide (a0.2 = 0)) || (decide (x0.Call.Action < 0)))), (43, vb ((!decide (a0.2 = 0)) || (decide (x0.Call.Action < 0)))), (40, vb (!decide (a0.2 = 0))), (39, vb (!decide (a0.2 = 0))), (38, vi a0.2), (7, vi a0.2), (6, vi a0.1), (37, vi a0.2), (36, vi a0.1), (31, .tup [vi a0.1, vi a0.2]), (35, .tup [vi a0.1, vi a0.2]), (34, vi x0.Call.Action), (33, c6), (32, .fp c6), (5, vi x0.Call.Action), (30, vi x0.Call.Action), (29, .fp (vi x0.Call.Action)), (28, .fp e7), (26, vb ((!b4) || (decide (40 < (x0.Call.Args.length : Int))))), (20, vb (!b4)), (19, vb (!b4)), (18, vb b4), (17, c8), (16, .fp c8), (4, vb false), (2, .fp v0), (0, v0), (1, vi x1)]) (h := f6) (t := api_Statement.t) (tt := 95) (x := (.tmp 87)) (lo := (some (.tmp 88))) (hi := none) (a := x1) (b := (((ix x0.P.Actions x0.Call.Action).Body).length : Int)) p2 rfl rfl rfl (show 0 ≤ x1 by omega) (show x1 ≤ (((ix x0.P.Actions x0.Call.Action).Body).length : Int) by omega) (show (((ix x0.P.Actions x0.Call.Action).Body).length : Int) ≤ (((ix x0.P.Actions x0.Call.Action).Body).length : Int) by omega) (fun ad => by kernel_rfl)
      have q3 := sub_len (l := ((ix x0.P.Actions x0.Call.Action).Body)) (show 0 ≤ x1 by omega) (show x1 ≤ (((ix x0.P.Actions x0.Call.Action).Body).length : Int) by omega) (show (((ix x0.P.Actions x0.Call.Action).Body).length : Int) ≤ (((ix x0.P.Actions x0.Call.Action).Body).length : Int) by omega)
      refine rd_op (v := b3) (p5) ?_
      refine rd_op (v := .agg [vs ([115, 101, 99, 111, 110, 100] : List UInt8), b2, b3]) (ov_build (cs := [vs ([115, 101, 99, 111, 110, 100] : List UInt8), b2, b3]) rfl (by simp only [buildV, cells_one (TR.cnt (tSl api_Field.t) h3) (TR.agg (tSl api_Field.t) h3), cells_one (TR.cnt (tSl api_Statement.t) f3) (TR.agg (tSl api_Statement.t) f3)]; rfl)) ?_
      refine rd_op (v := .fs true [.agg [vs ([102, 105, 114, 115, 116] : List UInt8), a8, a9], .agg [vs ([115, 101, 99, 111, 110, 100] : List UInt8), b2, b3]]) (ov_bslice rfl (all_cons rfl (all_cons rfl all_nil))) ?_
      have d1 : (tSl api_Action.t).R ([({ Name := ([102, 105, 114, 115, 116] : List UInt8), Params := (ix x0.P.Actions x0.Call.Action).Params, Body := (sub ((ix x0.P.Actions x0.Call.Action).Body) 0 x1) } : api_Action), ({ Name := ([115, 101, 99, 111, 110, 100] : List UInt8), Params := (ix x0.P.Actions x0.Call.Action).Params, Body := (sub ((ix x0.P.Actions x0.Call.Action).Body) x1 (((ix x0.P.Actions x0.Call.Action).Body).length : Int)) } : api_Action)] : List api_Action) (.fs true [.agg [vs ([102, 105, 114, 115, 116] : List UInt8), a8, a9], .agg [vs ([115, 101, 99, 111, 110, 100] : List UInt8), b2, b3]]) := sl_fs ⟨⟨a8, a9, rfl, g8, h1⟩, ⟨⟨b2, b3, rfl, h3, f3⟩, trivial⟩⟩ (by simp)
      refine rd_op (ov_faddrO rfl) ?_
      obtain ⟨a4, a6, a1, l0, a7, a3, a5, a2, m9, c2, b7, b9, k9, b8, b6, c1, c0⟩ := i9
      subst m9
      refine rd_storeF (k := 0) (v := .fs true [.agg [vs ([102, 105, 114, 115, 116] : List UInt8), a8, a9], .agg [vs ([115, 101, 99, 111, 110, 100] : List UInt8), b2, b3]]) c9 rfl rfl rfl (cells_one (TR.cnt (tSl api_Action.t) d1) (TR.agg (tSl api_Action.t) d1)) rfl (by first | decide | (simp only [List.length_cons, List.length_nil]; omega) | simp) (fun n4 e1 => ?_)
      replace e1 : Mem n4 [⟨.op c5 c4 0, 31, 9, [.agg [vs x0.P.Name, a4, a6, a1, .fs true [.agg [vs ([102, 105, 114, 115, 116] : List UInt8), a8, a9], .agg [vs ([115, 101, 99, 111, 110, 100] : List UInt8), b2, b3]], a7, a3, a5, a2]]⟩, ⟨.op b1 b0 0, 97, 3, [b5]⟩] := e1
      refine nR ?_
      refine rd_op (ov_load0 (k := 0) e1 rfl rfl rfl) ?_
      obtain ⟨s5, l7, l8⟩ := law16_Case.g_Call r0
      refine fA rfl l7 ?_
      refine gL (api_ActionCall.g_Args l8) rfl rfl rfl fun d0 e3 => ?_
      refine rd_op (v := .agg [vi 0, d0]) (ov_build (cs := [vi 0, d0]) rfl (by simp only [buildV, cells_one (TR.cnt (tSl tU32) e3) (TR.agg (tSl tU32) e3)]; rfl)) ?_
      refine gL (law16_Case.g_E r0) rfl rfl rfl fun s3 j6 => ?_
      refine gL (law16_Case.g_Regs r0) rfl rfl rfl fun q7 j4 => ?_
      obtain ⟨i1, e9, hres⟩ := let_ex hres
      obtain ⟨e4, r7, n3, d6, g1⟩ := f44_ok  (show api_Program.t.R ({ Name := x0.P.Name, Headers := x0.P.Headers, Metadata := x0.P.Metadata, Registers := x0.P.Registers, Actions := ([({ Name := ([102, 105, 114, 115, 116] : List UInt8), Params := (ix x0.P.Actions x0.Call.Action).Params, Body := (sub ((ix x0.P.Actions x0.Call.Action).Body) 0 x1) } : api_Action), ({ Name := ([115, 101, 99, 111, 110, 100] : List UInt8), Params := (ix x0.P.Actions x0.Call.Action).Params, Body := (sub ((ix x0.P.Actions x0.Call.Action).Body) x1 (((ix x0.P.Actions x0.Call.Action).Body).length : Int)) } : api_Action)] : List api_Action), Tables := x0.P.Tables, States := x0.P.States, Control := x0.P.Control, Deparser := x0.P.Deparser } : api_Program) (.agg [vs x0.P.Name, a4, a6, a1, .fs true [.agg [vs ([102, 105, 114, 115, 116] : List UInt8), a8, a9], .agg [vs ([115, 101, 99, 111, 110, 100] : List UInt8), b2, b3]], a7, a3, a5, a2]) from ⟨a4, a6, a1, (.fs true [.agg [vs ([102, 105, 114, 115, 116] : List UInt8), a8, a9], .agg [vs ([115, 101, 99, 111, 110, 100] : List UInt8), b2, b3]]), a7, a3, a5, a2, rfl, c2, b7, b9, d1, b8, b6, c1, c0⟩) (show api_ActionCall.t.R ({ Action := 0, Args := x0.Call.Args } : api_ActionCall) (.agg [vi 0, d0]) from ⟨d0, rfl, e3⟩) j6 j4 (by first | assumption | exact And.left (by assumption : EB _ ∧ RB _) | exact And.right (by assumption : EB _ ∧ RB _)) (by first | assumption | exact And.left (by assumption : EB _ ∧ RB _) | exact And.right (by assumption : EB _ ∧ RB _))
      rw [e9] at d6 g1
      have q1 : EB (i1).1 ∧ RB (i1).2 := ex_sb (by first | assumption | exact And.left (by assumption : EB _ ∧ RB _)) (by first | assumption | exact And.right (by assumption : EB _ ∧ RB _)) e9
      refine cL n3 rfl rfl (clL_cons (TR.clo api_Program.t (show api_Program.t.R ({ Name := x0.P.Name, Headers := x0.P.Headers, Metadata := x0.P.Metadata, Registers := x0.P.Registers, Actions := ([({ Name := ([102, 105, 114, 115, 116] : List UInt8), Params := (ix x0.P.Actions x0.Call.Action).Params, Body := (sub ((ix x0.P.Actions x0.Call.Action).Body) 0 x1) } : api_Action), ({ Name := ([115, 101, 99, 111, 110, 100] : List UInt8), Params := (ix x0.P.Actions x0.Call.Action).Params, Body := (sub ((ix x0.P.Actions x0.Call.Action).Body) x1 (((ix x0.P.Actions x0.Call.Action).Body).length : Int)) } : api_Action)] : List api_Action), Tables := x0.P.Tables, States := x0.P.States, Control := x0.P.Control, Deparser := x0.P.Deparser } : api_Program) (.agg [vs x0.P.Name, a4, a6, a1, .fs true [.agg [vs ([102, 105, 114, 115, 116] : List UInt8), a8, a9], .agg [vs ([115, 101, 99, 111, 110, 100] : List UInt8), b2, b3]], a7, a3, a5, a2]) from ⟨a4, a6, a1, (.fs true [.agg [vs ([102, 105, 114, 115, 116] : List UInt8), a8, a9], .agg [vs ([115, 101, 99, 111, 110, 100] : List UInt8), b2, b3]]), a7, a3, a5, a2, rfl, c2, b7, b9, d1, b8, b6, c1, c0⟩)) (clL_cons (TR.clo api_ActionCall.t (show api_ActionCall.t.R ({ Action := 0, Args := x0.Call.Args } : api_ActionCall) (.agg [vi 0, d0]) from ⟨d0, rfl, e3⟩)) (clL_cons (TR.clo api_Env.t j6) (clL_cons (TR.clo (tSl (tSl tU32)) j4) clL_nil)))) ?_
      refine mV rfl ?_
      refine xT rfl rfl ?_
      refine xT rfl rfl ?_
      refine rd_allocO (x := .agg [nilS, nilS, nilS, nilS]) e1 rfl rfl (fun g6 f8 t0 o5 => ?_)
      refine rd_storeO (k := 0) (v := e4) o5 rfl rfl rfl (TR.cnt api_Env.t d6) (fun o4 d9 => ?_)
      replace d9 : Mem o4 [⟨.op g6 f8 0, 46, 4, [e4]⟩, ⟨.op c5 c4 0, 31, 9, [.agg [vs x0.P.Name, a4, a6, a1, .fs true [.agg [vs ([102, 105, 114, 115, 116] : List UInt8), a8, a9], .agg [vs ([115, 101, 99, 111, 110, 100] : List UInt8), b2, b3]], a7, a3, a5, a2]]⟩, ⟨.op b1 b0 0, 97, 3, [b5]⟩] := d9
      refine mV rfl ?_
      refine nR ?_
      refine rd_op (ov_load0 (k := 1) d9 rfl rfl rfl) ?_
      obtain ⟨r2, l3, o1⟩ := law16_Case.g_Call r0
      refine fA rfl l3 ?_
      refine gL (api_ActionCall.g_Args o1) rfl rfl rfl fun d3 e6 => ?_
      refine rd_op (v := .agg [vi 1, d3]) (ov_build (cs := [vi 1, d3]) rfl (by simp only [buildV, cells_one (TR.cnt (tSl tU32) e6) (TR.agg (tSl tU32) e6)]; rfl)) ?_
      refine rd_op (ov_load0 (k := 0) d9 rfl rfl (TR.agg api_Env.t d6)) ?_
      refine mV rfl ?_
      obtain ⟨d5, f0, hres⟩ := let_ex hres
      obtain ⟨g9, r8, m2, d8, g2⟩ := f44_ok  (show api_Program.t.R ({ Name := x0.P.Name, Headers := x0.P.Headers, Metadata := x0.P.Metadata, Registers := x0.P.Registers, Actions := ([({ Name := ([102, 105, 114, 115, 116] : List UInt8), Params := (ix x0.P.Actions x0.Call.Action).Params, Body := (sub ((ix x0.P.Actions x0.Call.Action).Body) 0 x1) } : api_Action), ({ Name := ([115, 101, 99, 111, 110, 100] : List UInt8), Params := (ix x0.P.Actions x0.Call.Action).Params, Body := (sub ((ix x0.P.Actions x0.Call.Action).Body) x1 (((ix x0.P.Actions x0.Call.Action).Body).length : Int)) } : api_Action)] : List api_Action), Tables := x0.P.Tables, States := x0.P.States, Control := x0.P.Control, Deparser := x0.P.Deparser } : api_Program) (.agg [vs x0.P.Name, a4, a6, a1, .fs true [.agg [vs ([102, 105, 114, 115, 116] : List UInt8), a8, a9], .agg [vs ([115, 101, 99, 111, 110, 100] : List UInt8), b2, b3]], a7, a3, a5, a2]) from ⟨a4, a6, a1, (.fs true [.agg [vs ([102, 105, 114, 115, 116] : List UInt8), a8, a9], .agg [vs ([115, 101, 99, 111, 110, 100] : List UInt8), b2, b3]]), a7, a3, a5, a2, rfl, c2, b7, b9, d1, b8, b6, c1, c0⟩) (show api_ActionCall.t.R ({ Action := 1, Args := x0.Call.Args } : api_ActionCall) (.agg [vi 1, d3]) from ⟨d3, rfl, e6⟩) d6 g1 (by first | assumption | exact And.left (by assumption : EB _ ∧ RB _) | exact And.right (by assumption : EB _ ∧ RB _)) (by first | assumption | exact And.left (by assumption : EB _ ∧ RB _) | exact And.right (by assumption : EB _ ∧ RB _))
      rw [f0] at d8 g2
      have p9 : EB (d5).1 ∧ RB (d5).2 := ex_sb (by first | assumption | exact And.left (by assumption : EB _ ∧ RB _)) (by first | assumption | exact And.right (by assumption : EB _ ∧ RB _)) f0
      refine cL m2 rfl rfl (clL_cons (TR.clo api_Program.t (show api_Program.t.R ({ Name := x0.P.Name, Headers := x0.P.Headers, Metadata := x0.P.Metadata, Registers := x0.P.Registers, Actions := ([({ Name := ([102, 105, 114, 115, 116] : List UInt8), Params := (ix x0.P.Actions x0.Call.Action).Params, Body := (sub ((ix x0.P.Actions x0.Call.Action).Body) 0 x1) } : api_Action), ({ Name := ([115, 101, 99, 111, 110, 100] : List UInt8), Params := (ix x0.P.Actions x0.Call.Action).Params, Body := (sub ((ix x0.P.Actions x0.Call.Action).Body) x1 (((ix x0.P.Actions x0.Call.Action).Body).length : Int)) } : api_Action)] : List api_Action), Tables := x0.P.Tables, States := x0.P.States, Control := x0.P.Control, Deparser := x0.P.Deparser } : api_Program) (.agg [vs x0.P.Name, a4, a6, a1, .fs true [.agg [vs ([102, 105, 114, 115, 116] : List UInt8), a8, a9], .agg [vs ([115, 101, 99, 111, 110, 100] : List UInt8), b2, b3]], a7, a3, a5, a2]) from ⟨a4, a6, a1, (.fs true [.agg [vs ([102, 105, 114, 115, 116] : List UInt8), a8, a9], .agg [vs ([115, 101, 99, 111, 110, 100] : List UInt8), b2, b3]]), a7, a3, a5, a2, rfl, c2, b7, b9, d1, b8, b6, c1, c0⟩)) (clL_cons (TR.clo api_ActionCall.t (show api_ActionCall.t.R ({ Action := 1, Args := x0.Call.Args } : api_ActionCall) (.agg [vi 1, d3]) from ⟨d3, rfl, e6⟩)) (clL_cons (TR.clo api_Env.t d6) (clL_cons (TR.clo (tSl (tSl tU32)) g1) clL_nil)))) ?_
      refine mV rfl ?_
      refine xT rfl rfl ?_
      refine xT rfl rfl ?_
      refine rd_allocO (x := .agg [nilS, nilS, nilS, nilS]) d9 rfl rfl (fun i8 j1 s4 l5 => ?_)
      refine rd_storeO (k := 0) (v := g9) l5 rfl rfl rfl (TR.cnt api_Env.t d8) (fun m1 g7 => ?_)
      replace g7 : Mem m1 [⟨.op i8 j1 0, 46, 4, [g9]⟩, ⟨.op g6 f8 0, 46, 4, [e4]⟩, ⟨.op c5 c4 0, 31, 9, [.agg [vs x0.P.Name, a4, a6, a1, .fs true [.agg [vs ([102, 105, 114, 115, 116] : List UInt8), a8, a9], .agg [vs ([115, 101, 99, 111, 110, 100] : List UInt8), b2, b3]], a7, a3, a5, a2]]⟩, ⟨.op b1 b0 0, 97, 3, [b5]⟩] := g7
      refine mV rfl ?_
      refine nR ?_
      refine gL (law16_Case.g_P r0) rfl rfl rfl fun r9 h6 => ?_
      refine gL (law16_Case.g_Call r0) rfl rfl rfl fun s7 j2 => ?_
      refine gL (law16_Case.g_E r0) rfl rfl rfl fun r5 h8 => ?_
      refine gL (law16_Case.g_Regs r0) rfl rfl rfl fun r6 k6 => ?_
      obtain ⟨d7, f1, hres⟩ := let_ex hres
      obtain ⟨k7, s8, n1, d4, g3⟩ := f44_ok  h6 j2 h8 k6 (by first | assumption | exact And.left (by assumption : EB _ ∧ RB _) | exact And.right (by assumption : EB _ ∧ RB _)) (by first | assumption | exact And.left (by assumption : EB _ ∧ RB _) | exact And.right (by assumption : EB _ ∧ RB _))
      rw [f1] at d4 g3
      have q2 : EB (d7).1 ∧ RB (d7).2 := ex_sb (by first | assumption | exact And.left (by assumption : EB _ ∧ RB _)) (by first | assumption | exact And.right (by assumption : EB _ ∧ RB _)) f1
      refine cL n1 rfl rfl (clL_cons (TR.clo api_Program.t h6) (clL_cons (TR.clo api_ActionCall.t j2) (clL_cons (TR.clo api_Env.t h8) (clL_cons (TR.clo (tSl (tSl tU32)) k6) clL_nil)))) ?_
      refine mV rfl ?_
      refine xT rfl rfl ?_
      refine xT rfl rfl ?_
      refine rd_allocO (x := .agg [nilS, nilS, nilS, nilS]) g7 rfl rfl (fun p7 l4 s1 m8 => ?_)
      refine rd_storeO (k := 0) (v := k7) m8 rfl rfl rfl (TR.cnt api_Env.t d4) (fun l9 e5 => ?_)
      replace e5 : Mem l9 [⟨.op p7 l4 0, 46, 4, [k7]⟩, ⟨.op i8 j1 0, 46, 4, [g9]⟩, ⟨.op g6 f8 0, 46, 4, [e4]⟩, ⟨.op c5 c4 0, 31, 9, [.agg [vs x0.P.Name, a4, a6, a1, .fs true [.agg [vs ([102, 105, 114, 115, 116] : List UInt8), a8, a9], .agg [vs ([115, 101, 99, 111, 110, 100] : List UInt8), b2, b3]], a7, a3, a5, a2]]⟩, ⟨.op b1 b0 0, 97, 3, [b5]⟩] := e5
      refine mV rfl ?_
      refine nR ?_
      refine rd_op (ov_load0 (k := 0) e5 rfl rfl (TR.agg api_Env.t d4)) ?_
      refine rd_op (ov_load0 (k := 1) e5 rfl rfl (TR.agg api_Env.t d8)) ?_
      obtain ⟨e8, i0, hres⟩ := let_ex hres
      have k8 := f45_ok  d4 d8 
      rw [i0] at k8
      refine cL k8 rfl rfl (clL_cons (TR.clo api_Env.t d4) (clL_cons (TR.clo api_Env.t d8) clL_nil)) ?_
      refine mV rfl ?_
      refine rd_cutn 4 (d := 136) (v := vb (e8 && (ref15_Equal d7.2 d5.2))) ?_ ?_
      · intro S Q r
        cases i7 : e8
        · exact gN 3 rfl rfl rfl rfl rfl rfl
        · intro k
          have h2 := i7
          try simp only [qa, qaD] at h2
          refine rd_yes rfl rfl (ov_move rfl) ?_
          refine rd_yes rfl rfl (ov_move rfl) ?_
          have m0 := f46_ok  g3 g2 
          refine rd_ycall rfl rfl (cv_fn rfl rfl (clL_cons (TR.clo (tSl (tSl tU32)) g3) (clL_cons (TR.clo (tSl (tSl tU32)) g2) clL_nil)) m0) ?_
          exact gK rfl rfl rfl rfl rfl k
      refine mV rfl ?_
      refine rd_cutn 2 (d := 139) (v := vb ((e8 && (ref15_Equal d7.2 d5.2)) && (law16_awake))) ?_ ?_
      · intro S Q r
        cases k0 : (e8 && (ref15_Equal d7.2 d5.2))
        · exact gN 1 rfl rfl rfl rfl rfl rfl
        · intro k
          have f5 := k0
          try simp only [qa, qaD] at f5
          have m4 := f34_ok   
          refine rd_ycall rfl rfl (cv_fn rfl rfl clL_nil m4) ?_
          exact gK rfl rfl rfl rfl rfl k
      refine mV rfl ?_
      refine nS ?_
      exact rR hres rfl rfl rfl

end Go.Proofs.YtmonnlkagniolaaGreat
