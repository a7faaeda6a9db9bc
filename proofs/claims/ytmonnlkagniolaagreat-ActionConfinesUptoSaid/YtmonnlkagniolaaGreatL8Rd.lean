import Derived.Test.YtmonnlkagniolaaGreatPbA
import Derived.Test.YtmonnlkagniolaaGreatKTy
set_option linter.unusedVariables false
set_option linter.unusedSimpArgs false
set_option maxRecDepth 100000
namespace Go.Proofs.YtmonnlkagniolaaGreat
open Go Go.Pb Go.RowKit
theorem um : Tryz.prog.cellsOf 3 = 1 := by kernel_rfl
theorem dx8 : Tryz.prog.cellsOf 4 = 1 := by kernel_rfl
theorem ba5 : Tryz.prog.cellsOf 9 = 1 := by kernel_rfl
theorem ds5 : Tryz.prog.cellsOf 22 = 1 := by kernel_rfl
theorem bw8 : Tryz.prog.cellsOf 23 = 1 := by kernel_rfl
theorem do9 : Tryz.prog.cellsOf 24 = 1 := by kernel_rfl
theorem dq8 : Tryz.prog.cellsOf 25 = 1 := by kernel_rfl
theorem dp9 : Tryz.prog.cellsOf 26 = 1 := by kernel_rfl
theorem dq1 : Tryz.prog.cellsOf 27 = 1 := by kernel_rfl
theorem cc1 : Tryz.prog.cellsOf 28 = 1 := by kernel_rfl
theorem bw5 : Tryz.prog.cellsOf 29 = 1 := by kernel_rfl
theorem cx8 : Tryz.prog.cellsOf 31 = 9 := by kernel_rfl
theorem bu3 : Tryz.prog.cellsOf 32 = 1 := by kernel_rfl
theorem du1 : Tryz.prog.cellsOf 41 = 1 := by kernel_rfl
theorem cx2 : Tryz.prog.cellsOf 42 = 1 := by kernel_rfl
theorem cv3 : Tryz.prog.cellsOf 43 = 1 := by kernel_rfl
theorem dt7 : Tryz.prog.cellsOf 44 = 1 := by kernel_rfl
theorem cw1 : Tryz.prog.cellsOf 46 = 4 := by kernel_rfl
theorem br5 : Tryz.prog.cellsOf 48 = 2 := by kernel_rfl
theorem du9 : Tryz.prog.cellsOf 57 = 1 := by kernel_rfl
theorem ds3 : Tryz.prog.cellsOf 59 = 6 := by kernel_rfl
theorem dv0 : Tryz.prog.cellsOf 61 = 3 := by kernel_rfl
theorem dl9 : Tryz.prog.cellsOf 82 = 16 := by kernel_rfl
theorem be1 : Tryz.prog.cellsOf 87 = 2 := by kernel_rfl
theorem cw7 : Tryz.prog.cellsOf 89 = 1 := by kernel_rfl
theorem dj7 : Tryz.prog.cellsOf 92 = 2 := by kernel_rfl
theorem dk3 : Tryz.prog.cellsOf 95 = 1 := by kernel_rfl
theorem do3 : Tryz.prog.cellsOf 97 = 3 := by kernel_rfl
theorem dd6 : Tryz.prog.cellsOf 108 = 1 := by kernel_rfl
theorem db2 : Tryz.prog.cellsOf 110 = 7 := by kernel_rfl
theorem dd1 : Tryz.prog.cellsOf 113 = 3 := by kernel_rfl
theorem cz9 : Tryz.prog.cellsOf 126 = 3 := by kernel_rfl
theorem dd4 : Tryz.prog.cellsOf 135 = 7 := by kernel_rfl
theorem dg5 : Tryz.prog.cellsOf 166 = 2 := by kernel_rfl
theorem df6 : Tryz.prog.cellsOf 180 = 5 := by kernel_rfl
theorem dh1 : Tryz.prog.cellsOf 313 = 3 := by kernel_rfl
theorem ax.reads166 : ∀ n, Reads Tryz.prog 166 ax.t n
 | 0 => fun cs hc => hc.elim
 | n + 1 => fun cs hc => by
   obtain ⟨hl, hf⟩ := gy Tryz.underlying166 hc
   rw [dg5] at hl
   match cs, hl with
   | [c0, c1], _ =>
     obtain ⟨a0, rfl⟩ := rF (nq Tryz.underlying9) hf 0 rfl rfl ba5 rfl Tryz.underlying9 rfl
     obtain ⟨a1, rfl⟩ := rF (iv Tryz.underlying3) hf 1 rfl rfl um rfl Tryz.underlying3 rfl
     refine ⟨({ Name := a0, Width := a1 } : ax), ?_⟩
     rw [jw Tryz.underlying166 rfl]
     rfl
theorem cj.reads92 : ∀ n, Reads Tryz.prog 92 cj.t n
 | 0 => fun cs hc => hc.elim
 | n + 1 => fun cs hc => by
   obtain ⟨hl, hf⟩ := gy Tryz.underlying92 hc
   rw [dj7] at hl
   match cs, hl with
   | [c0, c1], _ =>
     obtain ⟨a0, rfl⟩ := rF (nq Tryz.underlying9) hf 0 rfl rfl ba5 rfl Tryz.underlying9 rfl
     obtain ⟨a1, h1⟩ := rF (dy Tryz.underlying23 ax.reads166) hf 1 rfl rfl bw8 rfl Tryz.underlying23 rfl
     refine ⟨({ Name := a0, Fields := a1 } : cj), ?_⟩
     rw [jw Tryz.underlying92 rfl]
     exact ⟨_, rfl, h1⟩
theorem cm.reads61 : ∀ n, Reads Tryz.prog 61 cm.t n
 | 0 => fun cs hc => hc.elim
 | n + 1 => fun cs hc => by
   obtain ⟨hl, hf⟩ := gy Tryz.underlying61 hc
   rw [dv0] at hl
   match cs, hl with
   | [c0, c1, c2], _ =>
     obtain ⟨a0, rfl⟩ := rF (nq Tryz.underlying9) hf 0 rfl rfl ba5 rfl Tryz.underlying9 rfl
     obtain ⟨a1, rfl⟩ := rF (iv Tryz.underlying3) hf 1 rfl rfl um rfl Tryz.underlying3 rfl
     obtain ⟨a2, rfl⟩ := rF (iv Tryz.underlying3) hf 2 rfl rfl um rfl Tryz.underlying3 rfl
     refine ⟨({ Name := a0, Width := a1, Size := a2 } : cm), ?_⟩
     rw [jw Tryz.underlying61 rfl]
     rfl
theorem aa.reads87 : ∀ n, Reads Tryz.prog 87 aa.t n
 | 0 => fun cs hc => hc.elim
 | n + 1 => fun cs hc => by
   obtain ⟨hl, hf⟩ := gy Tryz.underlying87 hc
   rw [be1] at hl
   match cs, hl with
   | [c0, c1], _ =>
     obtain ⟨a0, rfl⟩ := rF (iv Tryz.underlying3) hf 0 rfl rfl um rfl Tryz.underlying3 rfl
     obtain ⟨a1, rfl⟩ := rF (iv Tryz.underlying3) hf 1 rfl rfl um rfl Tryz.underlying3 rfl
     refine ⟨({ Header := a0, Field := a1 } : aa), ?_⟩
     rw [jw Tryz.underlying87 rfl]
     rfl
theorem af.reads113 : ∀ n, Reads Tryz.prog 113 af.t n
 | 0 => fun cs hc => hc.elim
 | n + 1 => fun cs hc => by
   obtain ⟨hl, hf⟩ := gy Tryz.underlying113 hc
   rw [dd1] at hl
   match cs, hl with
   | [c0, c1, c2], _ =>
     obtain ⟨a0, rfl⟩ := rF (iv Tryz.underlying3) hf 0 rfl rfl um rfl Tryz.underlying3 rfl
     obtain ⟨a1, rfl⟩ := rF (iv Tryz.underlying3) hf 1 rfl rfl um rfl Tryz.underlying3 rfl
     obtain ⟨a2, rfl⟩ := rF (iv Tryz.underlying3) hf 2 rfl rfl um rfl Tryz.underlying3 rfl
     refine ⟨({ Op := a0, N := a1, W := a2 } : af), ?_⟩
     rw [jw Tryz.underlying113 rfl]
     rfl
theorem ak.reads135 : ∀ n, Reads Tryz.prog 135 ak.t n
 | 0 => fun cs hc => hc.elim
 | n + 1 => fun cs hc => by
   obtain ⟨hl, hf⟩ := gy Tryz.underlying135 hc
   rw [dd4] at hl
   match cs, hl with
   | [c0, c1, c2, c3, c4, c5, c6], _ =>
     obtain ⟨a0, rfl⟩ := rF (iv Tryz.underlying3) hf 0 rfl rfl um rfl Tryz.underlying3 rfl
     have q1 : HasC Tryz.prog n 87 [c1, c2] := by
      have q := hf _ (List.mem_of_getElem? (i := 1) rfl)
      simpa only [be1, List.drop_succ_cons, List.drop_zero, List.take_succ_cons, List.take_zero] using q
     obtain ⟨a1, h1⟩ := aa.reads87 n _ q1
     rw [jw Tryz.underlying87 rfl] at h1
     have e1 : _ = _ := h1
     simp only [PV.agg.injEq, List.cons.injEq, and_true] at e1
     obtain ⟨rfl, rfl⟩ := e1
     obtain ⟨a2, rfl⟩ := rF (iv Tryz.underlying3) hf 2 rfl rfl um rfl Tryz.underlying3 rfl
     obtain ⟨a3, rfl⟩ := rF (iv Tryz.underlying3) hf 3 rfl rfl um rfl Tryz.underlying3 rfl
     obtain ⟨a4, h4⟩ := rF (dy Tryz.underlying32 af.reads113) hf 4 rfl rfl bu3 rfl Tryz.underlying32 rfl
     obtain ⟨a5, h5⟩ := rF (dy Tryz.underlying32 af.reads113) hf 5 rfl rfl bu3 rfl Tryz.underlying32 rfl
     refine ⟨({ Kind := a0, Dst := a1, Register := a2, Header := a3, Index := a4, Value := a5 } : ak), ?_⟩
     rw [jw Tryz.underlying135 rfl]
     exact ⟨_, _, rfl, h4, h5⟩
theorem bp.reads97 : ∀ n, Reads Tryz.prog 97 bp.t n
 | 0 => fun cs hc => hc.elim
 | n + 1 => fun cs hc => by
   obtain ⟨hl, hf⟩ := gy Tryz.underlying97 hc
   rw [do3] at hl
   match cs, hl with
   | [c0, c1, c2], _ =>
     obtain ⟨a0, rfl⟩ := rF (nq Tryz.underlying9) hf 0 rfl rfl ba5 rfl Tryz.underlying9 rfl
     obtain ⟨a1, h1⟩ := rF (dy Tryz.underlying23 ax.reads166) hf 1 rfl rfl bw8 rfl Tryz.underlying23 rfl
     obtain ⟨a2, h2⟩ := rF (dy Tryz.underlying95 ak.reads135) hf 2 rfl rfl dk3 rfl Tryz.underlying95 rfl
     refine ⟨({ Name := a0, Params := a1, Body := a2 } : bp), ?_⟩
     rw [jw Tryz.underlying97 rfl]
     exact ⟨_, _, rfl, h1, h2⟩
theorem gx.reads126 : ∀ n, Reads Tryz.prog 126 gx.t n
 | 0 => fun cs hc => hc.elim
 | n + 1 => fun cs hc => by
   obtain ⟨hl, hf⟩ := gy Tryz.underlying126 hc
   rw [cz9] at hl
   match cs, hl with
   | [c0, c1, c2], _ =>
     have q0 : HasC Tryz.prog n 87 [c0, c1] := by
      have q := hf _ (List.mem_of_getElem? (i := 0) rfl)
      simpa only [be1, List.drop_succ_cons, List.drop_zero, List.take_succ_cons, List.take_zero] using q
     obtain ⟨a0, h0⟩ := aa.reads87 n _ q0
     rw [jw Tryz.underlying87 rfl] at h0
     have e0 : _ = _ := h0
     simp only [PV.agg.injEq, List.cons.injEq, and_true] at e0
     obtain ⟨rfl, rfl⟩ := e0
     obtain ⟨a1, rfl⟩ := rF (iv Tryz.underlying3) hf 1 rfl rfl um rfl Tryz.underlying3 rfl
     refine ⟨({ Field := a0, Kind := a1 } : gx), ?_⟩
     rw [jw Tryz.underlying126 rfl]
     rfl
theorem bn.reads48 : ∀ n, Reads Tryz.prog 48 bn.t n
 | 0 => fun cs hc => hc.elim
 | n + 1 => fun cs hc => by
   obtain ⟨hl, hf⟩ := gy Tryz.underlying48 hc
   rw [br5] at hl
   match cs, hl with
   | [c0, c1], _ =>
     obtain ⟨a0, rfl⟩ := rF (iv Tryz.underlying3) hf 0 rfl rfl um rfl Tryz.underlying3 rfl
     obtain ⟨a1, h1⟩ := rF (dy Tryz.underlying43 (rj Tryz.underlying89)) hf 1 rfl rfl cv3 rfl Tryz.underlying43 rfl
     refine ⟨({ Action := a0, Args := a1 } : bn), ?_⟩
     rw [jw Tryz.underlying48 rfl]
     exact ⟨_, rfl, h1⟩
theorem gb.reads59 : ∀ n, Reads Tryz.prog 59 gb.t n
 | 0 => fun cs hc => hc.elim
 | n + 1 => fun cs hc => by
   obtain ⟨hl, hf⟩ := gy Tryz.underlying59 hc
   rw [ds3] at hl
   match cs, hl with
   | [c0, c1, c2, c3, c4, c5], _ =>
     obtain ⟨a0, rfl⟩ := rF (nq Tryz.underlying9) hf 0 rfl rfl ba5 rfl Tryz.underlying9 rfl
     obtain ⟨a1, h1⟩ := rF (dy Tryz.underlying57 gx.reads126) hf 1 rfl rfl du9 rfl Tryz.underlying57 rfl
     obtain ⟨a2, h2⟩ := rF (dy Tryz.underlying29 (iv Tryz.underlying3)) hf 2 rfl rfl bw5 rfl Tryz.underlying29 rfl
     have q3 : HasC Tryz.prog n 48 [c3, c4] := by
      have q := hf _ (List.mem_of_getElem? (i := 3) rfl)
      simpa only [br5, List.drop_succ_cons, List.drop_zero, List.take_succ_cons, List.take_zero] using q
     obtain ⟨a3, h3⟩ := bn.reads48 n _ q3
     rw [jw Tryz.underlying48 rfl] at h3
     obtain ⟨d1_3, e3, kd1_3⟩ := h3
     simp only [PV.agg.injEq, List.cons.injEq, and_true] at e3
     obtain ⟨rfl, rfl⟩ := e3
     obtain ⟨a4, rfl⟩ := rF (iv Tryz.underlying3) hf 4 rfl rfl um rfl Tryz.underlying3 rfl
     refine ⟨({ Name := a0, Keys := a1, Actions := a2, Default := a3, Size := a4 } : gb), ?_⟩
     rw [jw Tryz.underlying59 rfl]
     exact ⟨_, _, _, rfl, h1, h2, kd1_3⟩
theorem ij.reads313 : ∀ n, Reads Tryz.prog 313 ij.t n
 | 0 => fun cs hc => hc.elim
 | n + 1 => fun cs hc => by
   obtain ⟨hl, hf⟩ := gy Tryz.underlying313 hc
   rw [dh1] at hl
   match cs, hl with
   | [c0, c1, c2], _ =>
     obtain ⟨a0, rfl⟩ := rF (rj Tryz.underlying89) hf 0 rfl rfl cw7 rfl Tryz.underlying89 rfl
     obtain ⟨a1, rfl⟩ := rF (rj Tryz.underlying89) hf 1 rfl rfl cw7 rfl Tryz.underlying89 rfl
     obtain ⟨a2, rfl⟩ := rF (iv Tryz.underlying3) hf 2 rfl rfl um rfl Tryz.underlying3 rfl
     refine ⟨({ Value := a0, Mask := a1, Next := a2 } : ij), ?_⟩
     rw [jw Tryz.underlying313 rfl]
     rfl
theorem du.reads110 : ∀ n, Reads Tryz.prog 110 du.t n
 | 0 => fun cs hc => hc.elim
 | n + 1 => fun cs hc => by
   obtain ⟨hl, hf⟩ := gy Tryz.underlying110 hc
   rw [db2] at hl
   match cs, hl with
   | [c0, c1, c2, c3, c4, c5, c6], _ =>
     obtain ⟨a0, rfl⟩ := rF (nq Tryz.underlying9) hf 0 rfl rfl ba5 rfl Tryz.underlying9 rfl
     obtain ⟨a1, h1⟩ := rF (dy Tryz.underlying29 (iv Tryz.underlying3)) hf 1 rfl rfl bw5 rfl Tryz.underlying29 rfl
     obtain ⟨a2, rfl⟩ := rF (ag8 Tryz.underlying4) hf 2 rfl rfl dx8 rfl Tryz.underlying4 rfl
     have q3 : HasC Tryz.prog n 87 [c3, c4] := by
      have q := hf _ (List.mem_of_getElem? (i := 3) rfl)
      simpa only [be1, List.drop_succ_cons, List.drop_zero, List.take_succ_cons, List.take_zero] using q
     obtain ⟨a3, h3⟩ := aa.reads87 n _ q3
     rw [jw Tryz.underlying87 rfl] at h3
     have e3 : _ = _ := h3
     simp only [PV.agg.injEq, List.cons.injEq, and_true] at e3
     obtain ⟨rfl, rfl⟩ := e3
     obtain ⟨a4, h4⟩ := rF (dy Tryz.underlying108 ij.reads313) hf 4 rfl rfl dd6 rfl Tryz.underlying108 rfl
     obtain ⟨a5, rfl⟩ := rF (iv Tryz.underlying3) hf 5 rfl rfl um rfl Tryz.underlying3 rfl
     refine ⟨({ Name := a0, Extract := a1, Select := a2, On := a3, Cases := a4, Default := a5 } : du), ?_⟩
     rw [jw Tryz.underlying110 rfl]
     exact ⟨_, _, rfl, h1, h4⟩
theorem bb.reads180 : ∀ n, Reads Tryz.prog 180 bb.t n
 | 0 => fun cs hc => hc.elim
 | n + 1 => fun cs hc => by
   obtain ⟨hl, hf⟩ := gy Tryz.underlying180 hc
   rw [df6] at hl
   match cs, hl with
   | [c0, c1, c2, c3, c4], _ =>
     obtain ⟨a0, rfl⟩ := rF (iv Tryz.underlying3) hf 0 rfl rfl um rfl Tryz.underlying3 rfl
     obtain ⟨a1, rfl⟩ := rF (iv Tryz.underlying3) hf 1 rfl rfl um rfl Tryz.underlying3 rfl
     obtain ⟨a2, h2⟩ := rF (dy Tryz.underlying32 af.reads113) hf 2 rfl rfl bu3 rfl Tryz.underlying32 rfl
     have q3 : HasC Tryz.prog n 28 [c3] := by
      have q := hf _ (List.mem_of_getElem? (i := 3) rfl)
      simpa only [cc1, List.drop_succ_cons, List.drop_zero, List.take_succ_cons, List.take_zero] using q
     obtain ⟨a3, h3⟩ : ∃ a, (tSl bb.t).R a (valC Tryz.prog 28 [c3]) := by
      cases n with
      | zero => exact q3.elim
      | succ n => exact vg Tryz.underlying28 (bb.reads180 n) _ q3
     rw [qm Tryz.underlying28 rfl] at h3
     have q4 : HasC Tryz.prog n 28 [c4] := by
      have q := hf _ (List.mem_of_getElem? (i := 4) rfl)
      simpa only [cc1, List.drop_succ_cons, List.drop_zero, List.take_succ_cons, List.take_zero] using q
     obtain ⟨a4, h4⟩ : ∃ a, (tSl bb.t).R a (valC Tryz.prog 28 [c4]) := by
      cases n with
      | zero => exact q4.elim
      | succ n => exact vg Tryz.underlying28 (bb.reads180 n) _ q4
     rw [qm Tryz.underlying28 rfl] at h4
     refine ⟨({ Kind := a0, Table := a1, Cond := a2, Then := a3, Else := a4 } : bb), ?_⟩
     rw [jw Tryz.underlying180 rfl]
     show bb.R _ _
     simp only [bb.R]
     exact ⟨_, _, _, rfl, h2, ⟨⟨h3.1.choose, h3.1.choose_spec.1, by rw [bb.Rl_eq]; exact h3.1.choose_spec.2⟩, h3.2⟩, ⟨⟨h4.1.choose, h4.1.choose_spec.1, by rw [bb.Rl_eq]; exact h4.1.choose_spec.2⟩, h4.2⟩⟩
theorem ab.reads31 : ∀ n, Reads Tryz.prog 31 ab.t n
 | 0 => fun cs hc => hc.elim
 | n + 1 => fun cs hc => by
   obtain ⟨hl, hf⟩ := gy Tryz.underlying31 hc
   rw [cx8] at hl
   match cs, hl with
   | [c0, c1, c2, c3, c4, c5, c6, c7, c8], _ =>
     obtain ⟨a0, rfl⟩ := rF (nq Tryz.underlying9) hf 0 rfl rfl ba5 rfl Tryz.underlying9 rfl
     obtain ⟨a1, h1⟩ := rF (dy Tryz.underlying22 cj.reads92) hf 1 rfl rfl ds5 rfl Tryz.underlying22 rfl
     obtain ⟨a2, h2⟩ := rF (dy Tryz.underlying23 ax.reads166) hf 2 rfl rfl bw8 rfl Tryz.underlying23 rfl
     obtain ⟨a3, h3⟩ := rF (dy Tryz.underlying24 cm.reads61) hf 3 rfl rfl do9 rfl Tryz.underlying24 rfl
     obtain ⟨a4, h4⟩ := rF (dy Tryz.underlying25 bp.reads97) hf 4 rfl rfl dq8 rfl Tryz.underlying25 rfl
     obtain ⟨a5, h5⟩ := rF (dy Tryz.underlying26 gb.reads59) hf 5 rfl rfl dp9 rfl Tryz.underlying26 rfl
     obtain ⟨a6, h6⟩ := rF (dy Tryz.underlying27 du.reads110) hf 6 rfl rfl dq1 rfl Tryz.underlying27 rfl
     obtain ⟨a7, h7⟩ := rF (dy Tryz.underlying28 bb.reads180) hf 7 rfl rfl cc1 rfl Tryz.underlying28 rfl
     obtain ⟨a8, h8⟩ := rF (dy Tryz.underlying29 (iv Tryz.underlying3)) hf 8 rfl rfl bw5 rfl Tryz.underlying29 rfl
     refine ⟨({ Name := a0, Headers := a1, Metadata := a2, Registers := a3, Actions := a4, Tables := a5, States := a6, Control := a7, Deparser := a8 } : ab), ?_⟩
     rw [jw Tryz.underlying31 rfl]
     exact ⟨_, _, _, _, _, _, _, _, rfl, h1, h2, h3, h4, h5, h6, h7, h8⟩
theorem au.reads46 : ∀ n, Reads Tryz.prog 46 au.t n
 | 0 => fun cs hc => hc.elim
 | n + 1 => fun cs hc => by
   obtain ⟨hl, hf⟩ := gy Tryz.underlying46 hc
   rw [cw1] at hl
   match cs, hl with
   | [c0, c1, c2, c3], _ =>
     obtain ⟨a0, h0⟩ := rF (dy Tryz.underlying41 (ag8 Tryz.underlying4)) hf 0 rfl rfl du1 rfl Tryz.underlying41 rfl
     obtain ⟨a1, h1⟩ := rF (dy Tryz.underlying42 (dy Tryz.underlying43 (rj Tryz.underlying89))) hf 1 rfl rfl cx2 rfl Tryz.underlying42 rfl
     obtain ⟨a2, h2⟩ := rF (dy Tryz.underlying43 (rj Tryz.underlying89)) hf 2 rfl rfl cv3 rfl Tryz.underlying43 rfl
     obtain ⟨a3, h3⟩ := rF (dy Tryz.underlying44 (bx9 Tryz.underlying5)) hf 3 rfl rfl dt7 rfl Tryz.underlying44 rfl
     refine ⟨({ Valid := a0, Fields := a1, Metd := a2, Payload := a3 } : au), ?_⟩
     rw [jw Tryz.underlying46 rfl]
     exact ⟨_, _, _, _, rfl, h0, h1, h2, h3⟩
theorem bd.reads82 : ∀ n, Reads Tryz.prog 82 bd.t n
 | 0 => fun cs hc => hc.elim
 | n + 1 => fun cs hc => by
   obtain ⟨hl, hf⟩ := gy Tryz.underlying82 hc
   rw [dl9] at hl
   match cs, hl with
   | [c0, c1, c2, c3, c4, c5, c6, c7, c8, c9, c10, c11, c12, c13, c14, c15], _ =>
     have q0 : HasC Tryz.prog n 31 [c0, c1, c2, c3, c4, c5, c6, c7, c8] := by
      have q := hf _ (List.mem_of_getElem? (i := 0) rfl)
      simpa only [cx8, List.drop_succ_cons, List.drop_zero, List.take_succ_cons, List.take_zero] using q
     obtain ⟨a0, h0⟩ := ab.reads31 n _ q0
     rw [jw Tryz.underlying31 rfl] at h0
     obtain ⟨d1_0, d2_0, d3_0, d4_0, d5_0, d6_0, d7_0, d8_0, e0, kd1_0, kd2_0, kd3_0, kd4_0, kd5_0, kd6_0, kd7_0, kd8_0⟩ := h0
     simp only [PV.agg.injEq, List.cons.injEq, and_true] at e0
     obtain ⟨rfl, rfl, rfl, rfl, rfl, rfl, rfl, rfl, rfl⟩ := e0
     have q1 : HasC Tryz.prog n 48 [c9, c10] := by
      have q := hf _ (List.mem_of_getElem? (i := 1) rfl)
      simpa only [br5, List.drop_succ_cons, List.drop_zero, List.take_succ_cons, List.take_zero] using q
     obtain ⟨a1, h1⟩ := bn.reads48 n _ q1
     rw [jw Tryz.underlying48 rfl] at h1
     obtain ⟨d1_1, e1, kd1_1⟩ := h1
     simp only [PV.agg.injEq, List.cons.injEq, and_true] at e1
     obtain ⟨rfl, rfl⟩ := e1
     have q2 : HasC Tryz.prog n 46 [c11, c12, c13, c14] := by
      have q := hf _ (List.mem_of_getElem? (i := 2) rfl)
      simpa only [cw1, List.drop_succ_cons, List.drop_zero, List.take_succ_cons, List.take_zero] using q
     obtain ⟨a2, h2⟩ := au.reads46 n _ q2
     rw [jw Tryz.underlying46 rfl] at h2
     obtain ⟨d0_2, d1_2, d2_2, d3_2, e2, kd0_2, kd1_2, kd2_2, kd3_2⟩ := h2
     simp only [PV.agg.injEq, List.cons.injEq, and_true] at e2
     obtain ⟨rfl, rfl, rfl, rfl⟩ := e2
     obtain ⟨a3, h3⟩ := rF (dy Tryz.underlying42 (dy Tryz.underlying43 (rj Tryz.underlying89))) hf 3 rfl rfl cx2 rfl Tryz.underlying42 rfl
     refine ⟨({ P := a0, Call := a1, E := a2, Regs := a3 } : bd), ?_⟩
     rw [jw Tryz.underlying82 rfl]
     exact ⟨_, _, _, _, _, _, _, _, _, _, _, _, _, _, rfl, kd1_0, kd2_0, kd3_0, kd4_0, kd5_0, kd6_0, kd7_0, kd8_0, kd1_1, kd0_2, kd1_2, kd2_2, kd3_2, h3⟩
theorem dv7 {c : PV} (h : IsArg Tryz.prog 82 c) : ∃ a, bd.t.R a c := ax2 bd.reads82 h
end Go.Proofs.YtmonnlkagniolaaGreat
