import Derived.Test.YthdnpgpnodgicaaGreatPbA
import Derived.Test.YthdnpgpnodgicaaGreatKTy
set_option linter.unusedVariables false
set_option linter.unusedSimpArgs false
set_option maxRecDepth 100000
namespace Go.Proofs.YthdnpgpnodgicaaGreat
open Go Go.Pb Go.RowKit
theorem vg : Tryz.prog.cellsOf 3 = 1 := by kernel_rfl
theorem eu1 : Tryz.prog.cellsOf 4 = 1 := by kernel_rfl
theorem bj1 : Tryz.prog.cellsOf 9 = 1 := by kernel_rfl
theorem eq6 : Tryz.prog.cellsOf 22 = 1 := by kernel_rfl
theorem ck7 : Tryz.prog.cellsOf 23 = 1 := by kernel_rfl
theorem ee9 : Tryz.prog.cellsOf 24 = 1 := by kernel_rfl
theorem eg9 : Tryz.prog.cellsOf 25 = 1 := by kernel_rfl
theorem em4 : Tryz.prog.cellsOf 26 = 1 := by kernel_rfl
theorem ep5 : Tryz.prog.cellsOf 27 = 1 := by kernel_rfl
theorem cb4 : Tryz.prog.cellsOf 28 = 1 := by kernel_rfl
theorem ce6 : Tryz.prog.cellsOf 29 = 1 := by kernel_rfl
theorem dl4 : Tryz.prog.cellsOf 31 = 9 := by kernel_rfl
theorem ee7 : Tryz.prog.cellsOf 32 = 1 := by kernel_rfl
theorem dk6 : Tryz.prog.cellsOf 33 = 1 := by kernel_rfl
theorem eo7 : Tryz.prog.cellsOf 35 = 12 := by kernel_rfl
theorem ef0 : Tryz.prog.cellsOf 38 = 1 := by kernel_rfl
theorem ca4 : Tryz.prog.cellsOf 40 = 2 := by kernel_rfl
theorem dl1 : Tryz.prog.cellsOf 42 = 4 := by kernel_rfl
theorem ej7 : Tryz.prog.cellsOf 44 = 5 := by kernel_rfl
theorem bk2 : Tryz.prog.cellsOf 64 = 1 := by kernel_rfl
theorem ej8 : Tryz.prog.cellsOf 85 = 1 := by kernel_rfl
theorem eh0 : Tryz.prog.cellsOf 87 = 6 := by kernel_rfl
theorem au4 : Tryz.prog.cellsOf 110 = 2 := by kernel_rfl
theorem dv6 : Tryz.prog.cellsOf 112 = 3 := by kernel_rfl
theorem ds3 : Tryz.prog.cellsOf 116 = 2 := by kernel_rfl
theorem dq1 : Tryz.prog.cellsOf 118 = 1 := by kernel_rfl
theorem eb4 : Tryz.prog.cellsOf 120 = 3 := by kernel_rfl
theorem dp3 : Tryz.prog.cellsOf 122 = 1 := by kernel_rfl
theorem dx2 : Tryz.prog.cellsOf 124 = 7 := by kernel_rfl
theorem ea7 : Tryz.prog.cellsOf 127 = 2 := by kernel_rfl
theorem du5 : Tryz.prog.cellsOf 162 = 2 := by kernel_rfl
theorem bi0 : Tryz.prog.cellsOf 163 = 1 := by kernel_rfl
theorem dy2 : Tryz.prog.cellsOf 165 = 5 := by kernel_rfl
theorem dx5 : Tryz.prog.cellsOf 167 = 7 := by kernel_rfl
theorem dy6 : Tryz.prog.cellsOf 219 = 3 := by kernel_rfl
theorem do9 : Tryz.prog.cellsOf 221 = 3 := by kernel_rfl
theorem ec4 : Tryz.prog.cellsOf 223 = 3 := by kernel_rfl
theorem ck.reads162 : ∀ n, Reads Tryz.prog 162 ck.t n
 | 0 => fun cs hc => hc.elim
 | n + 1 => fun cs hc => by
   obtain ⟨hl, hf⟩ := fj Tryz.underlying162 hc
   rw [du5] at hl
   match cs, hl with
   | [c0, c1], _ =>
     obtain ⟨a0, rfl⟩ := rF (pq Tryz.underlying9) hf 0 rfl rfl bj1 rfl Tryz.underlying9 rfl
     obtain ⟨a1, rfl⟩ := rF (ga Tryz.underlying3) hf 1 rfl rfl vg rfl Tryz.underlying3 rfl
     refine ⟨({ Name := a0, Width := a1 } : ck), ?_⟩
     rw [jp Tryz.underlying162 rfl]
     rfl
theorem cy.reads116 : ∀ n, Reads Tryz.prog 116 cy.t n
 | 0 => fun cs hc => hc.elim
 | n + 1 => fun cs hc => by
   obtain ⟨hl, hf⟩ := fj Tryz.underlying116 hc
   rw [ds3] at hl
   match cs, hl with
   | [c0, c1], _ =>
     obtain ⟨a0, rfl⟩ := rF (pq Tryz.underlying9) hf 0 rfl rfl bj1 rfl Tryz.underlying9 rfl
     obtain ⟨a1, h1⟩ := rF (fa Tryz.underlying23 ck.reads162) hf 1 rfl rfl ck7 rfl Tryz.underlying23 rfl
     refine ⟨({ Name := a0, Fields := a1 } : cy), ?_⟩
     rw [jp Tryz.underlying116 rfl]
     exact ⟨_, rfl, h1⟩
theorem fd.reads219 : ∀ n, Reads Tryz.prog 219 fd.t n
 | 0 => fun cs hc => hc.elim
 | n + 1 => fun cs hc => by
   obtain ⟨hl, hf⟩ := fj Tryz.underlying219 hc
   rw [dy6] at hl
   match cs, hl with
   | [c0, c1, c2], _ =>
     obtain ⟨a0, rfl⟩ := rF (pq Tryz.underlying9) hf 0 rfl rfl bj1 rfl Tryz.underlying9 rfl
     obtain ⟨a1, rfl⟩ := rF (ga Tryz.underlying3) hf 1 rfl rfl vg rfl Tryz.underlying3 rfl
     obtain ⟨a2, rfl⟩ := rF (ga Tryz.underlying3) hf 2 rfl rfl vg rfl Tryz.underlying3 rfl
     refine ⟨({ Name := a0, Width := a1, Size := a2 } : fd), ?_⟩
     rw [jp Tryz.underlying219 rfl]
     rfl
theorem cp.reads110 : ∀ n, Reads Tryz.prog 110 cp.t n
 | 0 => fun cs hc => hc.elim
 | n + 1 => fun cs hc => by
   obtain ⟨hl, hf⟩ := fj Tryz.underlying110 hc
   rw [au4] at hl
   match cs, hl with
   | [c0, c1], _ =>
     obtain ⟨a0, rfl⟩ := rF (ga Tryz.underlying3) hf 0 rfl rfl vg rfl Tryz.underlying3 rfl
     obtain ⟨a1, rfl⟩ := rF (ga Tryz.underlying3) hf 1 rfl rfl vg rfl Tryz.underlying3 rfl
     refine ⟨({ Header := a0, Field := a1 } : cp), ?_⟩
     rw [jp Tryz.underlying110 rfl]
     rfl
theorem eg.reads223 : ∀ n, Reads Tryz.prog 223 eg.t n
 | 0 => fun cs hc => hc.elim
 | n + 1 => fun cs hc => by
   obtain ⟨hl, hf⟩ := fj Tryz.underlying223 hc
   rw [ec4] at hl
   match cs, hl with
   | [c0, c1, c2], _ =>
     obtain ⟨a0, rfl⟩ := rF (ga Tryz.underlying3) hf 0 rfl rfl vg rfl Tryz.underlying3 rfl
     obtain ⟨a1, rfl⟩ := rF (ga Tryz.underlying3) hf 1 rfl rfl vg rfl Tryz.underlying3 rfl
     obtain ⟨a2, rfl⟩ := rF (ga Tryz.underlying3) hf 2 rfl rfl vg rfl Tryz.underlying3 rfl
     refine ⟨({ Op := a0, N := a1, W := a2 } : eg), ?_⟩
     rw [jp Tryz.underlying223 rfl]
     rfl
theorem dq.reads167 : ∀ n, Reads Tryz.prog 167 dq.t n
 | 0 => fun cs hc => hc.elim
 | n + 1 => fun cs hc => by
   obtain ⟨hl, hf⟩ := fj Tryz.underlying167 hc
   rw [dx5] at hl
   match cs, hl with
   | [c0, c1, c2, c3, c4, c5, c6], _ =>
     obtain ⟨a0, rfl⟩ := rF (ga Tryz.underlying3) hf 0 rfl rfl vg rfl Tryz.underlying3 rfl
     have q1 : HasC Tryz.prog n 110 [c1, c2] := by
      have q := hf _ (List.mem_of_getElem? (i := 1) rfl)
      simpa only [au4, List.drop_succ_cons, List.drop_zero, List.take_succ_cons, List.take_zero] using q
     obtain ⟨a1, h1⟩ := cp.reads110 n _ q1
     rw [jp Tryz.underlying110 rfl] at h1
     have e1 : _ = _ := h1
     simp only [PV.agg.injEq, List.cons.injEq, and_true] at e1
     obtain ⟨rfl, rfl⟩ := e1
     obtain ⟨a2, rfl⟩ := rF (ga Tryz.underlying3) hf 2 rfl rfl vg rfl Tryz.underlying3 rfl
     obtain ⟨a3, rfl⟩ := rF (ga Tryz.underlying3) hf 3 rfl rfl vg rfl Tryz.underlying3 rfl
     obtain ⟨a4, h4⟩ := rF (fa Tryz.underlying163 eg.reads223) hf 4 rfl rfl bi0 rfl Tryz.underlying163 rfl
     obtain ⟨a5, h5⟩ := rF (fa Tryz.underlying163 eg.reads223) hf 5 rfl rfl bi0 rfl Tryz.underlying163 rfl
     refine ⟨({ Kind := a0, Dst := a1, Register := a2, Header := a3, Index := a4, Value := a5 } : dq), ?_⟩
     rw [jp Tryz.underlying167 rfl]
     exact ⟨_, _, rfl, h4, h5⟩
theorem dc.reads120 : ∀ n, Reads Tryz.prog 120 dc.t n
 | 0 => fun cs hc => hc.elim
 | n + 1 => fun cs hc => by
   obtain ⟨hl, hf⟩ := fj Tryz.underlying120 hc
   rw [eb4] at hl
   match cs, hl with
   | [c0, c1, c2], _ =>
     obtain ⟨a0, rfl⟩ := rF (pq Tryz.underlying9) hf 0 rfl rfl bj1 rfl Tryz.underlying9 rfl
     obtain ⟨a1, h1⟩ := rF (fa Tryz.underlying23 ck.reads162) hf 1 rfl rfl ck7 rfl Tryz.underlying23 rfl
     obtain ⟨a2, h2⟩ := rF (fa Tryz.underlying118 dq.reads167) hf 2 rfl rfl dq1 rfl Tryz.underlying118 rfl
     refine ⟨({ Name := a0, Params := a1, Body := a2 } : dc), ?_⟩
     rw [jp Tryz.underlying120 rfl]
     exact ⟨_, _, rfl, h1, h2⟩
theorem bn.reads112 : ∀ n, Reads Tryz.prog 112 bn.t n
 | 0 => fun cs hc => hc.elim
 | n + 1 => fun cs hc => by
   obtain ⟨hl, hf⟩ := fj Tryz.underlying112 hc
   rw [dv6] at hl
   match cs, hl with
   | [c0, c1, c2], _ =>
     have q0 : HasC Tryz.prog n 110 [c0, c1] := by
      have q := hf _ (List.mem_of_getElem? (i := 0) rfl)
      simpa only [au4, List.drop_succ_cons, List.drop_zero, List.take_succ_cons, List.take_zero] using q
     obtain ⟨a0, h0⟩ := cp.reads110 n _ q0
     rw [jp Tryz.underlying110 rfl] at h0
     have e0 : _ = _ := h0
     simp only [PV.agg.injEq, List.cons.injEq, and_true] at e0
     obtain ⟨rfl, rfl⟩ := e0
     obtain ⟨a1, rfl⟩ := rF (ga Tryz.underlying3) hf 1 rfl rfl vg rfl Tryz.underlying3 rfl
     refine ⟨({ Field := a0, Kind := a1 } : bn), ?_⟩
     rw [jp Tryz.underlying112 rfl]
     rfl
theorem bh.reads40 : ∀ n, Reads Tryz.prog 40 bh.t n
 | 0 => fun cs hc => hc.elim
 | n + 1 => fun cs hc => by
   obtain ⟨hl, hf⟩ := fj Tryz.underlying40 hc
   rw [ca4] at hl
   match cs, hl with
   | [c0, c1], _ =>
     obtain ⟨a0, rfl⟩ := rF (ga Tryz.underlying3) hf 0 rfl rfl vg rfl Tryz.underlying3 rfl
     obtain ⟨a1, h1⟩ := rF (fa Tryz.underlying33 (uh Tryz.underlying64)) hf 1 rfl rfl dk6 rfl Tryz.underlying33 rfl
     refine ⟨({ Action := a0, Args := a1 } : bh), ?_⟩
     rw [jp Tryz.underlying40 rfl]
     exact ⟨_, rfl, h1⟩
theorem az.reads87 : ∀ n, Reads Tryz.prog 87 az.t n
 | 0 => fun cs hc => hc.elim
 | n + 1 => fun cs hc => by
   obtain ⟨hl, hf⟩ := fj Tryz.underlying87 hc
   rw [eh0] at hl
   match cs, hl with
   | [c0, c1, c2, c3, c4, c5], _ =>
     obtain ⟨a0, rfl⟩ := rF (pq Tryz.underlying9) hf 0 rfl rfl bj1 rfl Tryz.underlying9 rfl
     obtain ⟨a1, h1⟩ := rF (fa Tryz.underlying85 bn.reads112) hf 1 rfl rfl ej8 rfl Tryz.underlying85 rfl
     obtain ⟨a2, h2⟩ := rF (fa Tryz.underlying29 (ga Tryz.underlying3)) hf 2 rfl rfl ce6 rfl Tryz.underlying29 rfl
     have q3 : HasC Tryz.prog n 40 [c3, c4] := by
      have q := hf _ (List.mem_of_getElem? (i := 3) rfl)
      simpa only [ca4, List.drop_succ_cons, List.drop_zero, List.take_succ_cons, List.take_zero] using q
     obtain ⟨a3, h3⟩ := bh.reads40 n _ q3
     rw [jp Tryz.underlying40 rfl] at h3
     obtain ⟨d1_3, e3, kd1_3⟩ := h3
     simp only [PV.agg.injEq, List.cons.injEq, and_true] at e3
     obtain ⟨rfl, rfl⟩ := e3
     obtain ⟨a4, rfl⟩ := rF (ga Tryz.underlying3) hf 4 rfl rfl vg rfl Tryz.underlying3 rfl
     refine ⟨({ Name := a0, Keys := a1, Actions := a2, Default := a3, Size := a4 } : az), ?_⟩
     rw [jp Tryz.underlying87 rfl]
     exact ⟨_, _, _, rfl, h1, h2, kd1_3⟩
theorem fb.reads221 : ∀ n, Reads Tryz.prog 221 fb.t n
 | 0 => fun cs hc => hc.elim
 | n + 1 => fun cs hc => by
   obtain ⟨hl, hf⟩ := fj Tryz.underlying221 hc
   rw [do9] at hl
   match cs, hl with
   | [c0, c1, c2], _ =>
     obtain ⟨a0, rfl⟩ := rF (uh Tryz.underlying64) hf 0 rfl rfl bk2 rfl Tryz.underlying64 rfl
     obtain ⟨a1, rfl⟩ := rF (uh Tryz.underlying64) hf 1 rfl rfl bk2 rfl Tryz.underlying64 rfl
     obtain ⟨a2, rfl⟩ := rF (ga Tryz.underlying3) hf 2 rfl rfl vg rfl Tryz.underlying3 rfl
     refine ⟨({ Value := a0, Mask := a1, Next := a2 } : fb), ?_⟩
     rw [jp Tryz.underlying221 rfl]
     rfl
theorem cz.reads124 : ∀ n, Reads Tryz.prog 124 cz.t n
 | 0 => fun cs hc => hc.elim
 | n + 1 => fun cs hc => by
   obtain ⟨hl, hf⟩ := fj Tryz.underlying124 hc
   rw [dx2] at hl
   match cs, hl with
   | [c0, c1, c2, c3, c4, c5, c6], _ =>
     obtain ⟨a0, rfl⟩ := rF (pq Tryz.underlying9) hf 0 rfl rfl bj1 rfl Tryz.underlying9 rfl
     obtain ⟨a1, h1⟩ := rF (fa Tryz.underlying29 (ga Tryz.underlying3)) hf 1 rfl rfl ce6 rfl Tryz.underlying29 rfl
     obtain ⟨a2, rfl⟩ := rF (bf6 Tryz.underlying4) hf 2 rfl rfl eu1 rfl Tryz.underlying4 rfl
     have q3 : HasC Tryz.prog n 110 [c3, c4] := by
      have q := hf _ (List.mem_of_getElem? (i := 3) rfl)
      simpa only [au4, List.drop_succ_cons, List.drop_zero, List.take_succ_cons, List.take_zero] using q
     obtain ⟨a3, h3⟩ := cp.reads110 n _ q3
     rw [jp Tryz.underlying110 rfl] at h3
     have e3 : _ = _ := h3
     simp only [PV.agg.injEq, List.cons.injEq, and_true] at e3
     obtain ⟨rfl, rfl⟩ := e3
     obtain ⟨a4, h4⟩ := rF (fa Tryz.underlying122 fb.reads221) hf 4 rfl rfl dp3 rfl Tryz.underlying122 rfl
     obtain ⟨a5, rfl⟩ := rF (ga Tryz.underlying3) hf 5 rfl rfl vg rfl Tryz.underlying3 rfl
     refine ⟨({ Name := a0, Extract := a1, Select := a2, On := a3, Cases := a4, Default := a5 } : cz), ?_⟩
     rw [jp Tryz.underlying124 rfl]
     exact ⟨_, _, rfl, h1, h4⟩
theorem am.reads165 : ∀ n, Reads Tryz.prog 165 am.t n
 | 0 => fun cs hc => hc.elim
 | n + 1 => fun cs hc => by
   obtain ⟨hl, hf⟩ := fj Tryz.underlying165 hc
   rw [dy2] at hl
   match cs, hl with
   | [c0, c1, c2, c3, c4], _ =>
     obtain ⟨a0, rfl⟩ := rF (ga Tryz.underlying3) hf 0 rfl rfl vg rfl Tryz.underlying3 rfl
     obtain ⟨a1, rfl⟩ := rF (ga Tryz.underlying3) hf 1 rfl rfl vg rfl Tryz.underlying3 rfl
     obtain ⟨a2, h2⟩ := rF (fa Tryz.underlying163 eg.reads223) hf 2 rfl rfl bi0 rfl Tryz.underlying163 rfl
     have q3 : HasC Tryz.prog n 28 [c3] := by
      have q := hf _ (List.mem_of_getElem? (i := 3) rfl)
      simpa only [cb4, List.drop_succ_cons, List.drop_zero, List.take_succ_cons, List.take_zero] using q
     obtain ⟨a3, h3⟩ : ∃ a, (tSl am.t).R a (valC Tryz.prog 28 [c3]) := by
      cases n with
      | zero => exact q3.elim
      | succ n => exact yd Tryz.underlying28 (am.reads165 n) _ q3
     rw [ub Tryz.underlying28 rfl] at h3
     have q4 : HasC Tryz.prog n 28 [c4] := by
      have q := hf _ (List.mem_of_getElem? (i := 4) rfl)
      simpa only [cb4, List.drop_succ_cons, List.drop_zero, List.take_succ_cons, List.take_zero] using q
     obtain ⟨a4, h4⟩ : ∃ a, (tSl am.t).R a (valC Tryz.prog 28 [c4]) := by
      cases n with
      | zero => exact q4.elim
      | succ n => exact yd Tryz.underlying28 (am.reads165 n) _ q4
     rw [ub Tryz.underlying28 rfl] at h4
     refine ⟨({ Kind := a0, Table := a1, Cond := a2, Then := a3, Else := a4 } : am), ?_⟩
     rw [jp Tryz.underlying165 rfl]
     show am.R _ _
     simp only [am.R]
     exact ⟨_, _, _, rfl, h2, ⟨⟨h3.1.choose, h3.1.choose_spec.1, by rw [am.Rl_eq]; exact h3.1.choose_spec.2⟩, h3.2⟩, ⟨⟨h4.1.choose, h4.1.choose_spec.1, by rw [am.Rl_eq]; exact h4.1.choose_spec.2⟩, h4.2⟩⟩
theorem ab.reads31 : ∀ n, Reads Tryz.prog 31 ab.t n
 | 0 => fun cs hc => hc.elim
 | n + 1 => fun cs hc => by
   obtain ⟨hl, hf⟩ := fj Tryz.underlying31 hc
   rw [dl4] at hl
   match cs, hl with
   | [c0, c1, c2, c3, c4, c5, c6, c7, c8], _ =>
     obtain ⟨a0, rfl⟩ := rF (pq Tryz.underlying9) hf 0 rfl rfl bj1 rfl Tryz.underlying9 rfl
     obtain ⟨a1, h1⟩ := rF (fa Tryz.underlying22 cy.reads116) hf 1 rfl rfl eq6 rfl Tryz.underlying22 rfl
     obtain ⟨a2, h2⟩ := rF (fa Tryz.underlying23 ck.reads162) hf 2 rfl rfl ck7 rfl Tryz.underlying23 rfl
     obtain ⟨a3, h3⟩ := rF (fa Tryz.underlying24 fd.reads219) hf 3 rfl rfl ee9 rfl Tryz.underlying24 rfl
     obtain ⟨a4, h4⟩ := rF (fa Tryz.underlying25 dc.reads120) hf 4 rfl rfl eg9 rfl Tryz.underlying25 rfl
     obtain ⟨a5, h5⟩ := rF (fa Tryz.underlying26 az.reads87) hf 5 rfl rfl em4 rfl Tryz.underlying26 rfl
     obtain ⟨a6, h6⟩ := rF (fa Tryz.underlying27 cz.reads124) hf 6 rfl rfl ep5 rfl Tryz.underlying27 rfl
     obtain ⟨a7, h7⟩ := rF (fa Tryz.underlying28 am.reads165) hf 7 rfl rfl cb4 rfl Tryz.underlying28 rfl
     obtain ⟨a8, h8⟩ := rF (fa Tryz.underlying29 (ga Tryz.underlying3)) hf 8 rfl rfl ce6 rfl Tryz.underlying29 rfl
     refine ⟨({ Name := a0, Headers := a1, Metadata := a2, Registers := a3, Actions := a4, Tables := a5, States := a6, Control := a7, Deparser := a8 } : ab), ?_⟩
     rw [jp Tryz.underlying31 rfl]
     exact ⟨_, _, _, _, _, _, _, _, rfl, h1, h2, h3, h4, h5, h6, h7, h8⟩
theorem ba.reads127 : ∀ n, Reads Tryz.prog 127 ba.t n
 | 0 => fun cs hc => hc.elim
 | n + 1 => fun cs hc => by
   obtain ⟨hl, hf⟩ := fj Tryz.underlying127 hc
   rw [ea7] at hl
   match cs, hl with
   | [c0, c1], _ =>
     obtain ⟨a0, rfl⟩ := rF (uh Tryz.underlying64) hf 0 rfl rfl bk2 rfl Tryz.underlying64 rfl
     obtain ⟨a1, rfl⟩ := rF (uh Tryz.underlying64) hf 1 rfl rfl bk2 rfl Tryz.underlying64 rfl
     refine ⟨({ Value := a0, Mask := a1 } : ba), ?_⟩
     rw [jp Tryz.underlying127 rfl]
     rfl
theorem au.reads42 : ∀ n, Reads Tryz.prog 42 au.t n
 | 0 => fun cs hc => hc.elim
 | n + 1 => fun cs hc => by
   obtain ⟨hl, hf⟩ := fj Tryz.underlying42 hc
   rw [dl1] at hl
   match cs, hl with
   | [c0, c1, c2, c3], _ =>
     obtain ⟨a0, h0⟩ := rF (fa Tryz.underlying38 ba.reads127) hf 0 rfl rfl ef0 rfl Tryz.underlying38 rfl
     obtain ⟨a1, rfl⟩ := rF (ga Tryz.underlying3) hf 1 rfl rfl vg rfl Tryz.underlying3 rfl
     have q2 : HasC Tryz.prog n 40 [c2, c3] := by
      have q := hf _ (List.mem_of_getElem? (i := 2) rfl)
      simpa only [ca4, List.drop_succ_cons, List.drop_zero, List.take_succ_cons, List.take_zero] using q
     obtain ⟨a2, h2⟩ := bh.reads40 n _ q2
     rw [jp Tryz.underlying40 rfl] at h2
     obtain ⟨d1_2, e2, kd1_2⟩ := h2
     simp only [PV.agg.injEq, List.cons.injEq, and_true] at e2
     obtain ⟨rfl, rfl⟩ := e2
     refine ⟨({ Keys := a0, Priority := a1, Call := a2 } : au), ?_⟩
     rw [jp Tryz.underlying42 rfl]
     exact ⟨_, _, rfl, h0, kd1_2⟩
theorem av.reads44 : ∀ n, Reads Tryz.prog 44 av.t n
 | 0 => fun cs hc => hc.elim
 | n + 1 => fun cs hc => by
   obtain ⟨hl, hf⟩ := fj Tryz.underlying44 hc
   rw [ej7] at hl
   match cs, hl with
   | [c0, c1, c2, c3, c4], _ =>
     obtain ⟨a0, rfl⟩ := rF (ga Tryz.underlying3) hf 0 rfl rfl vg rfl Tryz.underlying3 rfl
     have q1 : HasC Tryz.prog n 42 [c1, c2, c3, c4] := by
      have q := hf _ (List.mem_of_getElem? (i := 1) rfl)
      simpa only [dl1, List.drop_succ_cons, List.drop_zero, List.take_succ_cons, List.take_zero] using q
     obtain ⟨a1, h1⟩ := au.reads42 n _ q1
     rw [jp Tryz.underlying42 rfl] at h1
     obtain ⟨d0_1, d3_1, e1, kd0_1, kd3_1⟩ := h1
     simp only [PV.agg.injEq, List.cons.injEq, and_true] at e1
     obtain ⟨rfl, rfl, rfl, rfl⟩ := e1
     refine ⟨({ ID := a0, Entry := a1 } : av), ?_⟩
     rw [jp Tryz.underlying44 rfl]
     exact ⟨_, _, rfl, kd0_1, kd3_1⟩
theorem co.reads35 : ∀ n, Reads Tryz.prog 35 co.t n
 | 0 => fun cs hc => hc.elim
 | n + 1 => fun cs hc => by
   obtain ⟨hl, hf⟩ := fj Tryz.underlying35 hc
   rw [eo7] at hl
   match cs, hl with
   | [c0, c1, c2, c3, c4, c5, c6, c7, c8, c9, c10, c11], _ =>
     have q0 : HasC Tryz.prog n 31 [c0, c1, c2, c3, c4, c5, c6, c7, c8] := by
      have q := hf _ (List.mem_of_getElem? (i := 0) rfl)
      simpa only [dl4, List.drop_succ_cons, List.drop_zero, List.take_succ_cons, List.take_zero] using q
     obtain ⟨a0, h0⟩ := ab.reads31 n _ q0
     rw [jp Tryz.underlying31 rfl] at h0
     obtain ⟨d1_0, d2_0, d3_0, d4_0, d5_0, d6_0, d7_0, d8_0, e0, kd1_0, kd2_0, kd3_0, kd4_0, kd5_0, kd6_0, kd7_0, kd8_0⟩ := h0
     simp only [PV.agg.injEq, List.cons.injEq, and_true] at e0
     obtain ⟨rfl, rfl, rfl, rfl, rfl, rfl, rfl, rfl, rfl⟩ := e0
     obtain ⟨a1, rfl⟩ := rF (ga Tryz.underlying3) hf 1 rfl rfl vg rfl Tryz.underlying3 rfl
     obtain ⟨a2, h2⟩ := rF (fa Tryz.underlying32 av.reads44) hf 2 rfl rfl ee7 rfl Tryz.underlying32 rfl
     obtain ⟨a3, h3⟩ := rF (fa Tryz.underlying33 (uh Tryz.underlying64)) hf 3 rfl rfl dk6 rfl Tryz.underlying33 rfl
     refine ⟨({ Program := a0, Table := a1, Rows := a2, Key := a3 } : co), ?_⟩
     rw [jp Tryz.underlying35 rfl]
     exact ⟨_, _, _, _, _, _, _, _, _, _, rfl, kd1_0, kd2_0, kd3_0, kd4_0, kd5_0, kd6_0, kd7_0, kd8_0, h2, h3⟩
theorem ee5 {c : PV} (h : IsArg Tryz.prog 35 c) : ∃ a, co.t.R a c := bb6 co.reads35 h
end Go.Proofs.YthdnpgpnodgicaaGreat
