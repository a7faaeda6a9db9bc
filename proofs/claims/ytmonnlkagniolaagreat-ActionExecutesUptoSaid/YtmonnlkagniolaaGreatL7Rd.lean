import Derived.Test.YtmonnlkagniolaaGreatPbA
import Derived.Test.YtmonnlkagniolaaGreatKTy
set_option linter.unusedVariables false
set_option linter.unusedSimpArgs false
set_option maxRecDepth 100000
namespace Go.Proofs.YtmonnlkagniolaaGreat
open Go Go.Pb Go.RowKit
theorem vj : Tryz.prog.cellsOf 3 = 1 := by kernel_rfl
theorem ek4 : Tryz.prog.cellsOf 4 = 1 := by kernel_rfl
theorem ba9 : Tryz.prog.cellsOf 9 = 1 := by kernel_rfl
theorem ee8 : Tryz.prog.cellsOf 22 = 1 := by kernel_rfl
theorem cc4 : Tryz.prog.cellsOf 23 = 1 := by kernel_rfl
theorem dy5 : Tryz.prog.cellsOf 24 = 1 := by kernel_rfl
theorem ed9 : Tryz.prog.cellsOf 25 = 1 := by kernel_rfl
theorem ds7 : Tryz.prog.cellsOf 26 = 1 := by kernel_rfl
theorem ee7 : Tryz.prog.cellsOf 27 = 1 := by kernel_rfl
theorem ce8 : Tryz.prog.cellsOf 28 = 1 := by kernel_rfl
theorem cf1 : Tryz.prog.cellsOf 29 = 1 := by kernel_rfl
theorem da8 : Tryz.prog.cellsOf 31 = 9 := by kernel_rfl
theorem ce2 : Tryz.prog.cellsOf 32 = 1 := by kernel_rfl
theorem dx5 : Tryz.prog.cellsOf 41 = 1 := by kernel_rfl
theorem da4 : Tryz.prog.cellsOf 42 = 1 := by kernel_rfl
theorem de4 : Tryz.prog.cellsOf 43 = 1 := by kernel_rfl
theorem dr2 : Tryz.prog.cellsOf 44 = 1 := by kernel_rfl
theorem de1 : Tryz.prog.cellsOf 46 = 4 := by kernel_rfl
theorem cc1 : Tryz.prog.cellsOf 48 = 2 := by kernel_rfl
theorem dv4 : Tryz.prog.cellsOf 57 = 1 := by kernel_rfl
theorem ef9 : Tryz.prog.cellsOf 59 = 6 := by kernel_rfl
theorem ds3 : Tryz.prog.cellsOf 61 = 3 := by kernel_rfl
theorem ed1 : Tryz.prog.cellsOf 82 = 16 := by kernel_rfl
theorem bd0 : Tryz.prog.cellsOf 87 = 2 := by kernel_rfl
theorem dd3 : Tryz.prog.cellsOf 89 = 1 := by kernel_rfl
theorem dx8 : Tryz.prog.cellsOf 92 = 2 := by kernel_rfl
theorem eb3 : Tryz.prog.cellsOf 95 = 1 := by kernel_rfl
theorem ec3 : Tryz.prog.cellsOf 97 = 3 := by kernel_rfl
theorem di8 : Tryz.prog.cellsOf 108 = 1 := by kernel_rfl
theorem dm5 : Tryz.prog.cellsOf 110 = 7 := by kernel_rfl
theorem dk6 : Tryz.prog.cellsOf 113 = 3 := by kernel_rfl
theorem dp1 : Tryz.prog.cellsOf 126 = 3 := by kernel_rfl
theorem do5 : Tryz.prog.cellsOf 135 = 7 := by kernel_rfl
theorem dp8 : Tryz.prog.cellsOf 166 = 2 := by kernel_rfl
theorem dp4 : Tryz.prog.cellsOf 180 = 5 := by kernel_rfl
theorem dm6 : Tryz.prog.cellsOf 313 = 3 := by kernel_rfl
theorem aw.reads166 : ∀ n, Reads Tryz.prog 166 aw.t n
 | 0 => fun cs hc => hc.elim
 | n + 1 => fun cs hc => by
   obtain ⟨hl, hf⟩ := gm Tryz.underlying166 hc
   rw [dp8] at hl
   match cs, hl with
   | [c0, c1], _ =>
     obtain ⟨a0, rfl⟩ := rF (nu Tryz.underlying9) hf 0 rfl rfl ba9 rfl Tryz.underlying9 rfl
     obtain ⟨a1, rfl⟩ := rF (ij Tryz.underlying3) hf 1 rfl rfl vj rfl Tryz.underlying3 rfl
     refine ⟨({ Name := a0, Width := a1 } : aw), ?_⟩
     rw [jz Tryz.underlying166 rfl]
     rfl
theorem cm.reads92 : ∀ n, Reads Tryz.prog 92 cm.t n
 | 0 => fun cs hc => hc.elim
 | n + 1 => fun cs hc => by
   obtain ⟨hl, hf⟩ := gm Tryz.underlying92 hc
   rw [dx8] at hl
   match cs, hl with
   | [c0, c1], _ =>
     obtain ⟨a0, rfl⟩ := rF (nu Tryz.underlying9) hf 0 rfl rfl ba9 rfl Tryz.underlying9 rfl
     obtain ⟨a1, h1⟩ := rF (dx Tryz.underlying23 aw.reads166) hf 1 rfl rfl cc4 rfl Tryz.underlying23 rfl
     refine ⟨({ Name := a0, Fields := a1 } : cm), ?_⟩
     rw [jz Tryz.underlying92 rfl]
     exact ⟨_, rfl, h1⟩
theorem cg.reads61 : ∀ n, Reads Tryz.prog 61 cg.t n
 | 0 => fun cs hc => hc.elim
 | n + 1 => fun cs hc => by
   obtain ⟨hl, hf⟩ := gm Tryz.underlying61 hc
   rw [ds3] at hl
   match cs, hl with
   | [c0, c1, c2], _ =>
     obtain ⟨a0, rfl⟩ := rF (nu Tryz.underlying9) hf 0 rfl rfl ba9 rfl Tryz.underlying9 rfl
     obtain ⟨a1, rfl⟩ := rF (ij Tryz.underlying3) hf 1 rfl rfl vj rfl Tryz.underlying3 rfl
     obtain ⟨a2, rfl⟩ := rF (ij Tryz.underlying3) hf 2 rfl rfl vj rfl Tryz.underlying3 rfl
     refine ⟨({ Name := a0, Width := a1, Size := a2 } : cg), ?_⟩
     rw [jz Tryz.underlying61 rfl]
     rfl
theorem ak.reads87 : ∀ n, Reads Tryz.prog 87 ak.t n
 | 0 => fun cs hc => hc.elim
 | n + 1 => fun cs hc => by
   obtain ⟨hl, hf⟩ := gm Tryz.underlying87 hc
   rw [bd0] at hl
   match cs, hl with
   | [c0, c1], _ =>
     obtain ⟨a0, rfl⟩ := rF (ij Tryz.underlying3) hf 0 rfl rfl vj rfl Tryz.underlying3 rfl
     obtain ⟨a1, rfl⟩ := rF (ij Tryz.underlying3) hf 1 rfl rfl vj rfl Tryz.underlying3 rfl
     refine ⟨({ Header := a0, Field := a1 } : ak), ?_⟩
     rw [jz Tryz.underlying87 rfl]
     rfl
theorem aa.reads113 : ∀ n, Reads Tryz.prog 113 aa.t n
 | 0 => fun cs hc => hc.elim
 | n + 1 => fun cs hc => by
   obtain ⟨hl, hf⟩ := gm Tryz.underlying113 hc
   rw [dk6] at hl
   match cs, hl with
   | [c0, c1, c2], _ =>
     obtain ⟨a0, rfl⟩ := rF (ij Tryz.underlying3) hf 0 rfl rfl vj rfl Tryz.underlying3 rfl
     obtain ⟨a1, rfl⟩ := rF (ij Tryz.underlying3) hf 1 rfl rfl vj rfl Tryz.underlying3 rfl
     obtain ⟨a2, rfl⟩ := rF (ij Tryz.underlying3) hf 2 rfl rfl vj rfl Tryz.underlying3 rfl
     refine ⟨({ Op := a0, N := a1, W := a2 } : aa), ?_⟩
     rw [jz Tryz.underlying113 rfl]
     rfl
theorem av.reads135 : ∀ n, Reads Tryz.prog 135 av.t n
 | 0 => fun cs hc => hc.elim
 | n + 1 => fun cs hc => by
   obtain ⟨hl, hf⟩ := gm Tryz.underlying135 hc
   rw [do5] at hl
   match cs, hl with
   | [c0, c1, c2, c3, c4, c5, c6], _ =>
     obtain ⟨a0, rfl⟩ := rF (ij Tryz.underlying3) hf 0 rfl rfl vj rfl Tryz.underlying3 rfl
     have q1 : HasC Tryz.prog n 87 [c1, c2] := by
      have q := hf _ (List.mem_of_getElem? (i := 1) rfl)
      simpa only [bd0, List.drop_succ_cons, List.drop_zero, List.take_succ_cons, List.take_zero] using q
     obtain ⟨a1, h1⟩ := ak.reads87 n _ q1
     rw [jz Tryz.underlying87 rfl] at h1
     have e1 : _ = _ := h1
     simp only [PV.agg.injEq, List.cons.injEq, and_true] at e1
     obtain ⟨rfl, rfl⟩ := e1
     obtain ⟨a2, rfl⟩ := rF (ij Tryz.underlying3) hf 2 rfl rfl vj rfl Tryz.underlying3 rfl
     obtain ⟨a3, rfl⟩ := rF (ij Tryz.underlying3) hf 3 rfl rfl vj rfl Tryz.underlying3 rfl
     obtain ⟨a4, h4⟩ := rF (dx Tryz.underlying32 aa.reads113) hf 4 rfl rfl ce2 rfl Tryz.underlying32 rfl
     obtain ⟨a5, h5⟩ := rF (dx Tryz.underlying32 aa.reads113) hf 5 rfl rfl ce2 rfl Tryz.underlying32 rfl
     refine ⟨({ Kind := a0, Dst := a1, Register := a2, Header := a3, Index := a4, Value := a5 } : av), ?_⟩
     rw [jz Tryz.underlying135 rfl]
     exact ⟨_, _, rfl, h4, h5⟩
theorem bz.reads97 : ∀ n, Reads Tryz.prog 97 bz.t n
 | 0 => fun cs hc => hc.elim
 | n + 1 => fun cs hc => by
   obtain ⟨hl, hf⟩ := gm Tryz.underlying97 hc
   rw [ec3] at hl
   match cs, hl with
   | [c0, c1, c2], _ =>
     obtain ⟨a0, rfl⟩ := rF (nu Tryz.underlying9) hf 0 rfl rfl ba9 rfl Tryz.underlying9 rfl
     obtain ⟨a1, h1⟩ := rF (dx Tryz.underlying23 aw.reads166) hf 1 rfl rfl cc4 rfl Tryz.underlying23 rfl
     obtain ⟨a2, h2⟩ := rF (dx Tryz.underlying95 av.reads135) hf 2 rfl rfl eb3 rfl Tryz.underlying95 rfl
     refine ⟨({ Name := a0, Params := a1, Body := a2 } : bz), ?_⟩
     rw [jz Tryz.underlying97 rfl]
     exact ⟨_, _, rfl, h1, h2⟩
theorem gk.reads126 : ∀ n, Reads Tryz.prog 126 gk.t n
 | 0 => fun cs hc => hc.elim
 | n + 1 => fun cs hc => by
   obtain ⟨hl, hf⟩ := gm Tryz.underlying126 hc
   rw [dp1] at hl
   match cs, hl with
   | [c0, c1, c2], _ =>
     have q0 : HasC Tryz.prog n 87 [c0, c1] := by
      have q := hf _ (List.mem_of_getElem? (i := 0) rfl)
      simpa only [bd0, List.drop_succ_cons, List.drop_zero, List.take_succ_cons, List.take_zero] using q
     obtain ⟨a0, h0⟩ := ak.reads87 n _ q0
     rw [jz Tryz.underlying87 rfl] at h0
     have e0 : _ = _ := h0
     simp only [PV.agg.injEq, List.cons.injEq, and_true] at e0
     obtain ⟨rfl, rfl⟩ := e0
     obtain ⟨a1, rfl⟩ := rF (ij Tryz.underlying3) hf 1 rfl rfl vj rfl Tryz.underlying3 rfl
     refine ⟨({ Field := a0, Kind := a1 } : gk), ?_⟩
     rw [jz Tryz.underlying126 rfl]
     rfl
theorem bm.reads48 : ∀ n, Reads Tryz.prog 48 bm.t n
 | 0 => fun cs hc => hc.elim
 | n + 1 => fun cs hc => by
   obtain ⟨hl, hf⟩ := gm Tryz.underlying48 hc
   rw [cc1] at hl
   match cs, hl with
   | [c0, c1], _ =>
     obtain ⟨a0, rfl⟩ := rF (ij Tryz.underlying3) hf 0 rfl rfl vj rfl Tryz.underlying3 rfl
     obtain ⟨a1, h1⟩ := rF (dx Tryz.underlying43 (sm Tryz.underlying89)) hf 1 rfl rfl de4 rfl Tryz.underlying43 rfl
     refine ⟨({ Action := a0, Args := a1 } : bm), ?_⟩
     rw [jz Tryz.underlying48 rfl]
     exact ⟨_, rfl, h1⟩
theorem fw.reads59 : ∀ n, Reads Tryz.prog 59 fw.t n
 | 0 => fun cs hc => hc.elim
 | n + 1 => fun cs hc => by
   obtain ⟨hl, hf⟩ := gm Tryz.underlying59 hc
   rw [ef9] at hl
   match cs, hl with
   | [c0, c1, c2, c3, c4, c5], _ =>
     obtain ⟨a0, rfl⟩ := rF (nu Tryz.underlying9) hf 0 rfl rfl ba9 rfl Tryz.underlying9 rfl
     obtain ⟨a1, h1⟩ := rF (dx Tryz.underlying57 gk.reads126) hf 1 rfl rfl dv4 rfl Tryz.underlying57 rfl
     obtain ⟨a2, h2⟩ := rF (dx Tryz.underlying29 (ij Tryz.underlying3)) hf 2 rfl rfl cf1 rfl Tryz.underlying29 rfl
     have q3 : HasC Tryz.prog n 48 [c3, c4] := by
      have q := hf _ (List.mem_of_getElem? (i := 3) rfl)
      simpa only [cc1, List.drop_succ_cons, List.drop_zero, List.take_succ_cons, List.take_zero] using q
     obtain ⟨a3, h3⟩ := bm.reads48 n _ q3
     rw [jz Tryz.underlying48 rfl] at h3
     obtain ⟨d1_3, e3, kd1_3⟩ := h3
     simp only [PV.agg.injEq, List.cons.injEq, and_true] at e3
     obtain ⟨rfl, rfl⟩ := e3
     obtain ⟨a4, rfl⟩ := rF (ij Tryz.underlying3) hf 4 rfl rfl vj rfl Tryz.underlying3 rfl
     refine ⟨({ Name := a0, Keys := a1, Actions := a2, Default := a3, Size := a4 } : fw), ?_⟩
     rw [jz Tryz.underlying59 rfl]
     exact ⟨_, _, _, rfl, h1, h2, kd1_3⟩
theorem gw.reads313 : ∀ n, Reads Tryz.prog 313 gw.t n
 | 0 => fun cs hc => hc.elim
 | n + 1 => fun cs hc => by
   obtain ⟨hl, hf⟩ := gm Tryz.underlying313 hc
   rw [dm6] at hl
   match cs, hl with
   | [c0, c1, c2], _ =>
     obtain ⟨a0, rfl⟩ := rF (sm Tryz.underlying89) hf 0 rfl rfl dd3 rfl Tryz.underlying89 rfl
     obtain ⟨a1, rfl⟩ := rF (sm Tryz.underlying89) hf 1 rfl rfl dd3 rfl Tryz.underlying89 rfl
     obtain ⟨a2, rfl⟩ := rF (ij Tryz.underlying3) hf 2 rfl rfl vj rfl Tryz.underlying3 rfl
     refine ⟨({ Value := a0, Mask := a1, Next := a2 } : gw), ?_⟩
     rw [jz Tryz.underlying313 rfl]
     rfl
theorem dv.reads110 : ∀ n, Reads Tryz.prog 110 dv.t n
 | 0 => fun cs hc => hc.elim
 | n + 1 => fun cs hc => by
   obtain ⟨hl, hf⟩ := gm Tryz.underlying110 hc
   rw [dm5] at hl
   match cs, hl with
   | [c0, c1, c2, c3, c4, c5, c6], _ =>
     obtain ⟨a0, rfl⟩ := rF (nu Tryz.underlying9) hf 0 rfl rfl ba9 rfl Tryz.underlying9 rfl
     obtain ⟨a1, h1⟩ := rF (dx Tryz.underlying29 (ij Tryz.underlying3)) hf 1 rfl rfl cf1 rfl Tryz.underlying29 rfl
     obtain ⟨a2, rfl⟩ := rF (ah5 Tryz.underlying4) hf 2 rfl rfl ek4 rfl Tryz.underlying4 rfl
     have q3 : HasC Tryz.prog n 87 [c3, c4] := by
      have q := hf _ (List.mem_of_getElem? (i := 3) rfl)
      simpa only [bd0, List.drop_succ_cons, List.drop_zero, List.take_succ_cons, List.take_zero] using q
     obtain ⟨a3, h3⟩ := ak.reads87 n _ q3
     rw [jz Tryz.underlying87 rfl] at h3
     have e3 : _ = _ := h3
     simp only [PV.agg.injEq, List.cons.injEq, and_true] at e3
     obtain ⟨rfl, rfl⟩ := e3
     obtain ⟨a4, h4⟩ := rF (dx Tryz.underlying108 gw.reads313) hf 4 rfl rfl di8 rfl Tryz.underlying108 rfl
     obtain ⟨a5, rfl⟩ := rF (ij Tryz.underlying3) hf 5 rfl rfl vj rfl Tryz.underlying3 rfl
     refine ⟨({ Name := a0, Extract := a1, Select := a2, On := a3, Cases := a4, Default := a5 } : dv), ?_⟩
     rw [jz Tryz.underlying110 rfl]
     exact ⟨_, _, rfl, h1, h4⟩
theorem bc.reads180 : ∀ n, Reads Tryz.prog 180 bc.t n
 | 0 => fun cs hc => hc.elim
 | n + 1 => fun cs hc => by
   obtain ⟨hl, hf⟩ := gm Tryz.underlying180 hc
   rw [dp4] at hl
   match cs, hl with
   | [c0, c1, c2, c3, c4], _ =>
     obtain ⟨a0, rfl⟩ := rF (ij Tryz.underlying3) hf 0 rfl rfl vj rfl Tryz.underlying3 rfl
     obtain ⟨a1, rfl⟩ := rF (ij Tryz.underlying3) hf 1 rfl rfl vj rfl Tryz.underlying3 rfl
     obtain ⟨a2, h2⟩ := rF (dx Tryz.underlying32 aa.reads113) hf 2 rfl rfl ce2 rfl Tryz.underlying32 rfl
     have q3 : HasC Tryz.prog n 28 [c3] := by
      have q := hf _ (List.mem_of_getElem? (i := 3) rfl)
      simpa only [ce8, List.drop_succ_cons, List.drop_zero, List.take_succ_cons, List.take_zero] using q
     obtain ⟨a3, h3⟩ : ∃ a, (tSl bc.t).R a (valC Tryz.prog 28 [c3]) := by
      cases n with
      | zero => exact q3.elim
      | succ n => exact wk Tryz.underlying28 (bc.reads180 n) _ q3
     rw [rt Tryz.underlying28 rfl] at h3
     have q4 : HasC Tryz.prog n 28 [c4] := by
      have q := hf _ (List.mem_of_getElem? (i := 4) rfl)
      simpa only [ce8, List.drop_succ_cons, List.drop_zero, List.take_succ_cons, List.take_zero] using q
     obtain ⟨a4, h4⟩ : ∃ a, (tSl bc.t).R a (valC Tryz.prog 28 [c4]) := by
      cases n with
      | zero => exact q4.elim
      | succ n => exact wk Tryz.underlying28 (bc.reads180 n) _ q4
     rw [rt Tryz.underlying28 rfl] at h4
     refine ⟨({ Kind := a0, Table := a1, Cond := a2, Then := a3, Else := a4 } : bc), ?_⟩
     rw [jz Tryz.underlying180 rfl]
     show bc.R _ _
     simp only [bc.R]
     exact ⟨_, _, _, rfl, h2, ⟨⟨h3.1.choose, h3.1.choose_spec.1, by rw [bc.Rl_eq]; exact h3.1.choose_spec.2⟩, h3.2⟩, ⟨⟨h4.1.choose, h4.1.choose_spec.1, by rw [bc.Rl_eq]; exact h4.1.choose_spec.2⟩, h4.2⟩⟩
theorem af.reads31 : ∀ n, Reads Tryz.prog 31 af.t n
 | 0 => fun cs hc => hc.elim
 | n + 1 => fun cs hc => by
   obtain ⟨hl, hf⟩ := gm Tryz.underlying31 hc
   rw [da8] at hl
   match cs, hl with
   | [c0, c1, c2, c3, c4, c5, c6, c7, c8], _ =>
     obtain ⟨a0, rfl⟩ := rF (nu Tryz.underlying9) hf 0 rfl rfl ba9 rfl Tryz.underlying9 rfl
     obtain ⟨a1, h1⟩ := rF (dx Tryz.underlying22 cm.reads92) hf 1 rfl rfl ee8 rfl Tryz.underlying22 rfl
     obtain ⟨a2, h2⟩ := rF (dx Tryz.underlying23 aw.reads166) hf 2 rfl rfl cc4 rfl Tryz.underlying23 rfl
     obtain ⟨a3, h3⟩ := rF (dx Tryz.underlying24 cg.reads61) hf 3 rfl rfl dy5 rfl Tryz.underlying24 rfl
     obtain ⟨a4, h4⟩ := rF (dx Tryz.underlying25 bz.reads97) hf 4 rfl rfl ed9 rfl Tryz.underlying25 rfl
     obtain ⟨a5, h5⟩ := rF (dx Tryz.underlying26 fw.reads59) hf 5 rfl rfl ds7 rfl Tryz.underlying26 rfl
     obtain ⟨a6, h6⟩ := rF (dx Tryz.underlying27 dv.reads110) hf 6 rfl rfl ee7 rfl Tryz.underlying27 rfl
     obtain ⟨a7, h7⟩ := rF (dx Tryz.underlying28 bc.reads180) hf 7 rfl rfl ce8 rfl Tryz.underlying28 rfl
     obtain ⟨a8, h8⟩ := rF (dx Tryz.underlying29 (ij Tryz.underlying3)) hf 8 rfl rfl cf1 rfl Tryz.underlying29 rfl
     refine ⟨({ Name := a0, Headers := a1, Metadata := a2, Registers := a3, Actions := a4, Tables := a5, States := a6, Control := a7, Deparser := a8 } : af), ?_⟩
     rw [jz Tryz.underlying31 rfl]
     exact ⟨_, _, _, _, _, _, _, _, rfl, h1, h2, h3, h4, h5, h6, h7, h8⟩
theorem ai.reads46 : ∀ n, Reads Tryz.prog 46 ai.t n
 | 0 => fun cs hc => hc.elim
 | n + 1 => fun cs hc => by
   obtain ⟨hl, hf⟩ := gm Tryz.underlying46 hc
   rw [de1] at hl
   match cs, hl with
   | [c0, c1, c2, c3], _ =>
     obtain ⟨a0, h0⟩ := rF (dx Tryz.underlying41 (ah5 Tryz.underlying4)) hf 0 rfl rfl dx5 rfl Tryz.underlying41 rfl
     obtain ⟨a1, h1⟩ := rF (dx Tryz.underlying42 (dx Tryz.underlying43 (sm Tryz.underlying89))) hf 1 rfl rfl da4 rfl Tryz.underlying42 rfl
     obtain ⟨a2, h2⟩ := rF (dx Tryz.underlying43 (sm Tryz.underlying89)) hf 2 rfl rfl de4 rfl Tryz.underlying43 rfl
     obtain ⟨a3, h3⟩ := rF (dx Tryz.underlying44 (cb2 Tryz.underlying5)) hf 3 rfl rfl dr2 rfl Tryz.underlying44 rfl
     refine ⟨({ Valid := a0, Fields := a1, Metd := a2, Payload := a3 } : ai), ?_⟩
     rw [jz Tryz.underlying46 rfl]
     exact ⟨_, _, _, _, rfl, h0, h1, h2, h3⟩
theorem dm.reads82 : ∀ n, Reads Tryz.prog 82 dm.t n
 | 0 => fun cs hc => hc.elim
 | n + 1 => fun cs hc => by
   obtain ⟨hl, hf⟩ := gm Tryz.underlying82 hc
   rw [ed1] at hl
   match cs, hl with
   | [c0, c1, c2, c3, c4, c5, c6, c7, c8, c9, c10, c11, c12, c13, c14, c15], _ =>
     have q0 : HasC Tryz.prog n 31 [c0, c1, c2, c3, c4, c5, c6, c7, c8] := by
      have q := hf _ (List.mem_of_getElem? (i := 0) rfl)
      simpa only [da8, List.drop_succ_cons, List.drop_zero, List.take_succ_cons, List.take_zero] using q
     obtain ⟨a0, h0⟩ := af.reads31 n _ q0
     rw [jz Tryz.underlying31 rfl] at h0
     obtain ⟨d1_0, d2_0, d3_0, d4_0, d5_0, d6_0, d7_0, d8_0, e0, kd1_0, kd2_0, kd3_0, kd4_0, kd5_0, kd6_0, kd7_0, kd8_0⟩ := h0
     simp only [PV.agg.injEq, List.cons.injEq, and_true] at e0
     obtain ⟨rfl, rfl, rfl, rfl, rfl, rfl, rfl, rfl, rfl⟩ := e0
     have q1 : HasC Tryz.prog n 48 [c9, c10] := by
      have q := hf _ (List.mem_of_getElem? (i := 1) rfl)
      simpa only [cc1, List.drop_succ_cons, List.drop_zero, List.take_succ_cons, List.take_zero] using q
     obtain ⟨a1, h1⟩ := bm.reads48 n _ q1
     rw [jz Tryz.underlying48 rfl] at h1
     obtain ⟨d1_1, e1, kd1_1⟩ := h1
     simp only [PV.agg.injEq, List.cons.injEq, and_true] at e1
     obtain ⟨rfl, rfl⟩ := e1
     have q2 : HasC Tryz.prog n 46 [c11, c12, c13, c14] := by
      have q := hf _ (List.mem_of_getElem? (i := 2) rfl)
      simpa only [de1, List.drop_succ_cons, List.drop_zero, List.take_succ_cons, List.take_zero] using q
     obtain ⟨a2, h2⟩ := ai.reads46 n _ q2
     rw [jz Tryz.underlying46 rfl] at h2
     obtain ⟨d0_2, d1_2, d2_2, d3_2, e2, kd0_2, kd1_2, kd2_2, kd3_2⟩ := h2
     simp only [PV.agg.injEq, List.cons.injEq, and_true] at e2
     obtain ⟨rfl, rfl, rfl, rfl⟩ := e2
     obtain ⟨a3, h3⟩ := rF (dx Tryz.underlying42 (dx Tryz.underlying43 (sm Tryz.underlying89))) hf 3 rfl rfl da4 rfl Tryz.underlying42 rfl
     refine ⟨({ P := a0, Call := a1, E := a2, Regs := a3 } : dm), ?_⟩
     rw [jz Tryz.underlying82 rfl]
     exact ⟨_, _, _, _, _, _, _, _, _, _, _, _, _, _, rfl, kd1_0, kd2_0, kd3_0, kd4_0, kd5_0, kd6_0, kd7_0, kd8_0, kd1_1, kd0_2, kd1_2, kd2_2, kd3_2, h3⟩
theorem dy7 {c : PV} (h : IsArg Tryz.prog 82 c) : ∃ a, dm.t.R a c := av9 dm.reads82 h
end Go.Proofs.YtmonnlkagniolaaGreat
