import Derived.Test.YtmonnlkagniolaaGreatPbA
import Derived.Test.YtmonnlkagniolaaGreatKTy
set_option linter.unusedVariables false
set_option linter.unusedSimpArgs false
set_option maxRecDepth 100000
namespace Go.Proofs.YtmonnlkagniolaaGreat
open Go Go.Pb Go.RowKit
theorem ri : Tryz.prog.cellsOf 3 = 1 := by kernel_rfl
theorem dj4 : Tryz.prog.cellsOf 4 = 1 := by kernel_rfl
theorem an8 : Tryz.prog.cellsOf 9 = 1 := by kernel_rfl
theorem dd0 : Tryz.prog.cellsOf 22 = 1 := by kernel_rfl
theorem bp1 : Tryz.prog.cellsOf 23 = 1 := by kernel_rfl
theorem cw2 : Tryz.prog.cellsOf 24 = 1 := by kernel_rfl
theorem df5 : Tryz.prog.cellsOf 25 = 1 := by kernel_rfl
theorem cu6 : Tryz.prog.cellsOf 26 = 1 := by kernel_rfl
theorem da8 : Tryz.prog.cellsOf 27 = 1 := by kernel_rfl
theorem be2 : Tryz.prog.cellsOf 28 = 1 := by kernel_rfl
theorem bo6 : Tryz.prog.cellsOf 29 = 1 := by kernel_rfl
theorem da7 : Tryz.prog.cellsOf 31 = 9 := by kernel_rfl
theorem bj6 : Tryz.prog.cellsOf 32 = 1 := by kernel_rfl
theorem cu2 : Tryz.prog.cellsOf 43 = 1 := by kernel_rfl
theorem ci2 : Tryz.prog.cellsOf 48 = 2 := by kernel_rfl
theorem cz7 : Tryz.prog.cellsOf 57 = 1 := by kernel_rfl
theorem dh0 : Tryz.prog.cellsOf 59 = 6 := by kernel_rfl
theorem cy2 : Tryz.prog.cellsOf 61 = 3 := by kernel_rfl
theorem aw8 : Tryz.prog.cellsOf 87 = 2 := by kernel_rfl
theorem ch9 : Tryz.prog.cellsOf 89 = 1 := by kernel_rfl
theorem cw6 : Tryz.prog.cellsOf 92 = 2 := by kernel_rfl
theorem cv8 : Tryz.prog.cellsOf 95 = 1 := by kernel_rfl
theorem dc6 : Tryz.prog.cellsOf 97 = 3 := by kernel_rfl
theorem cp7 : Tryz.prog.cellsOf 108 = 1 := by kernel_rfl
theorem cr0 : Tryz.prog.cellsOf 110 = 7 := by kernel_rfl
theorem cm4 : Tryz.prog.cellsOf 113 = 3 := by kernel_rfl
theorem cn4 : Tryz.prog.cellsOf 126 = 3 := by kernel_rfl
theorem cn5 : Tryz.prog.cellsOf 135 = 7 := by kernel_rfl
theorem cq9 : Tryz.prog.cellsOf 166 = 2 := by kernel_rfl
theorem cp1 : Tryz.prog.cellsOf 180 = 5 := by kernel_rfl
theorem cn0 : Tryz.prog.cellsOf 313 = 3 := by kernel_rfl
theorem dj1 {c : PV} (h : IsArg Tryz.prog 3 c) : ∃ a, tI.R a c := rm (ft Tryz.underlying3) h
theorem ay.reads166 : ∀ n, Reads Tryz.prog 166 ay.t n
 | 0 => fun cs hc => hc.elim
 | n + 1 => fun cs hc => by
   obtain ⟨hl, hf⟩ := gk Tryz.underlying166 hc
   rw [cq9] at hl
   match cs, hl with
   | [c0, c1], _ =>
     obtain ⟨a0, rfl⟩ := rF (mb Tryz.underlying9) hf 0 rfl rfl an8 rfl Tryz.underlying9 rfl
     obtain ⟨a1, rfl⟩ := rF (ft Tryz.underlying3) hf 1 rfl rfl ri rfl Tryz.underlying3 rfl
     refine ⟨({ Name := a0, Width := a1 } : ay), ?_⟩
     rw [ky Tryz.underlying166 rfl]
     rfl
theorem cy.reads92 : ∀ n, Reads Tryz.prog 92 cy.t n
 | 0 => fun cs hc => hc.elim
 | n + 1 => fun cs hc => by
   obtain ⟨hl, hf⟩ := gk Tryz.underlying92 hc
   rw [cw6] at hl
   match cs, hl with
   | [c0, c1], _ =>
     obtain ⟨a0, rfl⟩ := rF (mb Tryz.underlying9) hf 0 rfl rfl an8 rfl Tryz.underlying9 rfl
     obtain ⟨a1, h1⟩ := rF (dx Tryz.underlying23 ay.reads166) hf 1 rfl rfl bp1 rfl Tryz.underlying23 rfl
     refine ⟨({ Name := a0, Fields := a1 } : cy), ?_⟩
     rw [ky Tryz.underlying92 rfl]
     exact ⟨_, rfl, h1⟩
theorem cx.reads61 : ∀ n, Reads Tryz.prog 61 cx.t n
 | 0 => fun cs hc => hc.elim
 | n + 1 => fun cs hc => by
   obtain ⟨hl, hf⟩ := gk Tryz.underlying61 hc
   rw [cy2] at hl
   match cs, hl with
   | [c0, c1, c2], _ =>
     obtain ⟨a0, rfl⟩ := rF (mb Tryz.underlying9) hf 0 rfl rfl an8 rfl Tryz.underlying9 rfl
     obtain ⟨a1, rfl⟩ := rF (ft Tryz.underlying3) hf 1 rfl rfl ri rfl Tryz.underlying3 rfl
     obtain ⟨a2, rfl⟩ := rF (ft Tryz.underlying3) hf 2 rfl rfl ri rfl Tryz.underlying3 rfl
     refine ⟨({ Name := a0, Width := a1, Size := a2 } : cx), ?_⟩
     rw [ky Tryz.underlying61 rfl]
     rfl
theorem aa.reads87 : ∀ n, Reads Tryz.prog 87 aa.t n
 | 0 => fun cs hc => hc.elim
 | n + 1 => fun cs hc => by
   obtain ⟨hl, hf⟩ := gk Tryz.underlying87 hc
   rw [aw8] at hl
   match cs, hl with
   | [c0, c1], _ =>
     obtain ⟨a0, rfl⟩ := rF (ft Tryz.underlying3) hf 0 rfl rfl ri rfl Tryz.underlying3 rfl
     obtain ⟨a1, rfl⟩ := rF (ft Tryz.underlying3) hf 1 rfl rfl ri rfl Tryz.underlying3 rfl
     refine ⟨({ Header := a0, Field := a1 } : aa), ?_⟩
     rw [ky Tryz.underlying87 rfl]
     rfl
theorem ab.reads113 : ∀ n, Reads Tryz.prog 113 ab.t n
 | 0 => fun cs hc => hc.elim
 | n + 1 => fun cs hc => by
   obtain ⟨hl, hf⟩ := gk Tryz.underlying113 hc
   rw [cm4] at hl
   match cs, hl with
   | [c0, c1, c2], _ =>
     obtain ⟨a0, rfl⟩ := rF (ft Tryz.underlying3) hf 0 rfl rfl ri rfl Tryz.underlying3 rfl
     obtain ⟨a1, rfl⟩ := rF (ft Tryz.underlying3) hf 1 rfl rfl ri rfl Tryz.underlying3 rfl
     obtain ⟨a2, rfl⟩ := rF (ft Tryz.underlying3) hf 2 rfl rfl ri rfl Tryz.underlying3 rfl
     refine ⟨({ Op := a0, N := a1, W := a2 } : ab), ?_⟩
     rw [ky Tryz.underlying113 rfl]
     rfl
theorem aj.reads135 : ∀ n, Reads Tryz.prog 135 aj.t n
 | 0 => fun cs hc => hc.elim
 | n + 1 => fun cs hc => by
   obtain ⟨hl, hf⟩ := gk Tryz.underlying135 hc
   rw [cn5] at hl
   match cs, hl with
   | [c0, c1, c2, c3, c4, c5, c6], _ =>
     obtain ⟨a0, rfl⟩ := rF (ft Tryz.underlying3) hf 0 rfl rfl ri rfl Tryz.underlying3 rfl
     have q1 : HasC Tryz.prog n 87 [c1, c2] := by
      have q := hf _ (List.mem_of_getElem? (i := 1) rfl)
      simpa only [aw8, List.drop_succ_cons, List.drop_zero, List.take_succ_cons, List.take_zero] using q
     obtain ⟨a1, h1⟩ := aa.reads87 n _ q1
     rw [ky Tryz.underlying87 rfl] at h1
     have e1 : _ = _ := h1
     simp only [PV.agg.injEq, List.cons.injEq, and_true] at e1
     obtain ⟨rfl, rfl⟩ := e1
     obtain ⟨a2, rfl⟩ := rF (ft Tryz.underlying3) hf 2 rfl rfl ri rfl Tryz.underlying3 rfl
     obtain ⟨a3, rfl⟩ := rF (ft Tryz.underlying3) hf 3 rfl rfl ri rfl Tryz.underlying3 rfl
     obtain ⟨a4, h4⟩ := rF (dx Tryz.underlying32 ab.reads113) hf 4 rfl rfl bj6 rfl Tryz.underlying32 rfl
     obtain ⟨a5, h5⟩ := rF (dx Tryz.underlying32 ab.reads113) hf 5 rfl rfl bj6 rfl Tryz.underlying32 rfl
     refine ⟨({ Kind := a0, Dst := a1, Register := a2, Header := a3, Index := a4, Value := a5 } : aj), ?_⟩
     rw [ky Tryz.underlying135 rfl]
     exact ⟨_, _, rfl, h4, h5⟩
theorem bg.reads97 : ∀ n, Reads Tryz.prog 97 bg.t n
 | 0 => fun cs hc => hc.elim
 | n + 1 => fun cs hc => by
   obtain ⟨hl, hf⟩ := gk Tryz.underlying97 hc
   rw [dc6] at hl
   match cs, hl with
   | [c0, c1, c2], _ =>
     obtain ⟨a0, rfl⟩ := rF (mb Tryz.underlying9) hf 0 rfl rfl an8 rfl Tryz.underlying9 rfl
     obtain ⟨a1, h1⟩ := rF (dx Tryz.underlying23 ay.reads166) hf 1 rfl rfl bp1 rfl Tryz.underlying23 rfl
     obtain ⟨a2, h2⟩ := rF (dx Tryz.underlying95 aj.reads135) hf 2 rfl rfl cv8 rfl Tryz.underlying95 rfl
     refine ⟨({ Name := a0, Params := a1, Body := a2 } : bg), ?_⟩
     rw [ky Tryz.underlying97 rfl]
     exact ⟨_, _, rfl, h1, h2⟩
theorem ff.reads126 : ∀ n, Reads Tryz.prog 126 ff.t n
 | 0 => fun cs hc => hc.elim
 | n + 1 => fun cs hc => by
   obtain ⟨hl, hf⟩ := gk Tryz.underlying126 hc
   rw [cn4] at hl
   match cs, hl with
   | [c0, c1, c2], _ =>
     have q0 : HasC Tryz.prog n 87 [c0, c1] := by
      have q := hf _ (List.mem_of_getElem? (i := 0) rfl)
      simpa only [aw8, List.drop_succ_cons, List.drop_zero, List.take_succ_cons, List.take_zero] using q
     obtain ⟨a0, h0⟩ := aa.reads87 n _ q0
     rw [ky Tryz.underlying87 rfl] at h0
     have e0 : _ = _ := h0
     simp only [PV.agg.injEq, List.cons.injEq, and_true] at e0
     obtain ⟨rfl, rfl⟩ := e0
     obtain ⟨a1, rfl⟩ := rF (ft Tryz.underlying3) hf 1 rfl rfl ri rfl Tryz.underlying3 rfl
     refine ⟨({ Field := a0, Kind := a1 } : ff), ?_⟩
     rw [ky Tryz.underlying126 rfl]
     rfl
theorem bb.reads48 : ∀ n, Reads Tryz.prog 48 bb.t n
 | 0 => fun cs hc => hc.elim
 | n + 1 => fun cs hc => by
   obtain ⟨hl, hf⟩ := gk Tryz.underlying48 hc
   rw [ci2] at hl
   match cs, hl with
   | [c0, c1], _ =>
     obtain ⟨a0, rfl⟩ := rF (ft Tryz.underlying3) hf 0 rfl rfl ri rfl Tryz.underlying3 rfl
     obtain ⟨a1, h1⟩ := rF (dx Tryz.underlying43 (vz Tryz.underlying89)) hf 1 rfl rfl cu2 rfl Tryz.underlying43 rfl
     refine ⟨({ Action := a0, Args := a1 } : bb), ?_⟩
     rw [ky Tryz.underlying48 rfl]
     exact ⟨_, rfl, h1⟩
theorem fq.reads59 : ∀ n, Reads Tryz.prog 59 fq.t n
 | 0 => fun cs hc => hc.elim
 | n + 1 => fun cs hc => by
   obtain ⟨hl, hf⟩ := gk Tryz.underlying59 hc
   rw [dh0] at hl
   match cs, hl with
   | [c0, c1, c2, c3, c4, c5], _ =>
     obtain ⟨a0, rfl⟩ := rF (mb Tryz.underlying9) hf 0 rfl rfl an8 rfl Tryz.underlying9 rfl
     obtain ⟨a1, h1⟩ := rF (dx Tryz.underlying57 ff.reads126) hf 1 rfl rfl cz7 rfl Tryz.underlying57 rfl
     obtain ⟨a2, h2⟩ := rF (dx Tryz.underlying29 (ft Tryz.underlying3)) hf 2 rfl rfl bo6 rfl Tryz.underlying29 rfl
     have q3 : HasC Tryz.prog n 48 [c3, c4] := by
      have q := hf _ (List.mem_of_getElem? (i := 3) rfl)
      simpa only [ci2, List.drop_succ_cons, List.drop_zero, List.take_succ_cons, List.take_zero] using q
     obtain ⟨a3, h3⟩ := bb.reads48 n _ q3
     rw [ky Tryz.underlying48 rfl] at h3
     obtain ⟨d1_3, e3, kd1_3⟩ := h3
     simp only [PV.agg.injEq, List.cons.injEq, and_true] at e3
     obtain ⟨rfl, rfl⟩ := e3
     obtain ⟨a4, rfl⟩ := rF (ft Tryz.underlying3) hf 4 rfl rfl ri rfl Tryz.underlying3 rfl
     refine ⟨({ Name := a0, Keys := a1, Actions := a2, Default := a3, Size := a4 } : fq), ?_⟩
     rw [ky Tryz.underlying59 rfl]
     exact ⟨_, _, _, rfl, h1, h2, kd1_3⟩
theorem fi.reads313 : ∀ n, Reads Tryz.prog 313 fi.t n
 | 0 => fun cs hc => hc.elim
 | n + 1 => fun cs hc => by
   obtain ⟨hl, hf⟩ := gk Tryz.underlying313 hc
   rw [cn0] at hl
   match cs, hl with
   | [c0, c1, c2], _ =>
     obtain ⟨a0, rfl⟩ := rF (vz Tryz.underlying89) hf 0 rfl rfl ch9 rfl Tryz.underlying89 rfl
     obtain ⟨a1, rfl⟩ := rF (vz Tryz.underlying89) hf 1 rfl rfl ch9 rfl Tryz.underlying89 rfl
     obtain ⟨a2, rfl⟩ := rF (ft Tryz.underlying3) hf 2 rfl rfl ri rfl Tryz.underlying3 rfl
     refine ⟨({ Value := a0, Mask := a1, Next := a2 } : fi), ?_⟩
     rw [ky Tryz.underlying313 rfl]
     rfl
theorem dp.reads110 : ∀ n, Reads Tryz.prog 110 dp.t n
 | 0 => fun cs hc => hc.elim
 | n + 1 => fun cs hc => by
   obtain ⟨hl, hf⟩ := gk Tryz.underlying110 hc
   rw [cr0] at hl
   match cs, hl with
   | [c0, c1, c2, c3, c4, c5, c6], _ =>
     obtain ⟨a0, rfl⟩ := rF (mb Tryz.underlying9) hf 0 rfl rfl an8 rfl Tryz.underlying9 rfl
     obtain ⟨a1, h1⟩ := rF (dx Tryz.underlying29 (ft Tryz.underlying3)) hf 1 rfl rfl bo6 rfl Tryz.underlying29 rfl
     obtain ⟨a2, rfl⟩ := rF (aq4 Tryz.underlying4) hf 2 rfl rfl dj4 rfl Tryz.underlying4 rfl
     have q3 : HasC Tryz.prog n 87 [c3, c4] := by
      have q := hf _ (List.mem_of_getElem? (i := 3) rfl)
      simpa only [aw8, List.drop_succ_cons, List.drop_zero, List.take_succ_cons, List.take_zero] using q
     obtain ⟨a3, h3⟩ := aa.reads87 n _ q3
     rw [ky Tryz.underlying87 rfl] at h3
     have e3 : _ = _ := h3
     simp only [PV.agg.injEq, List.cons.injEq, and_true] at e3
     obtain ⟨rfl, rfl⟩ := e3
     obtain ⟨a4, h4⟩ := rF (dx Tryz.underlying108 fi.reads313) hf 4 rfl rfl cp7 rfl Tryz.underlying108 rfl
     obtain ⟨a5, rfl⟩ := rF (ft Tryz.underlying3) hf 5 rfl rfl ri rfl Tryz.underlying3 rfl
     refine ⟨({ Name := a0, Extract := a1, Select := a2, On := a3, Cases := a4, Default := a5 } : dp), ?_⟩
     rw [ky Tryz.underlying110 rfl]
     exact ⟨_, _, rfl, h1, h4⟩
theorem az.reads180 : ∀ n, Reads Tryz.prog 180 az.t n
 | 0 => fun cs hc => hc.elim
 | n + 1 => fun cs hc => by
   obtain ⟨hl, hf⟩ := gk Tryz.underlying180 hc
   rw [cp1] at hl
   match cs, hl with
   | [c0, c1, c2, c3, c4], _ =>
     obtain ⟨a0, rfl⟩ := rF (ft Tryz.underlying3) hf 0 rfl rfl ri rfl Tryz.underlying3 rfl
     obtain ⟨a1, rfl⟩ := rF (ft Tryz.underlying3) hf 1 rfl rfl ri rfl Tryz.underlying3 rfl
     obtain ⟨a2, h2⟩ := rF (dx Tryz.underlying32 ab.reads113) hf 2 rfl rfl bj6 rfl Tryz.underlying32 rfl
     have q3 : HasC Tryz.prog n 28 [c3] := by
      have q := hf _ (List.mem_of_getElem? (i := 3) rfl)
      simpa only [be2, List.drop_succ_cons, List.drop_zero, List.take_succ_cons, List.take_zero] using q
     obtain ⟨a3, h3⟩ : ∃ a, (tSl az.t).R a (valC Tryz.prog 28 [c3]) := by
      cases n with
      | zero => exact q3.elim
      | succ n => exact sd Tryz.underlying28 (az.reads180 n) _ q3
     rw [pd Tryz.underlying28 rfl] at h3
     have q4 : HasC Tryz.prog n 28 [c4] := by
      have q := hf _ (List.mem_of_getElem? (i := 4) rfl)
      simpa only [be2, List.drop_succ_cons, List.drop_zero, List.take_succ_cons, List.take_zero] using q
     obtain ⟨a4, h4⟩ : ∃ a, (tSl az.t).R a (valC Tryz.prog 28 [c4]) := by
      cases n with
      | zero => exact q4.elim
      | succ n => exact sd Tryz.underlying28 (az.reads180 n) _ q4
     rw [pd Tryz.underlying28 rfl] at h4
     refine ⟨({ Kind := a0, Table := a1, Cond := a2, Then := a3, Else := a4 } : az), ?_⟩
     rw [ky Tryz.underlying180 rfl]
     show az.R _ _
     simp only [az.R]
     exact ⟨_, _, _, rfl, h2, ⟨⟨h3.1.choose, h3.1.choose_spec.1, by rw [az.Rl_eq]; exact h3.1.choose_spec.2⟩, h3.2⟩, ⟨⟨h4.1.choose, h4.1.choose_spec.1, by rw [az.Rl_eq]; exact h4.1.choose_spec.2⟩, h4.2⟩⟩
theorem af.reads31 : ∀ n, Reads Tryz.prog 31 af.t n
 | 0 => fun cs hc => hc.elim
 | n + 1 => fun cs hc => by
   obtain ⟨hl, hf⟩ := gk Tryz.underlying31 hc
   rw [da7] at hl
   match cs, hl with
   | [c0, c1, c2, c3, c4, c5, c6, c7, c8], _ =>
     obtain ⟨a0, rfl⟩ := rF (mb Tryz.underlying9) hf 0 rfl rfl an8 rfl Tryz.underlying9 rfl
     obtain ⟨a1, h1⟩ := rF (dx Tryz.underlying22 cy.reads92) hf 1 rfl rfl dd0 rfl Tryz.underlying22 rfl
     obtain ⟨a2, h2⟩ := rF (dx Tryz.underlying23 ay.reads166) hf 2 rfl rfl bp1 rfl Tryz.underlying23 rfl
     obtain ⟨a3, h3⟩ := rF (dx Tryz.underlying24 cx.reads61) hf 3 rfl rfl cw2 rfl Tryz.underlying24 rfl
     obtain ⟨a4, h4⟩ := rF (dx Tryz.underlying25 bg.reads97) hf 4 rfl rfl df5 rfl Tryz.underlying25 rfl
     obtain ⟨a5, h5⟩ := rF (dx Tryz.underlying26 fq.reads59) hf 5 rfl rfl cu6 rfl Tryz.underlying26 rfl
     obtain ⟨a6, h6⟩ := rF (dx Tryz.underlying27 dp.reads110) hf 6 rfl rfl da8 rfl Tryz.underlying27 rfl
     obtain ⟨a7, h7⟩ := rF (dx Tryz.underlying28 az.reads180) hf 7 rfl rfl be2 rfl Tryz.underlying28 rfl
     obtain ⟨a8, h8⟩ := rF (dx Tryz.underlying29 (ft Tryz.underlying3)) hf 8 rfl rfl bo6 rfl Tryz.underlying29 rfl
     refine ⟨({ Name := a0, Headers := a1, Metadata := a2, Registers := a3, Actions := a4, Tables := a5, States := a6, Control := a7, Deparser := a8 } : af), ?_⟩
     rw [ky Tryz.underlying31 rfl]
     exact ⟨_, _, _, _, _, _, _, _, rfl, h1, h2, h3, h4, h5, h6, h7, h8⟩
theorem db6 {c : PV} (h : IsArg Tryz.prog 31 c) : ∃ a, af.t.R a c := rm af.reads31 h
theorem dh9 {c : PV} (h : IsArg Tryz.prog 48 c) : ∃ a, bb.t.R a c := rm bb.reads48 h
end Go.Proofs.YtmonnlkagniolaaGreat
