import Derived.Test.YtmonnlkagniolaaGreatPbA
import Derived.Test.YtmonnlkagniolaaGreatKTy
set_option linter.unusedVariables false
set_option linter.unusedSimpArgs false
set_option maxRecDepth 100000
namespace Go.Proofs.YtmonnlkagniolaaGreat
open Go Go.Pb Go.RowKit
theorem sh : Tryz.prog.cellsOf 3 = 1 := by kernel_rfl
theorem df7 : Tryz.prog.cellsOf 4 = 1 := by kernel_rfl
theorem ay0 : Tryz.prog.cellsOf 9 = 1 := by kernel_rfl
theorem dm9 : Tryz.prog.cellsOf 22 = 1 := by kernel_rfl
theorem bv2 : Tryz.prog.cellsOf 23 = 1 := by kernel_rfl
theorem dj3 : Tryz.prog.cellsOf 24 = 1 := by kernel_rfl
theorem dg2 : Tryz.prog.cellsOf 25 = 1 := by kernel_rfl
theorem dl0 : Tryz.prog.cellsOf 26 = 1 := by kernel_rfl
theorem dh3 : Tryz.prog.cellsOf 27 = 1 := by kernel_rfl
theorem bm4 : Tryz.prog.cellsOf 28 = 1 := by kernel_rfl
theorem bw9 : Tryz.prog.cellsOf 29 = 1 := by kernel_rfl
theorem di3 : Tryz.prog.cellsOf 31 = 9 := by kernel_rfl
theorem az6 : Tryz.prog.cellsOf 32 = 1 := by kernel_rfl
theorem de7 : Tryz.prog.cellsOf 33 = 1 := by kernel_rfl
theorem dl5 : Tryz.prog.cellsOf 35 = 3 := by kernel_rfl
theorem dn8 : Tryz.prog.cellsOf 43 = 1 := by kernel_rfl
theorem cp9 : Tryz.prog.cellsOf 48 = 2 := by kernel_rfl
theorem dg7 : Tryz.prog.cellsOf 57 = 1 := by kernel_rfl
theorem dn2 : Tryz.prog.cellsOf 59 = 6 := by kernel_rfl
theorem di0 : Tryz.prog.cellsOf 61 = 3 := by kernel_rfl
theorem ba2 : Tryz.prog.cellsOf 87 = 2 := by kernel_rfl
theorem cq8 : Tryz.prog.cellsOf 89 = 1 := by kernel_rfl
theorem dm8 : Tryz.prog.cellsOf 92 = 2 := by kernel_rfl
theorem dk1 : Tryz.prog.cellsOf 95 = 1 := by kernel_rfl
theorem df0 : Tryz.prog.cellsOf 97 = 3 := by kernel_rfl
theorem cu2 : Tryz.prog.cellsOf 102 = 2 := by kernel_rfl
theorem db9 : Tryz.prog.cellsOf 108 = 1 := by kernel_rfl
theorem cz6 : Tryz.prog.cellsOf 110 = 7 := by kernel_rfl
theorem da6 : Tryz.prog.cellsOf 113 = 3 := by kernel_rfl
theorem da7 : Tryz.prog.cellsOf 126 = 3 := by kernel_rfl
theorem cu1 : Tryz.prog.cellsOf 135 = 7 := by kernel_rfl
theorem db1 : Tryz.prog.cellsOf 166 = 2 := by kernel_rfl
theorem cx8 : Tryz.prog.cellsOf 180 = 5 := by kernel_rfl
theorem cw9 : Tryz.prog.cellsOf 313 = 3 := by kernel_rfl
theorem ay.reads166 : ∀ n, Reads Tryz.prog 166 ay.t n
 | 0 => fun cs hc => hc.elim
 | n + 1 => fun cs hc => by
   obtain ⟨hl, hf⟩ := gq Tryz.underlying166 hc
   rw [db1] at hl
   match cs, hl with
   | [c0, c1], _ =>
     obtain ⟨a0, rfl⟩ := rF (nm Tryz.underlying9) hf 0 rfl rfl ay0 rfl Tryz.underlying9 rfl
     obtain ⟨a1, rfl⟩ := rF (gy Tryz.underlying3) hf 1 rfl rfl sh rfl Tryz.underlying3 rfl
     refine ⟨({ Name := a0, Width := a1 } : ay), ?_⟩
     rw [ln Tryz.underlying166 rfl]
     rfl
theorem bg.reads92 : ∀ n, Reads Tryz.prog 92 bg.t n
 | 0 => fun cs hc => hc.elim
 | n + 1 => fun cs hc => by
   obtain ⟨hl, hf⟩ := gq Tryz.underlying92 hc
   rw [dm8] at hl
   match cs, hl with
   | [c0, c1], _ =>
     obtain ⟨a0, rfl⟩ := rF (nm Tryz.underlying9) hf 0 rfl rfl ay0 rfl Tryz.underlying9 rfl
     obtain ⟨a1, h1⟩ := rF (fa Tryz.underlying23 ay.reads166) hf 1 rfl rfl bv2 rfl Tryz.underlying23 rfl
     refine ⟨({ Name := a0, Fields := a1 } : bg), ?_⟩
     rw [ln Tryz.underlying92 rfl]
     exact ⟨_, rfl, h1⟩
theorem cg.reads61 : ∀ n, Reads Tryz.prog 61 cg.t n
 | 0 => fun cs hc => hc.elim
 | n + 1 => fun cs hc => by
   obtain ⟨hl, hf⟩ := gq Tryz.underlying61 hc
   rw [di0] at hl
   match cs, hl with
   | [c0, c1, c2], _ =>
     obtain ⟨a0, rfl⟩ := rF (nm Tryz.underlying9) hf 0 rfl rfl ay0 rfl Tryz.underlying9 rfl
     obtain ⟨a1, rfl⟩ := rF (gy Tryz.underlying3) hf 1 rfl rfl sh rfl Tryz.underlying3 rfl
     obtain ⟨a2, rfl⟩ := rF (gy Tryz.underlying3) hf 2 rfl rfl sh rfl Tryz.underlying3 rfl
     refine ⟨({ Name := a0, Width := a1, Size := a2 } : cg), ?_⟩
     rw [ln Tryz.underlying61 rfl]
     rfl
theorem aa.reads87 : ∀ n, Reads Tryz.prog 87 aa.t n
 | 0 => fun cs hc => hc.elim
 | n + 1 => fun cs hc => by
   obtain ⟨hl, hf⟩ := gq Tryz.underlying87 hc
   rw [ba2] at hl
   match cs, hl with
   | [c0, c1], _ =>
     obtain ⟨a0, rfl⟩ := rF (gy Tryz.underlying3) hf 0 rfl rfl sh rfl Tryz.underlying3 rfl
     obtain ⟨a1, rfl⟩ := rF (gy Tryz.underlying3) hf 1 rfl rfl sh rfl Tryz.underlying3 rfl
     refine ⟨({ Header := a0, Field := a1 } : aa), ?_⟩
     rw [ln Tryz.underlying87 rfl]
     rfl
theorem ae.reads113 : ∀ n, Reads Tryz.prog 113 ae.t n
 | 0 => fun cs hc => hc.elim
 | n + 1 => fun cs hc => by
   obtain ⟨hl, hf⟩ := gq Tryz.underlying113 hc
   rw [da6] at hl
   match cs, hl with
   | [c0, c1, c2], _ =>
     obtain ⟨a0, rfl⟩ := rF (gy Tryz.underlying3) hf 0 rfl rfl sh rfl Tryz.underlying3 rfl
     obtain ⟨a1, rfl⟩ := rF (gy Tryz.underlying3) hf 1 rfl rfl sh rfl Tryz.underlying3 rfl
     obtain ⟨a2, rfl⟩ := rF (gy Tryz.underlying3) hf 2 rfl rfl sh rfl Tryz.underlying3 rfl
     refine ⟨({ Op := a0, N := a1, W := a2 } : ae), ?_⟩
     rw [ln Tryz.underlying113 rfl]
     rfl
theorem aq.reads135 : ∀ n, Reads Tryz.prog 135 aq.t n
 | 0 => fun cs hc => hc.elim
 | n + 1 => fun cs hc => by
   obtain ⟨hl, hf⟩ := gq Tryz.underlying135 hc
   rw [cu1] at hl
   match cs, hl with
   | [c0, c1, c2, c3, c4, c5, c6], _ =>
     obtain ⟨a0, rfl⟩ := rF (gy Tryz.underlying3) hf 0 rfl rfl sh rfl Tryz.underlying3 rfl
     have q1 : HasC Tryz.prog n 87 [c1, c2] := by
      have q := hf _ (List.mem_of_getElem? (i := 1) rfl)
      simpa only [ba2, List.drop_succ_cons, List.drop_zero, List.take_succ_cons, List.take_zero] using q
     obtain ⟨a1, h1⟩ := aa.reads87 n _ q1
     rw [ln Tryz.underlying87 rfl] at h1
     have e1 : _ = _ := h1
     simp only [PV.agg.injEq, List.cons.injEq, and_true] at e1
     obtain ⟨rfl, rfl⟩ := e1
     obtain ⟨a2, rfl⟩ := rF (gy Tryz.underlying3) hf 2 rfl rfl sh rfl Tryz.underlying3 rfl
     obtain ⟨a3, rfl⟩ := rF (gy Tryz.underlying3) hf 3 rfl rfl sh rfl Tryz.underlying3 rfl
     obtain ⟨a4, h4⟩ := rF (fa Tryz.underlying32 ae.reads113) hf 4 rfl rfl az6 rfl Tryz.underlying32 rfl
     obtain ⟨a5, h5⟩ := rF (fa Tryz.underlying32 ae.reads113) hf 5 rfl rfl az6 rfl Tryz.underlying32 rfl
     refine ⟨({ Kind := a0, Dst := a1, Register := a2, Header := a3, Index := a4, Value := a5 } : aq), ?_⟩
     rw [ln Tryz.underlying135 rfl]
     exact ⟨_, _, rfl, h4, h5⟩
theorem bc.reads97 : ∀ n, Reads Tryz.prog 97 bc.t n
 | 0 => fun cs hc => hc.elim
 | n + 1 => fun cs hc => by
   obtain ⟨hl, hf⟩ := gq Tryz.underlying97 hc
   rw [df0] at hl
   match cs, hl with
   | [c0, c1, c2], _ =>
     obtain ⟨a0, rfl⟩ := rF (nm Tryz.underlying9) hf 0 rfl rfl ay0 rfl Tryz.underlying9 rfl
     obtain ⟨a1, h1⟩ := rF (fa Tryz.underlying23 ay.reads166) hf 1 rfl rfl bv2 rfl Tryz.underlying23 rfl
     obtain ⟨a2, h2⟩ := rF (fa Tryz.underlying95 aq.reads135) hf 2 rfl rfl dk1 rfl Tryz.underlying95 rfl
     refine ⟨({ Name := a0, Params := a1, Body := a2 } : bc), ?_⟩
     rw [ln Tryz.underlying97 rfl]
     exact ⟨_, _, rfl, h1, h2⟩
theorem ee.reads126 : ∀ n, Reads Tryz.prog 126 ee.t n
 | 0 => fun cs hc => hc.elim
 | n + 1 => fun cs hc => by
   obtain ⟨hl, hf⟩ := gq Tryz.underlying126 hc
   rw [da7] at hl
   match cs, hl with
   | [c0, c1, c2], _ =>
     have q0 : HasC Tryz.prog n 87 [c0, c1] := by
      have q := hf _ (List.mem_of_getElem? (i := 0) rfl)
      simpa only [ba2, List.drop_succ_cons, List.drop_zero, List.take_succ_cons, List.take_zero] using q
     obtain ⟨a0, h0⟩ := aa.reads87 n _ q0
     rw [ln Tryz.underlying87 rfl] at h0
     have e0 : _ = _ := h0
     simp only [PV.agg.injEq, List.cons.injEq, and_true] at e0
     obtain ⟨rfl, rfl⟩ := e0
     obtain ⟨a1, rfl⟩ := rF (gy Tryz.underlying3) hf 1 rfl rfl sh rfl Tryz.underlying3 rfl
     refine ⟨({ Field := a0, Kind := a1 } : ee), ?_⟩
     rw [ln Tryz.underlying126 rfl]
     rfl
theorem fh.reads48 : ∀ n, Reads Tryz.prog 48 fh.t n
 | 0 => fun cs hc => hc.elim
 | n + 1 => fun cs hc => by
   obtain ⟨hl, hf⟩ := gq Tryz.underlying48 hc
   rw [cp9] at hl
   match cs, hl with
   | [c0, c1], _ =>
     obtain ⟨a0, rfl⟩ := rF (gy Tryz.underlying3) hf 0 rfl rfl sh rfl Tryz.underlying3 rfl
     obtain ⟨a1, h1⟩ := rF (fa Tryz.underlying43 (yw Tryz.underlying89)) hf 1 rfl rfl dn8 rfl Tryz.underlying43 rfl
     refine ⟨({ Action := a0, Args := a1 } : fh), ?_⟩
     rw [ln Tryz.underlying48 rfl]
     exact ⟨_, rfl, h1⟩
theorem bh.reads59 : ∀ n, Reads Tryz.prog 59 bh.t n
 | 0 => fun cs hc => hc.elim
 | n + 1 => fun cs hc => by
   obtain ⟨hl, hf⟩ := gq Tryz.underlying59 hc
   rw [dn2] at hl
   match cs, hl with
   | [c0, c1, c2, c3, c4, c5], _ =>
     obtain ⟨a0, rfl⟩ := rF (nm Tryz.underlying9) hf 0 rfl rfl ay0 rfl Tryz.underlying9 rfl
     obtain ⟨a1, h1⟩ := rF (fa Tryz.underlying57 ee.reads126) hf 1 rfl rfl dg7 rfl Tryz.underlying57 rfl
     obtain ⟨a2, h2⟩ := rF (fa Tryz.underlying29 (gy Tryz.underlying3)) hf 2 rfl rfl bw9 rfl Tryz.underlying29 rfl
     have q3 : HasC Tryz.prog n 48 [c3, c4] := by
      have q := hf _ (List.mem_of_getElem? (i := 3) rfl)
      simpa only [cp9, List.drop_succ_cons, List.drop_zero, List.take_succ_cons, List.take_zero] using q
     obtain ⟨a3, h3⟩ := fh.reads48 n _ q3
     rw [ln Tryz.underlying48 rfl] at h3
     obtain ⟨d1_3, e3, kd1_3⟩ := h3
     simp only [PV.agg.injEq, List.cons.injEq, and_true] at e3
     obtain ⟨rfl, rfl⟩ := e3
     obtain ⟨a4, rfl⟩ := rF (gy Tryz.underlying3) hf 4 rfl rfl sh rfl Tryz.underlying3 rfl
     refine ⟨({ Name := a0, Keys := a1, Actions := a2, Default := a3, Size := a4 } : bh), ?_⟩
     rw [ln Tryz.underlying59 rfl]
     exact ⟨_, _, _, rfl, h1, h2, kd1_3⟩
theorem fg.reads313 : ∀ n, Reads Tryz.prog 313 fg.t n
 | 0 => fun cs hc => hc.elim
 | n + 1 => fun cs hc => by
   obtain ⟨hl, hf⟩ := gq Tryz.underlying313 hc
   rw [cw9] at hl
   match cs, hl with
   | [c0, c1, c2], _ =>
     obtain ⟨a0, rfl⟩ := rF (yw Tryz.underlying89) hf 0 rfl rfl cq8 rfl Tryz.underlying89 rfl
     obtain ⟨a1, rfl⟩ := rF (yw Tryz.underlying89) hf 1 rfl rfl cq8 rfl Tryz.underlying89 rfl
     obtain ⟨a2, rfl⟩ := rF (gy Tryz.underlying3) hf 2 rfl rfl sh rfl Tryz.underlying3 rfl
     refine ⟨({ Value := a0, Mask := a1, Next := a2 } : fg), ?_⟩
     rw [ln Tryz.underlying313 rfl]
     rfl
theorem bm.reads110 : ∀ n, Reads Tryz.prog 110 bm.t n
 | 0 => fun cs hc => hc.elim
 | n + 1 => fun cs hc => by
   obtain ⟨hl, hf⟩ := gq Tryz.underlying110 hc
   rw [cz6] at hl
   match cs, hl with
   | [c0, c1, c2, c3, c4, c5, c6], _ =>
     obtain ⟨a0, rfl⟩ := rF (nm Tryz.underlying9) hf 0 rfl rfl ay0 rfl Tryz.underlying9 rfl
     obtain ⟨a1, h1⟩ := rF (fa Tryz.underlying29 (gy Tryz.underlying3)) hf 1 rfl rfl bw9 rfl Tryz.underlying29 rfl
     obtain ⟨a2, rfl⟩ := rF (ac9 Tryz.underlying4) hf 2 rfl rfl df7 rfl Tryz.underlying4 rfl
     have q3 : HasC Tryz.prog n 87 [c3, c4] := by
      have q := hf _ (List.mem_of_getElem? (i := 3) rfl)
      simpa only [ba2, List.drop_succ_cons, List.drop_zero, List.take_succ_cons, List.take_zero] using q
     obtain ⟨a3, h3⟩ := aa.reads87 n _ q3
     rw [ln Tryz.underlying87 rfl] at h3
     have e3 : _ = _ := h3
     simp only [PV.agg.injEq, List.cons.injEq, and_true] at e3
     obtain ⟨rfl, rfl⟩ := e3
     obtain ⟨a4, h4⟩ := rF (fa Tryz.underlying108 fg.reads313) hf 4 rfl rfl db9 rfl Tryz.underlying108 rfl
     obtain ⟨a5, rfl⟩ := rF (gy Tryz.underlying3) hf 5 rfl rfl sh rfl Tryz.underlying3 rfl
     refine ⟨({ Name := a0, Extract := a1, Select := a2, On := a3, Cases := a4, Default := a5 } : bm), ?_⟩
     rw [ln Tryz.underlying110 rfl]
     exact ⟨_, _, rfl, h1, h4⟩
theorem aj.reads180 : ∀ n, Reads Tryz.prog 180 aj.t n
 | 0 => fun cs hc => hc.elim
 | n + 1 => fun cs hc => by
   obtain ⟨hl, hf⟩ := gq Tryz.underlying180 hc
   rw [cx8] at hl
   match cs, hl with
   | [c0, c1, c2, c3, c4], _ =>
     obtain ⟨a0, rfl⟩ := rF (gy Tryz.underlying3) hf 0 rfl rfl sh rfl Tryz.underlying3 rfl
     obtain ⟨a1, rfl⟩ := rF (gy Tryz.underlying3) hf 1 rfl rfl sh rfl Tryz.underlying3 rfl
     obtain ⟨a2, h2⟩ := rF (fa Tryz.underlying32 ae.reads113) hf 2 rfl rfl az6 rfl Tryz.underlying32 rfl
     have q3 : HasC Tryz.prog n 28 [c3] := by
      have q := hf _ (List.mem_of_getElem? (i := 3) rfl)
      simpa only [bm4, List.drop_succ_cons, List.drop_zero, List.take_succ_cons, List.take_zero] using q
     obtain ⟨a3, h3⟩ : ∃ a, (tSl aj.t).R a (valC Tryz.prog 28 [c3]) := by
      cases n with
      | zero => exact q3.elim
      | succ n => exact ub Tryz.underlying28 (aj.reads180 n) _ q3
     rw [qs Tryz.underlying28 rfl] at h3
     have q4 : HasC Tryz.prog n 28 [c4] := by
      have q := hf _ (List.mem_of_getElem? (i := 4) rfl)
      simpa only [bm4, List.drop_succ_cons, List.drop_zero, List.take_succ_cons, List.take_zero] using q
     obtain ⟨a4, h4⟩ : ∃ a, (tSl aj.t).R a (valC Tryz.prog 28 [c4]) := by
      cases n with
      | zero => exact q4.elim
      | succ n => exact ub Tryz.underlying28 (aj.reads180 n) _ q4
     rw [qs Tryz.underlying28 rfl] at h4
     refine ⟨({ Kind := a0, Table := a1, Cond := a2, Then := a3, Else := a4 } : aj), ?_⟩
     rw [ln Tryz.underlying180 rfl]
     show aj.R _ _
     simp only [aj.R]
     exact ⟨_, _, _, rfl, h2, ⟨⟨h3.1.choose, h3.1.choose_spec.1, by rw [aj.Rl_eq]; exact h3.1.choose_spec.2⟩, h3.2⟩, ⟨⟨h4.1.choose, h4.1.choose_spec.1, by rw [aj.Rl_eq]; exact h4.1.choose_spec.2⟩, h4.2⟩⟩
theorem ab.reads31 : ∀ n, Reads Tryz.prog 31 ab.t n
 | 0 => fun cs hc => hc.elim
 | n + 1 => fun cs hc => by
   obtain ⟨hl, hf⟩ := gq Tryz.underlying31 hc
   rw [di3] at hl
   match cs, hl with
   | [c0, c1, c2, c3, c4, c5, c6, c7, c8], _ =>
     obtain ⟨a0, rfl⟩ := rF (nm Tryz.underlying9) hf 0 rfl rfl ay0 rfl Tryz.underlying9 rfl
     obtain ⟨a1, h1⟩ := rF (fa Tryz.underlying22 bg.reads92) hf 1 rfl rfl dm9 rfl Tryz.underlying22 rfl
     obtain ⟨a2, h2⟩ := rF (fa Tryz.underlying23 ay.reads166) hf 2 rfl rfl bv2 rfl Tryz.underlying23 rfl
     obtain ⟨a3, h3⟩ := rF (fa Tryz.underlying24 cg.reads61) hf 3 rfl rfl dj3 rfl Tryz.underlying24 rfl
     obtain ⟨a4, h4⟩ := rF (fa Tryz.underlying25 bc.reads97) hf 4 rfl rfl dg2 rfl Tryz.underlying25 rfl
     obtain ⟨a5, h5⟩ := rF (fa Tryz.underlying26 bh.reads59) hf 5 rfl rfl dl0 rfl Tryz.underlying26 rfl
     obtain ⟨a6, h6⟩ := rF (fa Tryz.underlying27 bm.reads110) hf 6 rfl rfl dh3 rfl Tryz.underlying27 rfl
     obtain ⟨a7, h7⟩ := rF (fa Tryz.underlying28 aj.reads180) hf 7 rfl rfl bm4 rfl Tryz.underlying28 rfl
     obtain ⟨a8, h8⟩ := rF (fa Tryz.underlying29 (gy Tryz.underlying3)) hf 8 rfl rfl bw9 rfl Tryz.underlying29 rfl
     refine ⟨({ Name := a0, Headers := a1, Metadata := a2, Registers := a3, Actions := a4, Tables := a5, States := a6, Control := a7, Deparser := a8 } : ab), ?_⟩
     rw [ln Tryz.underlying31 rfl]
     exact ⟨_, _, _, _, _, _, _, _, rfl, h1, h2, h3, h4, h5, h6, h7, h8⟩
theorem dg4 {c : PV} (h : IsArg Tryz.prog 31 c) : ∃ a, ab.t.R a c := aa0 ab.reads31 h
theorem ng.reads102 : ∀ n, Reads Tryz.prog 102 ng.t n
 | 0 => fun cs hc => hc.elim
 | n + 1 => fun cs hc => by
   obtain ⟨hl, hf⟩ := gq Tryz.underlying102 hc
   rw [cu2] at hl
   match cs, hl with
   | [c0, c1], _ =>
     obtain ⟨a0, rfl⟩ := rF (gy Tryz.underlying3) hf 0 rfl rfl sh rfl Tryz.underlying3 rfl
     obtain ⟨a1, rfl⟩ := rF (ac9 Tryz.underlying4) hf 1 rfl rfl df7 rfl Tryz.underlying4 rfl
     refine ⟨({ Unit := a0, Want := a1 } : ng), ?_⟩
     rw [ln Tryz.underlying102 rfl]
     rfl
theorem ct.reads35 : ∀ n, Reads Tryz.prog 35 ct.t n
 | 0 => fun cs hc => hc.elim
 | n + 1 => fun cs hc => by
   obtain ⟨hl, hf⟩ := gq Tryz.underlying35 hc
   rw [dl5] at hl
   match cs, hl with
   | [c0, c1, c2], _ =>
     obtain ⟨a0, rfl⟩ := rF (gy Tryz.underlying3) hf 0 rfl rfl sh rfl Tryz.underlying3 rfl
     obtain ⟨a1, h1⟩ := rF (fa Tryz.underlying32 ae.reads113) hf 1 rfl rfl az6 rfl Tryz.underlying32 rfl
     obtain ⟨a2, h2⟩ := rF (fa Tryz.underlying33 ng.reads102) hf 2 rfl rfl de7 rfl Tryz.underlying33 rfl
     refine ⟨({ Table := a0, Cond := a1, Guards := a2 } : ct), ?_⟩
     rw [ln Tryz.underlying35 rfl]
     exact ⟨_, _, rfl, h1, h2⟩
theorem di2 {c : PV} (h : IsArg Tryz.prog 35 c) : ∃ a, ct.t.R a c := aa0 ct.reads35 h
end Go.Proofs.YtmonnlkagniolaaGreat
