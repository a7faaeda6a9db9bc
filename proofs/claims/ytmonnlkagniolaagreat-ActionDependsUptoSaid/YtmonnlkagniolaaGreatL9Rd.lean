import Derived.Test.YtmonnlkagniolaaGreatPbA
import Derived.Test.YtmonnlkagniolaaGreatKTy
set_option linter.unusedVariables false
set_option linter.unusedSimpArgs false
set_option maxRecDepth 100000
namespace Go.Proofs.YtmonnlkagniolaaGreat
open Go Go.Pb Go.RowKit
theorem ug : Tryz.prog.cellsOf 3 = 1 := by kernel_rfl
theorem dy2 : Tryz.prog.cellsOf 4 = 1 := by kernel_rfl
theorem ay4 : Tryz.prog.cellsOf 9 = 1 := by kernel_rfl
theorem dq1 : Tryz.prog.cellsOf 22 = 1 := by kernel_rfl
theorem cb2 : Tryz.prog.cellsOf 23 = 1 := by kernel_rfl
theorem dn4 : Tryz.prog.cellsOf 24 = 1 := by kernel_rfl
theorem dm7 : Tryz.prog.cellsOf 25 = 1 := by kernel_rfl
theorem ds3 : Tryz.prog.cellsOf 26 = 1 := by kernel_rfl
theorem dr3 : Tryz.prog.cellsOf 27 = 1 := by kernel_rfl
theorem bx3 : Tryz.prog.cellsOf 28 = 1 := by kernel_rfl
theorem bz6 : Tryz.prog.cellsOf 29 = 1 := by kernel_rfl
theorem cz2 : Tryz.prog.cellsOf 31 = 9 := by kernel_rfl
theorem bv7 : Tryz.prog.cellsOf 32 = 1 := by kernel_rfl
theorem dr6 : Tryz.prog.cellsOf 41 = 1 := by kernel_rfl
theorem cz1 : Tryz.prog.cellsOf 42 = 1 := by kernel_rfl
theorem cw7 : Tryz.prog.cellsOf 43 = 1 := by kernel_rfl
theorem dm6 : Tryz.prog.cellsOf 44 = 1 := by kernel_rfl
theorem cw1 : Tryz.prog.cellsOf 46 = 4 := by kernel_rfl
theorem bs5 : Tryz.prog.cellsOf 48 = 2 := by kernel_rfl
theorem dq6 : Tryz.prog.cellsOf 57 = 1 := by kernel_rfl
theorem dm4 : Tryz.prog.cellsOf 59 = 6 := by kernel_rfl
theorem dm3 : Tryz.prog.cellsOf 61 = 3 := by kernel_rfl
theorem dn9 : Tryz.prog.cellsOf 82 = 16 := by kernel_rfl
theorem bh7 : Tryz.prog.cellsOf 87 = 2 := by kernel_rfl
theorem cx1 : Tryz.prog.cellsOf 89 = 1 := by kernel_rfl
theorem dv5 : Tryz.prog.cellsOf 92 = 2 := by kernel_rfl
theorem dr0 : Tryz.prog.cellsOf 95 = 1 := by kernel_rfl
theorem dv0 : Tryz.prog.cellsOf 97 = 3 := by kernel_rfl
theorem di0 : Tryz.prog.cellsOf 108 = 1 := by kernel_rfl
theorem da2 : Tryz.prog.cellsOf 110 = 7 := by kernel_rfl
theorem db0 : Tryz.prog.cellsOf 113 = 3 := by kernel_rfl
theorem dg5 : Tryz.prog.cellsOf 126 = 3 := by kernel_rfl
theorem df8 : Tryz.prog.cellsOf 135 = 7 := by kernel_rfl
theorem dg1 : Tryz.prog.cellsOf 166 = 2 := by kernel_rfl
theorem db8 : Tryz.prog.cellsOf 180 = 5 := by kernel_rfl
theorem cz9 : Tryz.prog.cellsOf 313 = 3 := by kernel_rfl
theorem dr1 {c : PV} (h : IsArg Tryz.prog 42 c) : ∃ a, (tSl (tSl dm)).R a c := uj (dx Tryz.underlying42 (dx Tryz.underlying43 (qh Tryz.underlying89))) h
theorem av.reads46 : ∀ n, Reads Tryz.prog 46 av.t n
 | 0 => fun cs hc => hc.elim
 | n + 1 => fun cs hc => by
   obtain ⟨hl, hf⟩ := gz Tryz.underlying46 hc
   rw [cw1] at hl
   match cs, hl with
   | [c0, c1, c2, c3], _ =>
     obtain ⟨a0, h0⟩ := rF (dx Tryz.underlying41 (ai7 Tryz.underlying4)) hf 0 rfl rfl dr6 rfl Tryz.underlying41 rfl
     obtain ⟨a1, h1⟩ := rF (dx Tryz.underlying42 (dx Tryz.underlying43 (qh Tryz.underlying89))) hf 1 rfl rfl cz1 rfl Tryz.underlying42 rfl
     obtain ⟨a2, h2⟩ := rF (dx Tryz.underlying43 (qh Tryz.underlying89)) hf 2 rfl rfl cw7 rfl Tryz.underlying43 rfl
     obtain ⟨a3, h3⟩ := rF (dx Tryz.underlying44 (ca4 Tryz.underlying5)) hf 3 rfl rfl dm6 rfl Tryz.underlying44 rfl
     refine ⟨({ Valid := a0, Fields := a1, Metd := a2, Payload := a3 } : av), ?_⟩
     rw [kj Tryz.underlying46 rfl]
     exact ⟨_, _, _, _, rfl, h0, h1, h2, h3⟩
theorem dt1 {c : PV} (h : IsArg Tryz.prog 46 c) : ∃ a, av.t.R a c := uj av.reads46 h
theorem ay.reads166 : ∀ n, Reads Tryz.prog 166 ay.t n
 | 0 => fun cs hc => hc.elim
 | n + 1 => fun cs hc => by
   obtain ⟨hl, hf⟩ := gz Tryz.underlying166 hc
   rw [dg1] at hl
   match cs, hl with
   | [c0, c1], _ =>
     obtain ⟨a0, rfl⟩ := rF (oc Tryz.underlying9) hf 0 rfl rfl ay4 rfl Tryz.underlying9 rfl
     obtain ⟨a1, rfl⟩ := rF (jc Tryz.underlying3) hf 1 rfl rfl ug rfl Tryz.underlying3 rfl
     refine ⟨({ Name := a0, Width := a1 } : ay), ?_⟩
     rw [kj Tryz.underlying166 rfl]
     rfl
theorem co.reads92 : ∀ n, Reads Tryz.prog 92 co.t n
 | 0 => fun cs hc => hc.elim
 | n + 1 => fun cs hc => by
   obtain ⟨hl, hf⟩ := gz Tryz.underlying92 hc
   rw [dv5] at hl
   match cs, hl with
   | [c0, c1], _ =>
     obtain ⟨a0, rfl⟩ := rF (oc Tryz.underlying9) hf 0 rfl rfl ay4 rfl Tryz.underlying9 rfl
     obtain ⟨a1, h1⟩ := rF (dx Tryz.underlying23 ay.reads166) hf 1 rfl rfl cb2 rfl Tryz.underlying23 rfl
     refine ⟨({ Name := a0, Fields := a1 } : co), ?_⟩
     rw [kj Tryz.underlying92 rfl]
     exact ⟨_, rfl, h1⟩
theorem cp.reads61 : ∀ n, Reads Tryz.prog 61 cp.t n
 | 0 => fun cs hc => hc.elim
 | n + 1 => fun cs hc => by
   obtain ⟨hl, hf⟩ := gz Tryz.underlying61 hc
   rw [dm3] at hl
   match cs, hl with
   | [c0, c1, c2], _ =>
     obtain ⟨a0, rfl⟩ := rF (oc Tryz.underlying9) hf 0 rfl rfl ay4 rfl Tryz.underlying9 rfl
     obtain ⟨a1, rfl⟩ := rF (jc Tryz.underlying3) hf 1 rfl rfl ug rfl Tryz.underlying3 rfl
     obtain ⟨a2, rfl⟩ := rF (jc Tryz.underlying3) hf 2 rfl rfl ug rfl Tryz.underlying3 rfl
     refine ⟨({ Name := a0, Width := a1, Size := a2 } : cp), ?_⟩
     rw [kj Tryz.underlying61 rfl]
     rfl
theorem aa.reads87 : ∀ n, Reads Tryz.prog 87 aa.t n
 | 0 => fun cs hc => hc.elim
 | n + 1 => fun cs hc => by
   obtain ⟨hl, hf⟩ := gz Tryz.underlying87 hc
   rw [bh7] at hl
   match cs, hl with
   | [c0, c1], _ =>
     obtain ⟨a0, rfl⟩ := rF (jc Tryz.underlying3) hf 0 rfl rfl ug rfl Tryz.underlying3 rfl
     obtain ⟨a1, rfl⟩ := rF (jc Tryz.underlying3) hf 1 rfl rfl ug rfl Tryz.underlying3 rfl
     refine ⟨({ Header := a0, Field := a1 } : aa), ?_⟩
     rw [kj Tryz.underlying87 rfl]
     rfl
theorem af.reads113 : ∀ n, Reads Tryz.prog 113 af.t n
 | 0 => fun cs hc => hc.elim
 | n + 1 => fun cs hc => by
   obtain ⟨hl, hf⟩ := gz Tryz.underlying113 hc
   rw [db0] at hl
   match cs, hl with
   | [c0, c1, c2], _ =>
     obtain ⟨a0, rfl⟩ := rF (jc Tryz.underlying3) hf 0 rfl rfl ug rfl Tryz.underlying3 rfl
     obtain ⟨a1, rfl⟩ := rF (jc Tryz.underlying3) hf 1 rfl rfl ug rfl Tryz.underlying3 rfl
     obtain ⟨a2, rfl⟩ := rF (jc Tryz.underlying3) hf 2 rfl rfl ug rfl Tryz.underlying3 rfl
     refine ⟨({ Op := a0, N := a1, W := a2 } : af), ?_⟩
     rw [kj Tryz.underlying113 rfl]
     rfl
theorem ak.reads135 : ∀ n, Reads Tryz.prog 135 ak.t n
 | 0 => fun cs hc => hc.elim
 | n + 1 => fun cs hc => by
   obtain ⟨hl, hf⟩ := gz Tryz.underlying135 hc
   rw [df8] at hl
   match cs, hl with
   | [c0, c1, c2, c3, c4, c5, c6], _ =>
     obtain ⟨a0, rfl⟩ := rF (jc Tryz.underlying3) hf 0 rfl rfl ug rfl Tryz.underlying3 rfl
     have q1 : HasC Tryz.prog n 87 [c1, c2] := by
      have q := hf _ (List.mem_of_getElem? (i := 1) rfl)
      simpa only [bh7, List.drop_succ_cons, List.drop_zero, List.take_succ_cons, List.take_zero] using q
     obtain ⟨a1, h1⟩ := aa.reads87 n _ q1
     rw [kj Tryz.underlying87 rfl] at h1
     have e1 : _ = _ := h1
     simp only [PV.agg.injEq, List.cons.injEq, and_true] at e1
     obtain ⟨rfl, rfl⟩ := e1
     obtain ⟨a2, rfl⟩ := rF (jc Tryz.underlying3) hf 2 rfl rfl ug rfl Tryz.underlying3 rfl
     obtain ⟨a3, rfl⟩ := rF (jc Tryz.underlying3) hf 3 rfl rfl ug rfl Tryz.underlying3 rfl
     obtain ⟨a4, h4⟩ := rF (dx Tryz.underlying32 af.reads113) hf 4 rfl rfl bv7 rfl Tryz.underlying32 rfl
     obtain ⟨a5, h5⟩ := rF (dx Tryz.underlying32 af.reads113) hf 5 rfl rfl bv7 rfl Tryz.underlying32 rfl
     refine ⟨({ Kind := a0, Dst := a1, Register := a2, Header := a3, Index := a4, Value := a5 } : ak), ?_⟩
     rw [kj Tryz.underlying135 rfl]
     exact ⟨_, _, rfl, h4, h5⟩
theorem cb.reads97 : ∀ n, Reads Tryz.prog 97 cb.t n
 | 0 => fun cs hc => hc.elim
 | n + 1 => fun cs hc => by
   obtain ⟨hl, hf⟩ := gz Tryz.underlying97 hc
   rw [dv0] at hl
   match cs, hl with
   | [c0, c1, c2], _ =>
     obtain ⟨a0, rfl⟩ := rF (oc Tryz.underlying9) hf 0 rfl rfl ay4 rfl Tryz.underlying9 rfl
     obtain ⟨a1, h1⟩ := rF (dx Tryz.underlying23 ay.reads166) hf 1 rfl rfl cb2 rfl Tryz.underlying23 rfl
     obtain ⟨a2, h2⟩ := rF (dx Tryz.underlying95 ak.reads135) hf 2 rfl rfl dr0 rfl Tryz.underlying95 rfl
     refine ⟨({ Name := a0, Params := a1, Body := a2 } : cb), ?_⟩
     rw [kj Tryz.underlying97 rfl]
     exact ⟨_, _, rfl, h1, h2⟩
theorem ia.reads126 : ∀ n, Reads Tryz.prog 126 ia.t n
 | 0 => fun cs hc => hc.elim
 | n + 1 => fun cs hc => by
   obtain ⟨hl, hf⟩ := gz Tryz.underlying126 hc
   rw [dg5] at hl
   match cs, hl with
   | [c0, c1, c2], _ =>
     have q0 : HasC Tryz.prog n 87 [c0, c1] := by
      have q := hf _ (List.mem_of_getElem? (i := 0) rfl)
      simpa only [bh7, List.drop_succ_cons, List.drop_zero, List.take_succ_cons, List.take_zero] using q
     obtain ⟨a0, h0⟩ := aa.reads87 n _ q0
     rw [kj Tryz.underlying87 rfl] at h0
     have e0 : _ = _ := h0
     simp only [PV.agg.injEq, List.cons.injEq, and_true] at e0
     obtain ⟨rfl, rfl⟩ := e0
     obtain ⟨a1, rfl⟩ := rF (jc Tryz.underlying3) hf 1 rfl rfl ug rfl Tryz.underlying3 rfl
     refine ⟨({ Field := a0, Kind := a1 } : ia), ?_⟩
     rw [kj Tryz.underlying126 rfl]
     rfl
theorem bt.reads48 : ∀ n, Reads Tryz.prog 48 bt.t n
 | 0 => fun cs hc => hc.elim
 | n + 1 => fun cs hc => by
   obtain ⟨hl, hf⟩ := gz Tryz.underlying48 hc
   rw [bs5] at hl
   match cs, hl with
   | [c0, c1], _ =>
     obtain ⟨a0, rfl⟩ := rF (jc Tryz.underlying3) hf 0 rfl rfl ug rfl Tryz.underlying3 rfl
     obtain ⟨a1, h1⟩ := rF (dx Tryz.underlying43 (qh Tryz.underlying89)) hf 1 rfl rfl cw7 rfl Tryz.underlying43 rfl
     refine ⟨({ Action := a0, Args := a1 } : bt), ?_⟩
     rw [kj Tryz.underlying48 rfl]
     exact ⟨_, rfl, h1⟩
theorem gi.reads59 : ∀ n, Reads Tryz.prog 59 gi.t n
 | 0 => fun cs hc => hc.elim
 | n + 1 => fun cs hc => by
   obtain ⟨hl, hf⟩ := gz Tryz.underlying59 hc
   rw [dm4] at hl
   match cs, hl with
   | [c0, c1, c2, c3, c4, c5], _ =>
     obtain ⟨a0, rfl⟩ := rF (oc Tryz.underlying9) hf 0 rfl rfl ay4 rfl Tryz.underlying9 rfl
     obtain ⟨a1, h1⟩ := rF (dx Tryz.underlying57 ia.reads126) hf 1 rfl rfl dq6 rfl Tryz.underlying57 rfl
     obtain ⟨a2, h2⟩ := rF (dx Tryz.underlying29 (jc Tryz.underlying3)) hf 2 rfl rfl bz6 rfl Tryz.underlying29 rfl
     have q3 : HasC Tryz.prog n 48 [c3, c4] := by
      have q := hf _ (List.mem_of_getElem? (i := 3) rfl)
      simpa only [bs5, List.drop_succ_cons, List.drop_zero, List.take_succ_cons, List.take_zero] using q
     obtain ⟨a3, h3⟩ := bt.reads48 n _ q3
     rw [kj Tryz.underlying48 rfl] at h3
     obtain ⟨d1_3, e3, kd1_3⟩ := h3
     simp only [PV.agg.injEq, List.cons.injEq, and_true] at e3
     obtain ⟨rfl, rfl⟩ := e3
     obtain ⟨a4, rfl⟩ := rF (jc Tryz.underlying3) hf 4 rfl rfl ug rfl Tryz.underlying3 rfl
     refine ⟨({ Name := a0, Keys := a1, Actions := a2, Default := a3, Size := a4 } : gi), ?_⟩
     rw [kj Tryz.underlying59 rfl]
     exact ⟨_, _, _, rfl, h1, h2, kd1_3⟩
theorem ij.reads313 : ∀ n, Reads Tryz.prog 313 ij.t n
 | 0 => fun cs hc => hc.elim
 | n + 1 => fun cs hc => by
   obtain ⟨hl, hf⟩ := gz Tryz.underlying313 hc
   rw [cz9] at hl
   match cs, hl with
   | [c0, c1, c2], _ =>
     obtain ⟨a0, rfl⟩ := rF (qh Tryz.underlying89) hf 0 rfl rfl cx1 rfl Tryz.underlying89 rfl
     obtain ⟨a1, rfl⟩ := rF (qh Tryz.underlying89) hf 1 rfl rfl cx1 rfl Tryz.underlying89 rfl
     obtain ⟨a2, rfl⟩ := rF (jc Tryz.underlying3) hf 2 rfl rfl ug rfl Tryz.underlying3 rfl
     refine ⟨({ Value := a0, Mask := a1, Next := a2 } : ij), ?_⟩
     rw [kj Tryz.underlying313 rfl]
     rfl
theorem dy.reads110 : ∀ n, Reads Tryz.prog 110 dy.t n
 | 0 => fun cs hc => hc.elim
 | n + 1 => fun cs hc => by
   obtain ⟨hl, hf⟩ := gz Tryz.underlying110 hc
   rw [da2] at hl
   match cs, hl with
   | [c0, c1, c2, c3, c4, c5, c6], _ =>
     obtain ⟨a0, rfl⟩ := rF (oc Tryz.underlying9) hf 0 rfl rfl ay4 rfl Tryz.underlying9 rfl
     obtain ⟨a1, h1⟩ := rF (dx Tryz.underlying29 (jc Tryz.underlying3)) hf 1 rfl rfl bz6 rfl Tryz.underlying29 rfl
     obtain ⟨a2, rfl⟩ := rF (ai7 Tryz.underlying4) hf 2 rfl rfl dy2 rfl Tryz.underlying4 rfl
     have q3 : HasC Tryz.prog n 87 [c3, c4] := by
      have q := hf _ (List.mem_of_getElem? (i := 3) rfl)
      simpa only [bh7, List.drop_succ_cons, List.drop_zero, List.take_succ_cons, List.take_zero] using q
     obtain ⟨a3, h3⟩ := aa.reads87 n _ q3
     rw [kj Tryz.underlying87 rfl] at h3
     have e3 : _ = _ := h3
     simp only [PV.agg.injEq, List.cons.injEq, and_true] at e3
     obtain ⟨rfl, rfl⟩ := e3
     obtain ⟨a4, h4⟩ := rF (dx Tryz.underlying108 ij.reads313) hf 4 rfl rfl di0 rfl Tryz.underlying108 rfl
     obtain ⟨a5, rfl⟩ := rF (jc Tryz.underlying3) hf 5 rfl rfl ug rfl Tryz.underlying3 rfl
     refine ⟨({ Name := a0, Extract := a1, Select := a2, On := a3, Cases := a4, Default := a5 } : dy), ?_⟩
     rw [kj Tryz.underlying110 rfl]
     exact ⟨_, _, rfl, h1, h4⟩
theorem bc.reads180 : ∀ n, Reads Tryz.prog 180 bc.t n
 | 0 => fun cs hc => hc.elim
 | n + 1 => fun cs hc => by
   obtain ⟨hl, hf⟩ := gz Tryz.underlying180 hc
   rw [db8] at hl
   match cs, hl with
   | [c0, c1, c2, c3, c4], _ =>
     obtain ⟨a0, rfl⟩ := rF (jc Tryz.underlying3) hf 0 rfl rfl ug rfl Tryz.underlying3 rfl
     obtain ⟨a1, rfl⟩ := rF (jc Tryz.underlying3) hf 1 rfl rfl ug rfl Tryz.underlying3 rfl
     obtain ⟨a2, h2⟩ := rF (dx Tryz.underlying32 af.reads113) hf 2 rfl rfl bv7 rfl Tryz.underlying32 rfl
     have q3 : HasC Tryz.prog n 28 [c3] := by
      have q := hf _ (List.mem_of_getElem? (i := 3) rfl)
      simpa only [bx3, List.drop_succ_cons, List.drop_zero, List.take_succ_cons, List.take_zero] using q
     obtain ⟨a3, h3⟩ : ∃ a, (tSl bc.t).R a (valC Tryz.prog 28 [c3]) := by
      cases n with
      | zero => exact q3.elim
      | succ n => exact vg Tryz.underlying28 (bc.reads180 n) _ q3
     rw [qo Tryz.underlying28 rfl] at h3
     have q4 : HasC Tryz.prog n 28 [c4] := by
      have q := hf _ (List.mem_of_getElem? (i := 4) rfl)
      simpa only [bx3, List.drop_succ_cons, List.drop_zero, List.take_succ_cons, List.take_zero] using q
     obtain ⟨a4, h4⟩ : ∃ a, (tSl bc.t).R a (valC Tryz.prog 28 [c4]) := by
      cases n with
      | zero => exact q4.elim
      | succ n => exact vg Tryz.underlying28 (bc.reads180 n) _ q4
     rw [qo Tryz.underlying28 rfl] at h4
     refine ⟨({ Kind := a0, Table := a1, Cond := a2, Then := a3, Else := a4 } : bc), ?_⟩
     rw [kj Tryz.underlying180 rfl]
     show bc.R _ _
     simp only [bc.R]
     exact ⟨_, _, _, rfl, h2, ⟨⟨h3.1.choose, h3.1.choose_spec.1, by rw [bc.Rl_eq]; exact h3.1.choose_spec.2⟩, h3.2⟩, ⟨⟨h4.1.choose, h4.1.choose_spec.1, by rw [bc.Rl_eq]; exact h4.1.choose_spec.2⟩, h4.2⟩⟩
theorem ae.reads31 : ∀ n, Reads Tryz.prog 31 ae.t n
 | 0 => fun cs hc => hc.elim
 | n + 1 => fun cs hc => by
   obtain ⟨hl, hf⟩ := gz Tryz.underlying31 hc
   rw [cz2] at hl
   match cs, hl with
   | [c0, c1, c2, c3, c4, c5, c6, c7, c8], _ =>
     obtain ⟨a0, rfl⟩ := rF (oc Tryz.underlying9) hf 0 rfl rfl ay4 rfl Tryz.underlying9 rfl
     obtain ⟨a1, h1⟩ := rF (dx Tryz.underlying22 co.reads92) hf 1 rfl rfl dq1 rfl Tryz.underlying22 rfl
     obtain ⟨a2, h2⟩ := rF (dx Tryz.underlying23 ay.reads166) hf 2 rfl rfl cb2 rfl Tryz.underlying23 rfl
     obtain ⟨a3, h3⟩ := rF (dx Tryz.underlying24 cp.reads61) hf 3 rfl rfl dn4 rfl Tryz.underlying24 rfl
     obtain ⟨a4, h4⟩ := rF (dx Tryz.underlying25 cb.reads97) hf 4 rfl rfl dm7 rfl Tryz.underlying25 rfl
     obtain ⟨a5, h5⟩ := rF (dx Tryz.underlying26 gi.reads59) hf 5 rfl rfl ds3 rfl Tryz.underlying26 rfl
     obtain ⟨a6, h6⟩ := rF (dx Tryz.underlying27 dy.reads110) hf 6 rfl rfl dr3 rfl Tryz.underlying27 rfl
     obtain ⟨a7, h7⟩ := rF (dx Tryz.underlying28 bc.reads180) hf 7 rfl rfl bx3 rfl Tryz.underlying28 rfl
     obtain ⟨a8, h8⟩ := rF (dx Tryz.underlying29 (jc Tryz.underlying3)) hf 8 rfl rfl bz6 rfl Tryz.underlying29 rfl
     refine ⟨({ Name := a0, Headers := a1, Metadata := a2, Registers := a3, Actions := a4, Tables := a5, States := a6, Control := a7, Deparser := a8 } : ae), ?_⟩
     rw [kj Tryz.underlying31 rfl]
     exact ⟨_, _, _, _, _, _, _, _, rfl, h1, h2, h3, h4, h5, h6, h7, h8⟩
theorem az.reads82 : ∀ n, Reads Tryz.prog 82 az.t n
 | 0 => fun cs hc => hc.elim
 | n + 1 => fun cs hc => by
   obtain ⟨hl, hf⟩ := gz Tryz.underlying82 hc
   rw [dn9] at hl
   match cs, hl with
   | [c0, c1, c2, c3, c4, c5, c6, c7, c8, c9, c10, c11, c12, c13, c14, c15], _ =>
     have q0 : HasC Tryz.prog n 31 [c0, c1, c2, c3, c4, c5, c6, c7, c8] := by
      have q := hf _ (List.mem_of_getElem? (i := 0) rfl)
      simpa only [cz2, List.drop_succ_cons, List.drop_zero, List.take_succ_cons, List.take_zero] using q
     obtain ⟨a0, h0⟩ := ae.reads31 n _ q0
     rw [kj Tryz.underlying31 rfl] at h0
     obtain ⟨d1_0, d2_0, d3_0, d4_0, d5_0, d6_0, d7_0, d8_0, e0, kd1_0, kd2_0, kd3_0, kd4_0, kd5_0, kd6_0, kd7_0, kd8_0⟩ := h0
     simp only [PV.agg.injEq, List.cons.injEq, and_true] at e0
     obtain ⟨rfl, rfl, rfl, rfl, rfl, rfl, rfl, rfl, rfl⟩ := e0
     have q1 : HasC Tryz.prog n 48 [c9, c10] := by
      have q := hf _ (List.mem_of_getElem? (i := 1) rfl)
      simpa only [bs5, List.drop_succ_cons, List.drop_zero, List.take_succ_cons, List.take_zero] using q
     obtain ⟨a1, h1⟩ := bt.reads48 n _ q1
     rw [kj Tryz.underlying48 rfl] at h1
     obtain ⟨d1_1, e1, kd1_1⟩ := h1
     simp only [PV.agg.injEq, List.cons.injEq, and_true] at e1
     obtain ⟨rfl, rfl⟩ := e1
     have q2 : HasC Tryz.prog n 46 [c11, c12, c13, c14] := by
      have q := hf _ (List.mem_of_getElem? (i := 2) rfl)
      simpa only [cw1, List.drop_succ_cons, List.drop_zero, List.take_succ_cons, List.take_zero] using q
     obtain ⟨a2, h2⟩ := av.reads46 n _ q2
     rw [kj Tryz.underlying46 rfl] at h2
     obtain ⟨d0_2, d1_2, d2_2, d3_2, e2, kd0_2, kd1_2, kd2_2, kd3_2⟩ := h2
     simp only [PV.agg.injEq, List.cons.injEq, and_true] at e2
     obtain ⟨rfl, rfl, rfl, rfl⟩ := e2
     obtain ⟨a3, h3⟩ := rF (dx Tryz.underlying42 (dx Tryz.underlying43 (qh Tryz.underlying89))) hf 3 rfl rfl cz1 rfl Tryz.underlying42 rfl
     refine ⟨({ P := a0, Call := a1, E := a2, Regs := a3 } : az), ?_⟩
     rw [kj Tryz.underlying82 rfl]
     exact ⟨_, _, _, _, _, _, _, _, _, _, _, _, _, _, rfl, kd1_0, kd2_0, kd3_0, kd4_0, kd5_0, kd6_0, kd7_0, kd8_0, kd1_1, kd0_2, kd1_2, kd2_2, kd3_2, h3⟩
theorem dv7 {c : PV} (h : IsArg Tryz.prog 82 c) : ∃ a, az.t.R a c := uj az.reads82 h
end Go.Proofs.YtmonnlkagniolaaGreat
