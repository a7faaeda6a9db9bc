import Derived.Test.YthdnpgpnodgicaaGreatPbA
import Derived.Test.YthdnpgpnodgicaaGreatKTy
set_option linter.unusedVariables false
set_option linter.unusedSimpArgs false
set_option maxRecDepth 100000
namespace Go.Proofs.YthdnpgpnodgicaaGreat
open Go Go.Pb Go.RowKit
theorem sj : Tryz.prog.cellsOf 3 = 1 := by kernel_rfl
theorem ef9 : Tryz.prog.cellsOf 4 = 1 := by kernel_rfl
theorem ay3 : Tryz.prog.cellsOf 9 = 1 := by kernel_rfl
theorem du0 : Tryz.prog.cellsOf 22 = 1 := by kernel_rfl
theorem bt8 : Tryz.prog.cellsOf 23 = 1 := by kernel_rfl
theorem do1 : Tryz.prog.cellsOf 24 = 1 := by kernel_rfl
theorem dw9 : Tryz.prog.cellsOf 25 = 1 := by kernel_rfl
theorem dq7 : Tryz.prog.cellsOf 26 = 1 := by kernel_rfl
theorem dq6 : Tryz.prog.cellsOf 27 = 1 := by kernel_rfl
theorem bw3 : Tryz.prog.cellsOf 28 = 1 := by kernel_rfl
theorem bx0 : Tryz.prog.cellsOf 29 = 1 := by kernel_rfl
theorem cv8 : Tryz.prog.cellsOf 31 = 9 := by kernel_rfl
theorem dz7 : Tryz.prog.cellsOf 32 = 1 := by kernel_rfl
theorem cu2 : Tryz.prog.cellsOf 33 = 1 := by kernel_rfl
theorem dr9 : Tryz.prog.cellsOf 35 = 12 := by kernel_rfl
theorem dv4 : Tryz.prog.cellsOf 38 = 1 := by kernel_rfl
theorem bz7 : Tryz.prog.cellsOf 40 = 2 := by kernel_rfl
theorem cw5 : Tryz.prog.cellsOf 42 = 4 := by kernel_rfl
theorem dz2 : Tryz.prog.cellsOf 44 = 5 := by kernel_rfl
theorem bg7 : Tryz.prog.cellsOf 64 = 1 := by kernel_rfl
theorem dn8 : Tryz.prog.cellsOf 85 = 1 := by kernel_rfl
theorem dv0 : Tryz.prog.cellsOf 87 = 6 := by kernel_rfl
theorem aq6 : Tryz.prog.cellsOf 110 = 2 := by kernel_rfl
theorem df1 : Tryz.prog.cellsOf 112 = 3 := by kernel_rfl
theorem cz6 : Tryz.prog.cellsOf 116 = 2 := by kernel_rfl
theorem dg8 : Tryz.prog.cellsOf 118 = 1 := by kernel_rfl
theorem dh7 : Tryz.prog.cellsOf 120 = 3 := by kernel_rfl
theorem dh4 : Tryz.prog.cellsOf 122 = 1 := by kernel_rfl
theorem dl3 : Tryz.prog.cellsOf 124 = 7 := by kernel_rfl
theorem cz5 : Tryz.prog.cellsOf 127 = 2 := by kernel_rfl
theorem dd3 : Tryz.prog.cellsOf 162 = 2 := by kernel_rfl
theorem bb2 : Tryz.prog.cellsOf 163 = 1 := by kernel_rfl
theorem df8 : Tryz.prog.cellsOf 165 = 5 := by kernel_rfl
theorem df2 : Tryz.prog.cellsOf 167 = 7 := by kernel_rfl
theorem di5 : Tryz.prog.cellsOf 219 = 3 := by kernel_rfl
theorem db5 : Tryz.prog.cellsOf 221 = 3 := by kernel_rfl
theorem dd6 : Tryz.prog.cellsOf 223 = 3 := by kernel_rfl
theorem bw.reads162 : ∀ n, Reads Tryz.prog 162 bw.t n
 | 0 => fun cs hc => hc.elim
 | n + 1 => fun cs hc => by
   obtain ⟨hl, hf⟩ := fi Tryz.underlying162 hc
   rw [dd3] at hl
   match cs, hl with
   | [c0, c1], _ =>
     obtain ⟨a0, rfl⟩ := rF (ml Tryz.underlying9) hf 0 rfl rfl ay3 rfl Tryz.underlying9 rfl
     obtain ⟨a1, rfl⟩ := rF (ft Tryz.underlying3) hf 1 rfl rfl sj rfl Tryz.underlying3 rfl
     refine ⟨({ Name := a0, Width := a1 } : bw), ?_⟩
     rw [ir Tryz.underlying162 rfl]
     rfl
theorem cj.reads116 : ∀ n, Reads Tryz.prog 116 cj.t n
 | 0 => fun cs hc => hc.elim
 | n + 1 => fun cs hc => by
   obtain ⟨hl, hf⟩ := fi Tryz.underlying116 hc
   rw [cz6] at hl
   match cs, hl with
   | [c0, c1], _ =>
     obtain ⟨a0, rfl⟩ := rF (ml Tryz.underlying9) hf 0 rfl rfl ay3 rfl Tryz.underlying9 rfl
     obtain ⟨a1, h1⟩ := rF (dz Tryz.underlying23 bw.reads162) hf 1 rfl rfl bt8 rfl Tryz.underlying23 rfl
     refine ⟨({ Name := a0, Fields := a1 } : cj), ?_⟩
     rw [ir Tryz.underlying116 rfl]
     exact ⟨_, rfl, h1⟩
theorem ep.reads219 : ∀ n, Reads Tryz.prog 219 ep.t n
 | 0 => fun cs hc => hc.elim
 | n + 1 => fun cs hc => by
   obtain ⟨hl, hf⟩ := fi Tryz.underlying219 hc
   rw [di5] at hl
   match cs, hl with
   | [c0, c1, c2], _ =>
     obtain ⟨a0, rfl⟩ := rF (ml Tryz.underlying9) hf 0 rfl rfl ay3 rfl Tryz.underlying9 rfl
     obtain ⟨a1, rfl⟩ := rF (ft Tryz.underlying3) hf 1 rfl rfl sj rfl Tryz.underlying3 rfl
     obtain ⟨a2, rfl⟩ := rF (ft Tryz.underlying3) hf 2 rfl rfl sj rfl Tryz.underlying3 rfl
     refine ⟨({ Name := a0, Width := a1, Size := a2 } : ep), ?_⟩
     rw [ir Tryz.underlying219 rfl]
     rfl
theorem cf.reads110 : ∀ n, Reads Tryz.prog 110 cf.t n
 | 0 => fun cs hc => hc.elim
 | n + 1 => fun cs hc => by
   obtain ⟨hl, hf⟩ := fi Tryz.underlying110 hc
   rw [aq6] at hl
   match cs, hl with
   | [c0, c1], _ =>
     obtain ⟨a0, rfl⟩ := rF (ft Tryz.underlying3) hf 0 rfl rfl sj rfl Tryz.underlying3 rfl
     obtain ⟨a1, rfl⟩ := rF (ft Tryz.underlying3) hf 1 rfl rfl sj rfl Tryz.underlying3 rfl
     refine ⟨({ Header := a0, Field := a1 } : cf), ?_⟩
     rw [ir Tryz.underlying110 rfl]
     rfl
theorem dv.reads223 : ∀ n, Reads Tryz.prog 223 dv.t n
 | 0 => fun cs hc => hc.elim
 | n + 1 => fun cs hc => by
   obtain ⟨hl, hf⟩ := fi Tryz.underlying223 hc
   rw [dd6] at hl
   match cs, hl with
   | [c0, c1, c2], _ =>
     obtain ⟨a0, rfl⟩ := rF (ft Tryz.underlying3) hf 0 rfl rfl sj rfl Tryz.underlying3 rfl
     obtain ⟨a1, rfl⟩ := rF (ft Tryz.underlying3) hf 1 rfl rfl sj rfl Tryz.underlying3 rfl
     obtain ⟨a2, rfl⟩ := rF (ft Tryz.underlying3) hf 2 rfl rfl sj rfl Tryz.underlying3 rfl
     refine ⟨({ Op := a0, N := a1, W := a2 } : dv), ?_⟩
     rw [ir Tryz.underlying223 rfl]
     rfl
theorem dj.reads167 : ∀ n, Reads Tryz.prog 167 dj.t n
 | 0 => fun cs hc => hc.elim
 | n + 1 => fun cs hc => by
   obtain ⟨hl, hf⟩ := fi Tryz.underlying167 hc
   rw [df2] at hl
   match cs, hl with
   | [c0, c1, c2, c3, c4, c5, c6], _ =>
     obtain ⟨a0, rfl⟩ := rF (ft Tryz.underlying3) hf 0 rfl rfl sj rfl Tryz.underlying3 rfl
     have q1 : HasC Tryz.prog n 110 [c1, c2] := by
      have q := hf _ (List.mem_of_getElem? (i := 1) rfl)
      simpa only [aq6, List.drop_succ_cons, List.drop_zero, List.take_succ_cons, List.take_zero] using q
     obtain ⟨a1, h1⟩ := cf.reads110 n _ q1
     rw [ir Tryz.underlying110 rfl] at h1
     have e1 : _ = _ := h1
     simp only [PV.agg.injEq, List.cons.injEq, and_true] at e1
     obtain ⟨rfl, rfl⟩ := e1
     obtain ⟨a2, rfl⟩ := rF (ft Tryz.underlying3) hf 2 rfl rfl sj rfl Tryz.underlying3 rfl
     obtain ⟨a3, rfl⟩ := rF (ft Tryz.underlying3) hf 3 rfl rfl sj rfl Tryz.underlying3 rfl
     obtain ⟨a4, h4⟩ := rF (dz Tryz.underlying163 dv.reads223) hf 4 rfl rfl bb2 rfl Tryz.underlying163 rfl
     obtain ⟨a5, h5⟩ := rF (dz Tryz.underlying163 dv.reads223) hf 5 rfl rfl bb2 rfl Tryz.underlying163 rfl
     refine ⟨({ Kind := a0, Dst := a1, Register := a2, Header := a3, Index := a4, Value := a5 } : dj), ?_⟩
     rw [ir Tryz.underlying167 rfl]
     exact ⟨_, _, rfl, h4, h5⟩
theorem cp.reads120 : ∀ n, Reads Tryz.prog 120 cp.t n
 | 0 => fun cs hc => hc.elim
 | n + 1 => fun cs hc => by
   obtain ⟨hl, hf⟩ := fi Tryz.underlying120 hc
   rw [dh7] at hl
   match cs, hl with
   | [c0, c1, c2], _ =>
     obtain ⟨a0, rfl⟩ := rF (ml Tryz.underlying9) hf 0 rfl rfl ay3 rfl Tryz.underlying9 rfl
     obtain ⟨a1, h1⟩ := rF (dz Tryz.underlying23 bw.reads162) hf 1 rfl rfl bt8 rfl Tryz.underlying23 rfl
     obtain ⟨a2, h2⟩ := rF (dz Tryz.underlying118 dj.reads167) hf 2 rfl rfl dg8 rfl Tryz.underlying118 rfl
     refine ⟨({ Name := a0, Params := a1, Body := a2 } : cp), ?_⟩
     rw [ir Tryz.underlying120 rfl]
     exact ⟨_, _, rfl, h1, h2⟩
theorem bh.reads112 : ∀ n, Reads Tryz.prog 112 bh.t n
 | 0 => fun cs hc => hc.elim
 | n + 1 => fun cs hc => by
   obtain ⟨hl, hf⟩ := fi Tryz.underlying112 hc
   rw [df1] at hl
   match cs, hl with
   | [c0, c1, c2], _ =>
     have q0 : HasC Tryz.prog n 110 [c0, c1] := by
      have q := hf _ (List.mem_of_getElem? (i := 0) rfl)
      simpa only [aq6, List.drop_succ_cons, List.drop_zero, List.take_succ_cons, List.take_zero] using q
     obtain ⟨a0, h0⟩ := cf.reads110 n _ q0
     rw [ir Tryz.underlying110 rfl] at h0
     have e0 : _ = _ := h0
     simp only [PV.agg.injEq, List.cons.injEq, and_true] at e0
     obtain ⟨rfl, rfl⟩ := e0
     obtain ⟨a1, rfl⟩ := rF (ft Tryz.underlying3) hf 1 rfl rfl sj rfl Tryz.underlying3 rfl
     refine ⟨({ Field := a0, Kind := a1 } : bh), ?_⟩
     rw [ir Tryz.underlying112 rfl]
     rfl
theorem av.reads40 : ∀ n, Reads Tryz.prog 40 av.t n
 | 0 => fun cs hc => hc.elim
 | n + 1 => fun cs hc => by
   obtain ⟨hl, hf⟩ := fi Tryz.underlying40 hc
   rw [bz7] at hl
   match cs, hl with
   | [c0, c1], _ =>
     obtain ⟨a0, rfl⟩ := rF (ft Tryz.underlying3) hf 0 rfl rfl sj rfl Tryz.underlying3 rfl
     obtain ⟨a1, h1⟩ := rF (dz Tryz.underlying33 (ql Tryz.underlying64)) hf 1 rfl rfl cu2 rfl Tryz.underlying33 rfl
     refine ⟨({ Action := a0, Args := a1 } : av), ?_⟩
     rw [ir Tryz.underlying40 rfl]
     exact ⟨_, rfl, h1⟩
theorem ax.reads87 : ∀ n, Reads Tryz.prog 87 ax.t n
 | 0 => fun cs hc => hc.elim
 | n + 1 => fun cs hc => by
   obtain ⟨hl, hf⟩ := fi Tryz.underlying87 hc
   rw [dv0] at hl
   match cs, hl with
   | [c0, c1, c2, c3, c4, c5], _ =>
     obtain ⟨a0, rfl⟩ := rF (ml Tryz.underlying9) hf 0 rfl rfl ay3 rfl Tryz.underlying9 rfl
     obtain ⟨a1, h1⟩ := rF (dz Tryz.underlying85 bh.reads112) hf 1 rfl rfl dn8 rfl Tryz.underlying85 rfl
     obtain ⟨a2, h2⟩ := rF (dz Tryz.underlying29 (ft Tryz.underlying3)) hf 2 rfl rfl bx0 rfl Tryz.underlying29 rfl
     have q3 : HasC Tryz.prog n 40 [c3, c4] := by
      have q := hf _ (List.mem_of_getElem? (i := 3) rfl)
      simpa only [bz7, List.drop_succ_cons, List.drop_zero, List.take_succ_cons, List.take_zero] using q
     obtain ⟨a3, h3⟩ := av.reads40 n _ q3
     rw [ir Tryz.underlying40 rfl] at h3
     obtain ⟨d1_3, e3, kd1_3⟩ := h3
     simp only [PV.agg.injEq, List.cons.injEq, and_true] at e3
     obtain ⟨rfl, rfl⟩ := e3
     obtain ⟨a4, rfl⟩ := rF (ft Tryz.underlying3) hf 4 rfl rfl sj rfl Tryz.underlying3 rfl
     refine ⟨({ Name := a0, Keys := a1, Actions := a2, Default := a3, Size := a4 } : ax), ?_⟩
     rw [ir Tryz.underlying87 rfl]
     exact ⟨_, _, _, rfl, h1, h2, kd1_3⟩
theorem ee.reads221 : ∀ n, Reads Tryz.prog 221 ee.t n
 | 0 => fun cs hc => hc.elim
 | n + 1 => fun cs hc => by
   obtain ⟨hl, hf⟩ := fi Tryz.underlying221 hc
   rw [db5] at hl
   match cs, hl with
   | [c0, c1, c2], _ =>
     obtain ⟨a0, rfl⟩ := rF (ql Tryz.underlying64) hf 0 rfl rfl bg7 rfl Tryz.underlying64 rfl
     obtain ⟨a1, rfl⟩ := rF (ql Tryz.underlying64) hf 1 rfl rfl bg7 rfl Tryz.underlying64 rfl
     obtain ⟨a2, rfl⟩ := rF (ft Tryz.underlying3) hf 2 rfl rfl sj rfl Tryz.underlying3 rfl
     refine ⟨({ Value := a0, Mask := a1, Next := a2 } : ee), ?_⟩
     rw [ir Tryz.underlying221 rfl]
     rfl
theorem ck.reads124 : ∀ n, Reads Tryz.prog 124 ck.t n
 | 0 => fun cs hc => hc.elim
 | n + 1 => fun cs hc => by
   obtain ⟨hl, hf⟩ := fi Tryz.underlying124 hc
   rw [dl3] at hl
   match cs, hl with
   | [c0, c1, c2, c3, c4, c5, c6], _ =>
     obtain ⟨a0, rfl⟩ := rF (ml Tryz.underlying9) hf 0 rfl rfl ay3 rfl Tryz.underlying9 rfl
     obtain ⟨a1, h1⟩ := rF (dz Tryz.underlying29 (ft Tryz.underlying3)) hf 1 rfl rfl bx0 rfl Tryz.underlying29 rfl
     obtain ⟨a2, rfl⟩ := rF (bc0 Tryz.underlying4) hf 2 rfl rfl ef9 rfl Tryz.underlying4 rfl
     have q3 : HasC Tryz.prog n 110 [c3, c4] := by
      have q := hf _ (List.mem_of_getElem? (i := 3) rfl)
      simpa only [aq6, List.drop_succ_cons, List.drop_zero, List.take_succ_cons, List.take_zero] using q
     obtain ⟨a3, h3⟩ := cf.reads110 n _ q3
     rw [ir Tryz.underlying110 rfl] at h3
     have e3 : _ = _ := h3
     simp only [PV.agg.injEq, List.cons.injEq, and_true] at e3
     obtain ⟨rfl, rfl⟩ := e3
     obtain ⟨a4, h4⟩ := rF (dz Tryz.underlying122 ee.reads221) hf 4 rfl rfl dh4 rfl Tryz.underlying122 rfl
     obtain ⟨a5, rfl⟩ := rF (ft Tryz.underlying3) hf 5 rfl rfl sj rfl Tryz.underlying3 rfl
     refine ⟨({ Name := a0, Extract := a1, Select := a2, On := a3, Cases := a4, Default := a5 } : ck), ?_⟩
     rw [ir Tryz.underlying124 rfl]
     exact ⟨_, _, rfl, h1, h4⟩
theorem ak.reads165 : ∀ n, Reads Tryz.prog 165 ak.t n
 | 0 => fun cs hc => hc.elim
 | n + 1 => fun cs hc => by
   obtain ⟨hl, hf⟩ := fi Tryz.underlying165 hc
   rw [df8] at hl
   match cs, hl with
   | [c0, c1, c2, c3, c4], _ =>
     obtain ⟨a0, rfl⟩ := rF (ft Tryz.underlying3) hf 0 rfl rfl sj rfl Tryz.underlying3 rfl
     obtain ⟨a1, rfl⟩ := rF (ft Tryz.underlying3) hf 1 rfl rfl sj rfl Tryz.underlying3 rfl
     obtain ⟨a2, h2⟩ := rF (dz Tryz.underlying163 dv.reads223) hf 2 rfl rfl bb2 rfl Tryz.underlying163 rfl
     have q3 : HasC Tryz.prog n 28 [c3] := by
      have q := hf _ (List.mem_of_getElem? (i := 3) rfl)
      simpa only [bw3, List.drop_succ_cons, List.drop_zero, List.take_succ_cons, List.take_zero] using q
     obtain ⟨a3, h3⟩ : ∃ a, (tSl ak.t).R a (valC Tryz.prog 28 [c3]) := by
      cases n with
      | zero => exact q3.elim
      | succ n => exact vc Tryz.underlying28 (ak.reads165 n) _ q3
     rw [qb Tryz.underlying28 rfl] at h3
     have q4 : HasC Tryz.prog n 28 [c4] := by
      have q := hf _ (List.mem_of_getElem? (i := 4) rfl)
      simpa only [bw3, List.drop_succ_cons, List.drop_zero, List.take_succ_cons, List.take_zero] using q
     obtain ⟨a4, h4⟩ : ∃ a, (tSl ak.t).R a (valC Tryz.prog 28 [c4]) := by
      cases n with
      | zero => exact q4.elim
      | succ n => exact vc Tryz.underlying28 (ak.reads165 n) _ q4
     rw [qb Tryz.underlying28 rfl] at h4
     refine ⟨({ Kind := a0, Table := a1, Cond := a2, Then := a3, Else := a4 } : ak), ?_⟩
     rw [ir Tryz.underlying165 rfl]
     show ak.R _ _
     simp only [ak.R]
     exact ⟨_, _, _, rfl, h2, ⟨⟨h3.1.choose, h3.1.choose_spec.1, by rw [ak.Rl_eq]; exact h3.1.choose_spec.2⟩, h3.2⟩, ⟨⟨h4.1.choose, h4.1.choose_spec.1, by rw [ak.Rl_eq]; exact h4.1.choose_spec.2⟩, h4.2⟩⟩
theorem aa.reads31 : ∀ n, Reads Tryz.prog 31 aa.t n
 | 0 => fun cs hc => hc.elim
 | n + 1 => fun cs hc => by
   obtain ⟨hl, hf⟩ := fi Tryz.underlying31 hc
   rw [cv8] at hl
   match cs, hl with
   | [c0, c1, c2, c3, c4, c5, c6, c7, c8], _ =>
     obtain ⟨a0, rfl⟩ := rF (ml Tryz.underlying9) hf 0 rfl rfl ay3 rfl Tryz.underlying9 rfl
     obtain ⟨a1, h1⟩ := rF (dz Tryz.underlying22 cj.reads116) hf 1 rfl rfl du0 rfl Tryz.underlying22 rfl
     obtain ⟨a2, h2⟩ := rF (dz Tryz.underlying23 bw.reads162) hf 2 rfl rfl bt8 rfl Tryz.underlying23 rfl
     obtain ⟨a3, h3⟩ := rF (dz Tryz.underlying24 ep.reads219) hf 3 rfl rfl do1 rfl Tryz.underlying24 rfl
     obtain ⟨a4, h4⟩ := rF (dz Tryz.underlying25 cp.reads120) hf 4 rfl rfl dw9 rfl Tryz.underlying25 rfl
     obtain ⟨a5, h5⟩ := rF (dz Tryz.underlying26 ax.reads87) hf 5 rfl rfl dq7 rfl Tryz.underlying26 rfl
     obtain ⟨a6, h6⟩ := rF (dz Tryz.underlying27 ck.reads124) hf 6 rfl rfl dq6 rfl Tryz.underlying27 rfl
     obtain ⟨a7, h7⟩ := rF (dz Tryz.underlying28 ak.reads165) hf 7 rfl rfl bw3 rfl Tryz.underlying28 rfl
     obtain ⟨a8, h8⟩ := rF (dz Tryz.underlying29 (ft Tryz.underlying3)) hf 8 rfl rfl bx0 rfl Tryz.underlying29 rfl
     refine ⟨({ Name := a0, Headers := a1, Metadata := a2, Registers := a3, Actions := a4, Tables := a5, States := a6, Control := a7, Deparser := a8 } : aa), ?_⟩
     rw [ir Tryz.underlying31 rfl]
     exact ⟨_, _, _, _, _, _, _, _, rfl, h1, h2, h3, h4, h5, h6, h7, h8⟩
theorem ay.reads127 : ∀ n, Reads Tryz.prog 127 ay.t n
 | 0 => fun cs hc => hc.elim
 | n + 1 => fun cs hc => by
   obtain ⟨hl, hf⟩ := fi Tryz.underlying127 hc
   rw [cz5] at hl
   match cs, hl with
   | [c0, c1], _ =>
     obtain ⟨a0, rfl⟩ := rF (ql Tryz.underlying64) hf 0 rfl rfl bg7 rfl Tryz.underlying64 rfl
     obtain ⟨a1, rfl⟩ := rF (ql Tryz.underlying64) hf 1 rfl rfl bg7 rfl Tryz.underlying64 rfl
     refine ⟨({ Value := a0, Mask := a1 } : ay), ?_⟩
     rw [ir Tryz.underlying127 rfl]
     rfl
theorem au.reads42 : ∀ n, Reads Tryz.prog 42 au.t n
 | 0 => fun cs hc => hc.elim
 | n + 1 => fun cs hc => by
   obtain ⟨hl, hf⟩ := fi Tryz.underlying42 hc
   rw [cw5] at hl
   match cs, hl with
   | [c0, c1, c2, c3], _ =>
     obtain ⟨a0, h0⟩ := rF (dz Tryz.underlying38 ay.reads127) hf 0 rfl rfl dv4 rfl Tryz.underlying38 rfl
     obtain ⟨a1, rfl⟩ := rF (ft Tryz.underlying3) hf 1 rfl rfl sj rfl Tryz.underlying3 rfl
     have q2 : HasC Tryz.prog n 40 [c2, c3] := by
      have q := hf _ (List.mem_of_getElem? (i := 2) rfl)
      simpa only [bz7, List.drop_succ_cons, List.drop_zero, List.take_succ_cons, List.take_zero] using q
     obtain ⟨a2, h2⟩ := av.reads40 n _ q2
     rw [ir Tryz.underlying40 rfl] at h2
     obtain ⟨d1_2, e2, kd1_2⟩ := h2
     simp only [PV.agg.injEq, List.cons.injEq, and_true] at e2
     obtain ⟨rfl, rfl⟩ := e2
     refine ⟨({ Keys := a0, Priority := a1, Call := a2 } : au), ?_⟩
     rw [ir Tryz.underlying42 rfl]
     exact ⟨_, _, rfl, h0, kd1_2⟩
theorem aj.reads44 : ∀ n, Reads Tryz.prog 44 aj.t n
 | 0 => fun cs hc => hc.elim
 | n + 1 => fun cs hc => by
   obtain ⟨hl, hf⟩ := fi Tryz.underlying44 hc
   rw [dz2] at hl
   match cs, hl with
   | [c0, c1, c2, c3, c4], _ =>
     obtain ⟨a0, rfl⟩ := rF (ft Tryz.underlying3) hf 0 rfl rfl sj rfl Tryz.underlying3 rfl
     have q1 : HasC Tryz.prog n 42 [c1, c2, c3, c4] := by
      have q := hf _ (List.mem_of_getElem? (i := 1) rfl)
      simpa only [cw5, List.drop_succ_cons, List.drop_zero, List.take_succ_cons, List.take_zero] using q
     obtain ⟨a1, h1⟩ := au.reads42 n _ q1
     rw [ir Tryz.underlying42 rfl] at h1
     obtain ⟨d0_1, d3_1, e1, kd0_1, kd3_1⟩ := h1
     simp only [PV.agg.injEq, List.cons.injEq, and_true] at e1
     obtain ⟨rfl, rfl, rfl, rfl⟩ := e1
     refine ⟨({ ID := a0, Entry := a1 } : aj), ?_⟩
     rw [ir Tryz.underlying44 rfl]
     exact ⟨_, _, rfl, kd0_1, kd3_1⟩
theorem cg.reads35 : ∀ n, Reads Tryz.prog 35 cg.t n
 | 0 => fun cs hc => hc.elim
 | n + 1 => fun cs hc => by
   obtain ⟨hl, hf⟩ := fi Tryz.underlying35 hc
   rw [dr9] at hl
   match cs, hl with
   | [c0, c1, c2, c3, c4, c5, c6, c7, c8, c9, c10, c11], _ =>
     have q0 : HasC Tryz.prog n 31 [c0, c1, c2, c3, c4, c5, c6, c7, c8] := by
      have q := hf _ (List.mem_of_getElem? (i := 0) rfl)
      simpa only [cv8, List.drop_succ_cons, List.drop_zero, List.take_succ_cons, List.take_zero] using q
     obtain ⟨a0, h0⟩ := aa.reads31 n _ q0
     rw [ir Tryz.underlying31 rfl] at h0
     obtain ⟨d1_0, d2_0, d3_0, d4_0, d5_0, d6_0, d7_0, d8_0, e0, kd1_0, kd2_0, kd3_0, kd4_0, kd5_0, kd6_0, kd7_0, kd8_0⟩ := h0
     simp only [PV.agg.injEq, List.cons.injEq, and_true] at e0
     obtain ⟨rfl, rfl, rfl, rfl, rfl, rfl, rfl, rfl, rfl⟩ := e0
     obtain ⟨a1, rfl⟩ := rF (ft Tryz.underlying3) hf 1 rfl rfl sj rfl Tryz.underlying3 rfl
     obtain ⟨a2, h2⟩ := rF (dz Tryz.underlying32 aj.reads44) hf 2 rfl rfl dz7 rfl Tryz.underlying32 rfl
     obtain ⟨a3, h3⟩ := rF (dz Tryz.underlying33 (ql Tryz.underlying64)) hf 3 rfl rfl cu2 rfl Tryz.underlying33 rfl
     refine ⟨({ Program := a0, Table := a1, Rows := a2, Key := a3 } : cg), ?_⟩
     rw [ir Tryz.underlying35 rfl]
     exact ⟨_, _, _, _, _, _, _, _, _, _, rfl, kd1_0, kd2_0, kd3_0, kd4_0, kd5_0, kd6_0, kd7_0, kd8_0, h2, h3⟩
theorem dy5 {c : PV} (h : IsArg Tryz.prog 35 c) : ∃ a, cg.t.R a c := as7 cg.reads35 h
end Go.Proofs.YthdnpgpnodgicaaGreat
