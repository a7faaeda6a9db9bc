import Derived.Test.YthdnpgpnodgicaaGreatPbA
import Derived.Test.YthdnpgpnodgicaaGreatKTy
set_option linter.unusedVariables false
set_option linter.unusedSimpArgs false
set_option maxRecDepth 100000
namespace Go.Proofs.YthdnpgpnodgicaaGreat
open Go Go.Pb Go.RowKit
theorem vp : Tryz.prog.cellsOf 3 = 1 := by kernel_rfl
theorem en9 : Tryz.prog.cellsOf 4 = 1 := by kernel_rfl
theorem be0 : Tryz.prog.cellsOf 9 = 1 := by kernel_rfl
theorem ei9 : Tryz.prog.cellsOf 22 = 1 := by kernel_rfl
theorem cd3 : Tryz.prog.cellsOf 23 = 1 := by kernel_rfl
theorem ef1 : Tryz.prog.cellsOf 24 = 1 := by kernel_rfl
theorem ed3 : Tryz.prog.cellsOf 25 = 1 := by kernel_rfl
theorem ee3 : Tryz.prog.cellsOf 26 = 1 := by kernel_rfl
theorem eg9 : Tryz.prog.cellsOf 27 = 1 := by kernel_rfl
theorem by8 : Tryz.prog.cellsOf 28 = 1 := by kernel_rfl
theorem cn7 : Tryz.prog.cellsOf 29 = 1 := by kernel_rfl
theorem dh3 : Tryz.prog.cellsOf 31 = 9 := by kernel_rfl
theorem ek3 : Tryz.prog.cellsOf 32 = 1 := by kernel_rfl
theorem dj0 : Tryz.prog.cellsOf 33 = 1 := by kernel_rfl
theorem dy6 : Tryz.prog.cellsOf 35 = 12 := by kernel_rfl
theorem eh6 : Tryz.prog.cellsOf 38 = 1 := by kernel_rfl
theorem cb9 : Tryz.prog.cellsOf 40 = 2 := by kernel_rfl
theorem dg2 : Tryz.prog.cellsOf 42 = 4 := by kernel_rfl
theorem ed9 : Tryz.prog.cellsOf 44 = 5 := by kernel_rfl
theorem bk3 : Tryz.prog.cellsOf 64 = 1 := by kernel_rfl
theorem eg6 : Tryz.prog.cellsOf 85 = 1 := by kernel_rfl
theorem ed2 : Tryz.prog.cellsOf 87 = 6 := by kernel_rfl
theorem au2 : Tryz.prog.cellsOf 110 = 2 := by kernel_rfl
theorem ds8 : Tryz.prog.cellsOf 112 = 3 := by kernel_rfl
theorem ds9 : Tryz.prog.cellsOf 116 = 2 := by kernel_rfl
theorem dw2 : Tryz.prog.cellsOf 118 = 1 := by kernel_rfl
theorem dr1 : Tryz.prog.cellsOf 120 = 3 := by kernel_rfl
theorem dk6 : Tryz.prog.cellsOf 122 = 1 := by kernel_rfl
theorem dw3 : Tryz.prog.cellsOf 124 = 7 := by kernel_rfl
theorem dv8 : Tryz.prog.cellsOf 127 = 2 := by kernel_rfl
theorem du1 : Tryz.prog.cellsOf 162 = 2 := by kernel_rfl
theorem bd7 : Tryz.prog.cellsOf 163 = 1 := by kernel_rfl
theorem du2 : Tryz.prog.cellsOf 165 = 5 := by kernel_rfl
theorem dw5 : Tryz.prog.cellsOf 167 = 7 := by kernel_rfl
theorem du6 : Tryz.prog.cellsOf 219 = 3 := by kernel_rfl
theorem dn5 : Tryz.prog.cellsOf 221 = 3 := by kernel_rfl
theorem dr3 : Tryz.prog.cellsOf 223 = 3 := by kernel_rfl
theorem bz.reads162 : ∀ n, Reads Tryz.prog 162 bz.t n
 | 0 => fun cs hc => hc.elim
 | n + 1 => fun cs hc => by
   obtain ⟨hl, hf⟩ := gg Tryz.underlying162 hc
   rw [du1] at hl
   match cs, hl with
   | [c0, c1], _ =>
     obtain ⟨a0, rfl⟩ := rF (oe Tryz.underlying9) hf 0 rfl rfl be0 rfl Tryz.underlying9 rfl
     obtain ⟨a1, rfl⟩ := rF (gn Tryz.underlying3) hf 1 rfl rfl vp rfl Tryz.underlying3 rfl
     refine ⟨({ Name := a0, Width := a1 } : bz), ?_⟩
     rw [jq Tryz.underlying162 rfl]
     rfl
theorem ct.reads116 : ∀ n, Reads Tryz.prog 116 ct.t n
 | 0 => fun cs hc => hc.elim
 | n + 1 => fun cs hc => by
   obtain ⟨hl, hf⟩ := gg Tryz.underlying116 hc
   rw [ds9] at hl
   match cs, hl with
   | [c0, c1], _ =>
     obtain ⟨a0, rfl⟩ := rF (oe Tryz.underlying9) hf 0 rfl rfl be0 rfl Tryz.underlying9 rfl
     obtain ⟨a1, h1⟩ := rF (fg Tryz.underlying23 bz.reads162) hf 1 rfl rfl cd3 rfl Tryz.underlying23 rfl
     refine ⟨({ Name := a0, Fields := a1 } : ct), ?_⟩
     rw [jq Tryz.underlying116 rfl]
     exact ⟨_, rfl, h1⟩
theorem fq.reads219 : ∀ n, Reads Tryz.prog 219 fq.t n
 | 0 => fun cs hc => hc.elim
 | n + 1 => fun cs hc => by
   obtain ⟨hl, hf⟩ := gg Tryz.underlying219 hc
   rw [du6] at hl
   match cs, hl with
   | [c0, c1, c2], _ =>
     obtain ⟨a0, rfl⟩ := rF (oe Tryz.underlying9) hf 0 rfl rfl be0 rfl Tryz.underlying9 rfl
     obtain ⟨a1, rfl⟩ := rF (gn Tryz.underlying3) hf 1 rfl rfl vp rfl Tryz.underlying3 rfl
     obtain ⟨a2, rfl⟩ := rF (gn Tryz.underlying3) hf 2 rfl rfl vp rfl Tryz.underlying3 rfl
     refine ⟨({ Name := a0, Width := a1, Size := a2 } : fq), ?_⟩
     rw [jq Tryz.underlying219 rfl]
     rfl
theorem cm.reads110 : ∀ n, Reads Tryz.prog 110 cm.t n
 | 0 => fun cs hc => hc.elim
 | n + 1 => fun cs hc => by
   obtain ⟨hl, hf⟩ := gg Tryz.underlying110 hc
   rw [au2] at hl
   match cs, hl with
   | [c0, c1], _ =>
     obtain ⟨a0, rfl⟩ := rF (gn Tryz.underlying3) hf 0 rfl rfl vp rfl Tryz.underlying3 rfl
     obtain ⟨a1, rfl⟩ := rF (gn Tryz.underlying3) hf 1 rfl rfl vp rfl Tryz.underlying3 rfl
     refine ⟨({ Header := a0, Field := a1 } : cm), ?_⟩
     rw [jq Tryz.underlying110 rfl]
     rfl
theorem ep.reads223 : ∀ n, Reads Tryz.prog 223 ep.t n
 | 0 => fun cs hc => hc.elim
 | n + 1 => fun cs hc => by
   obtain ⟨hl, hf⟩ := gg Tryz.underlying223 hc
   rw [dr3] at hl
   match cs, hl with
   | [c0, c1, c2], _ =>
     obtain ⟨a0, rfl⟩ := rF (gn Tryz.underlying3) hf 0 rfl rfl vp rfl Tryz.underlying3 rfl
     obtain ⟨a1, rfl⟩ := rF (gn Tryz.underlying3) hf 1 rfl rfl vp rfl Tryz.underlying3 rfl
     obtain ⟨a2, rfl⟩ := rF (gn Tryz.underlying3) hf 2 rfl rfl vp rfl Tryz.underlying3 rfl
     refine ⟨({ Op := a0, N := a1, W := a2 } : ep), ?_⟩
     rw [jq Tryz.underlying223 rfl]
     rfl
theorem dj.reads167 : ∀ n, Reads Tryz.prog 167 dj.t n
 | 0 => fun cs hc => hc.elim
 | n + 1 => fun cs hc => by
   obtain ⟨hl, hf⟩ := gg Tryz.underlying167 hc
   rw [dw5] at hl
   match cs, hl with
   | [c0, c1, c2, c3, c4, c5, c6], _ =>
     obtain ⟨a0, rfl⟩ := rF (gn Tryz.underlying3) hf 0 rfl rfl vp rfl Tryz.underlying3 rfl
     have q1 : HasC Tryz.prog n 110 [c1, c2] := by
      have q := hf _ (List.mem_of_getElem? (i := 1) rfl)
      simpa only [au2, List.drop_succ_cons, List.drop_zero, List.take_succ_cons, List.take_zero] using q
     obtain ⟨a1, h1⟩ := cm.reads110 n _ q1
     rw [jq Tryz.underlying110 rfl] at h1
     have e1 : _ = _ := h1
     simp only [PV.agg.injEq, List.cons.injEq, and_true] at e1
     obtain ⟨rfl, rfl⟩ := e1
     obtain ⟨a2, rfl⟩ := rF (gn Tryz.underlying3) hf 2 rfl rfl vp rfl Tryz.underlying3 rfl
     obtain ⟨a3, rfl⟩ := rF (gn Tryz.underlying3) hf 3 rfl rfl vp rfl Tryz.underlying3 rfl
     obtain ⟨a4, h4⟩ := rF (fg Tryz.underlying163 ep.reads223) hf 4 rfl rfl bd7 rfl Tryz.underlying163 rfl
     obtain ⟨a5, h5⟩ := rF (fg Tryz.underlying163 ep.reads223) hf 5 rfl rfl bd7 rfl Tryz.underlying163 rfl
     refine ⟨({ Kind := a0, Dst := a1, Register := a2, Header := a3, Index := a4, Value := a5 } : dj), ?_⟩
     rw [jq Tryz.underlying167 rfl]
     exact ⟨_, _, rfl, h4, h5⟩
theorem cz.reads120 : ∀ n, Reads Tryz.prog 120 cz.t n
 | 0 => fun cs hc => hc.elim
 | n + 1 => fun cs hc => by
   obtain ⟨hl, hf⟩ := gg Tryz.underlying120 hc
   rw [dr1] at hl
   match cs, hl with
   | [c0, c1, c2], _ =>
     obtain ⟨a0, rfl⟩ := rF (oe Tryz.underlying9) hf 0 rfl rfl be0 rfl Tryz.underlying9 rfl
     obtain ⟨a1, h1⟩ := rF (fg Tryz.underlying23 bz.reads162) hf 1 rfl rfl cd3 rfl Tryz.underlying23 rfl
     obtain ⟨a2, h2⟩ := rF (fg Tryz.underlying118 dj.reads167) hf 2 rfl rfl dw2 rfl Tryz.underlying118 rfl
     refine ⟨({ Name := a0, Params := a1, Body := a2 } : cz), ?_⟩
     rw [jq Tryz.underlying120 rfl]
     exact ⟨_, _, rfl, h1, h2⟩
theorem bg.reads112 : ∀ n, Reads Tryz.prog 112 bg.t n
 | 0 => fun cs hc => hc.elim
 | n + 1 => fun cs hc => by
   obtain ⟨hl, hf⟩ := gg Tryz.underlying112 hc
   rw [ds8] at hl
   match cs, hl with
   | [c0, c1, c2], _ =>
     have q0 : HasC Tryz.prog n 110 [c0, c1] := by
      have q := hf _ (List.mem_of_getElem? (i := 0) rfl)
      simpa only [au2, List.drop_succ_cons, List.drop_zero, List.take_succ_cons, List.take_zero] using q
     obtain ⟨a0, h0⟩ := cm.reads110 n _ q0
     rw [jq Tryz.underlying110 rfl] at h0
     have e0 : _ = _ := h0
     simp only [PV.agg.injEq, List.cons.injEq, and_true] at e0
     obtain ⟨rfl, rfl⟩ := e0
     obtain ⟨a1, rfl⟩ := rF (gn Tryz.underlying3) hf 1 rfl rfl vp rfl Tryz.underlying3 rfl
     refine ⟨({ Field := a0, Kind := a1 } : bg), ?_⟩
     rw [jq Tryz.underlying112 rfl]
     rfl
theorem bb.reads40 : ∀ n, Reads Tryz.prog 40 bb.t n
 | 0 => fun cs hc => hc.elim
 | n + 1 => fun cs hc => by
   obtain ⟨hl, hf⟩ := gg Tryz.underlying40 hc
   rw [cb9] at hl
   match cs, hl with
   | [c0, c1], _ =>
     obtain ⟨a0, rfl⟩ := rF (gn Tryz.underlying3) hf 0 rfl rfl vp rfl Tryz.underlying3 rfl
     obtain ⟨a1, h1⟩ := rF (fg Tryz.underlying33 (tx Tryz.underlying64)) hf 1 rfl rfl dj0 rfl Tryz.underlying33 rfl
     refine ⟨({ Action := a0, Args := a1 } : bb), ?_⟩
     rw [jq Tryz.underlying40 rfl]
     exact ⟨_, rfl, h1⟩
theorem ax.reads87 : ∀ n, Reads Tryz.prog 87 ax.t n
 | 0 => fun cs hc => hc.elim
 | n + 1 => fun cs hc => by
   obtain ⟨hl, hf⟩ := gg Tryz.underlying87 hc
   rw [ed2] at hl
   match cs, hl with
   | [c0, c1, c2, c3, c4, c5], _ =>
     obtain ⟨a0, rfl⟩ := rF (oe Tryz.underlying9) hf 0 rfl rfl be0 rfl Tryz.underlying9 rfl
     obtain ⟨a1, h1⟩ := rF (fg Tryz.underlying85 bg.reads112) hf 1 rfl rfl eg6 rfl Tryz.underlying85 rfl
     obtain ⟨a2, h2⟩ := rF (fg Tryz.underlying29 (gn Tryz.underlying3)) hf 2 rfl rfl cn7 rfl Tryz.underlying29 rfl
     have q3 : HasC Tryz.prog n 40 [c3, c4] := by
      have q := hf _ (List.mem_of_getElem? (i := 3) rfl)
      simpa only [cb9, List.drop_succ_cons, List.drop_zero, List.take_succ_cons, List.take_zero] using q
     obtain ⟨a3, h3⟩ := bb.reads40 n _ q3
     rw [jq Tryz.underlying40 rfl] at h3
     obtain ⟨d1_3, e3, kd1_3⟩ := h3
     simp only [PV.agg.injEq, List.cons.injEq, and_true] at e3
     obtain ⟨rfl, rfl⟩ := e3
     obtain ⟨a4, rfl⟩ := rF (gn Tryz.underlying3) hf 4 rfl rfl vp rfl Tryz.underlying3 rfl
     refine ⟨({ Name := a0, Keys := a1, Actions := a2, Default := a3, Size := a4 } : ax), ?_⟩
     rw [jq Tryz.underlying87 rfl]
     exact ⟨_, _, _, rfl, h1, h2, kd1_3⟩
theorem fh.reads221 : ∀ n, Reads Tryz.prog 221 fh.t n
 | 0 => fun cs hc => hc.elim
 | n + 1 => fun cs hc => by
   obtain ⟨hl, hf⟩ := gg Tryz.underlying221 hc
   rw [dn5] at hl
   match cs, hl with
   | [c0, c1, c2], _ =>
     obtain ⟨a0, rfl⟩ := rF (tx Tryz.underlying64) hf 0 rfl rfl bk3 rfl Tryz.underlying64 rfl
     obtain ⟨a1, rfl⟩ := rF (tx Tryz.underlying64) hf 1 rfl rfl bk3 rfl Tryz.underlying64 rfl
     obtain ⟨a2, rfl⟩ := rF (gn Tryz.underlying3) hf 2 rfl rfl vp rfl Tryz.underlying3 rfl
     refine ⟨({ Value := a0, Mask := a1, Next := a2 } : fh), ?_⟩
     rw [jq Tryz.underlying221 rfl]
     rfl
theorem cv.reads124 : ∀ n, Reads Tryz.prog 124 cv.t n
 | 0 => fun cs hc => hc.elim
 | n + 1 => fun cs hc => by
   obtain ⟨hl, hf⟩ := gg Tryz.underlying124 hc
   rw [dw3] at hl
   match cs, hl with
   | [c0, c1, c2, c3, c4, c5, c6], _ =>
     obtain ⟨a0, rfl⟩ := rF (oe Tryz.underlying9) hf 0 rfl rfl be0 rfl Tryz.underlying9 rfl
     obtain ⟨a1, h1⟩ := rF (fg Tryz.underlying29 (gn Tryz.underlying3)) hf 1 rfl rfl cn7 rfl Tryz.underlying29 rfl
     obtain ⟨a2, rfl⟩ := rF (bg2 Tryz.underlying4) hf 2 rfl rfl en9 rfl Tryz.underlying4 rfl
     have q3 : HasC Tryz.prog n 110 [c3, c4] := by
      have q := hf _ (List.mem_of_getElem? (i := 3) rfl)
      simpa only [au2, List.drop_succ_cons, List.drop_zero, List.take_succ_cons, List.take_zero] using q
     obtain ⟨a3, h3⟩ := cm.reads110 n _ q3
     rw [jq Tryz.underlying110 rfl] at h3
     have e3 : _ = _ := h3
     simp only [PV.agg.injEq, List.cons.injEq, and_true] at e3
     obtain ⟨rfl, rfl⟩ := e3
     obtain ⟨a4, h4⟩ := rF (fg Tryz.underlying122 fh.reads221) hf 4 rfl rfl dk6 rfl Tryz.underlying122 rfl
     obtain ⟨a5, rfl⟩ := rF (gn Tryz.underlying3) hf 5 rfl rfl vp rfl Tryz.underlying3 rfl
     refine ⟨({ Name := a0, Extract := a1, Select := a2, On := a3, Cases := a4, Default := a5 } : cv), ?_⟩
     rw [jq Tryz.underlying124 rfl]
     exact ⟨_, _, rfl, h1, h4⟩
theorem aj.reads165 : ∀ n, Reads Tryz.prog 165 aj.t n
 | 0 => fun cs hc => hc.elim
 | n + 1 => fun cs hc => by
   obtain ⟨hl, hf⟩ := gg Tryz.underlying165 hc
   rw [du2] at hl
   match cs, hl with
   | [c0, c1, c2, c3, c4], _ =>
     obtain ⟨a0, rfl⟩ := rF (gn Tryz.underlying3) hf 0 rfl rfl vp rfl Tryz.underlying3 rfl
     obtain ⟨a1, rfl⟩ := rF (gn Tryz.underlying3) hf 1 rfl rfl vp rfl Tryz.underlying3 rfl
     obtain ⟨a2, h2⟩ := rF (fg Tryz.underlying163 ep.reads223) hf 2 rfl rfl bd7 rfl Tryz.underlying163 rfl
     have q3 : HasC Tryz.prog n 28 [c3] := by
      have q := hf _ (List.mem_of_getElem? (i := 3) rfl)
      simpa only [by8, List.drop_succ_cons, List.drop_zero, List.take_succ_cons, List.take_zero] using q
     obtain ⟨a3, h3⟩ : ∃ a, (tSl aj.t).R a (valC Tryz.prog 28 [c3]) := by
      cases n with
      | zero => exact q3.elim
      | succ n => exact xt Tryz.underlying28 (aj.reads165 n) _ q3
     rw [tq Tryz.underlying28 rfl] at h3
     have q4 : HasC Tryz.prog n 28 [c4] := by
      have q := hf _ (List.mem_of_getElem? (i := 4) rfl)
      simpa only [by8, List.drop_succ_cons, List.drop_zero, List.take_succ_cons, List.take_zero] using q
     obtain ⟨a4, h4⟩ : ∃ a, (tSl aj.t).R a (valC Tryz.prog 28 [c4]) := by
      cases n with
      | zero => exact q4.elim
      | succ n => exact xt Tryz.underlying28 (aj.reads165 n) _ q4
     rw [tq Tryz.underlying28 rfl] at h4
     refine ⟨({ Kind := a0, Table := a1, Cond := a2, Then := a3, Else := a4 } : aj), ?_⟩
     rw [jq Tryz.underlying165 rfl]
     show aj.R _ _
     simp only [aj.R]
     exact ⟨_, _, _, rfl, h2, ⟨⟨h3.1.choose, h3.1.choose_spec.1, by rw [aj.Rl_eq]; exact h3.1.choose_spec.2⟩, h3.2⟩, ⟨⟨h4.1.choose, h4.1.choose_spec.1, by rw [aj.Rl_eq]; exact h4.1.choose_spec.2⟩, h4.2⟩⟩
theorem aa.reads31 : ∀ n, Reads Tryz.prog 31 aa.t n
 | 0 => fun cs hc => hc.elim
 | n + 1 => fun cs hc => by
   obtain ⟨hl, hf⟩ := gg Tryz.underlying31 hc
   rw [dh3] at hl
   match cs, hl with
   | [c0, c1, c2, c3, c4, c5, c6, c7, c8], _ =>
     obtain ⟨a0, rfl⟩ := rF (oe Tryz.underlying9) hf 0 rfl rfl be0 rfl Tryz.underlying9 rfl
     obtain ⟨a1, h1⟩ := rF (fg Tryz.underlying22 ct.reads116) hf 1 rfl rfl ei9 rfl Tryz.underlying22 rfl
     obtain ⟨a2, h2⟩ := rF (fg Tryz.underlying23 bz.reads162) hf 2 rfl rfl cd3 rfl Tryz.underlying23 rfl
     obtain ⟨a3, h3⟩ := rF (fg Tryz.underlying24 fq.reads219) hf 3 rfl rfl ef1 rfl Tryz.underlying24 rfl
     obtain ⟨a4, h4⟩ := rF (fg Tryz.underlying25 cz.reads120) hf 4 rfl rfl ed3 rfl Tryz.underlying25 rfl
     obtain ⟨a5, h5⟩ := rF (fg Tryz.underlying26 ax.reads87) hf 5 rfl rfl ee3 rfl Tryz.underlying26 rfl
     obtain ⟨a6, h6⟩ := rF (fg Tryz.underlying27 cv.reads124) hf 6 rfl rfl eg9 rfl Tryz.underlying27 rfl
     obtain ⟨a7, h7⟩ := rF (fg Tryz.underlying28 aj.reads165) hf 7 rfl rfl by8 rfl Tryz.underlying28 rfl
     obtain ⟨a8, h8⟩ := rF (fg Tryz.underlying29 (gn Tryz.underlying3)) hf 8 rfl rfl cn7 rfl Tryz.underlying29 rfl
     refine ⟨({ Name := a0, Headers := a1, Metadata := a2, Registers := a3, Actions := a4, Tables := a5, States := a6, Control := a7, Deparser := a8 } : aa), ?_⟩
     rw [jq Tryz.underlying31 rfl]
     exact ⟨_, _, _, _, _, _, _, _, rfl, h1, h2, h3, h4, h5, h6, h7, h8⟩
theorem ba.reads127 : ∀ n, Reads Tryz.prog 127 ba.t n
 | 0 => fun cs hc => hc.elim
 | n + 1 => fun cs hc => by
   obtain ⟨hl, hf⟩ := gg Tryz.underlying127 hc
   rw [dv8] at hl
   match cs, hl with
   | [c0, c1], _ =>
     obtain ⟨a0, rfl⟩ := rF (tx Tryz.underlying64) hf 0 rfl rfl bk3 rfl Tryz.underlying64 rfl
     obtain ⟨a1, rfl⟩ := rF (tx Tryz.underlying64) hf 1 rfl rfl bk3 rfl Tryz.underlying64 rfl
     refine ⟨({ Value := a0, Mask := a1 } : ba), ?_⟩
     rw [jq Tryz.underlying127 rfl]
     rfl
theorem aw.reads42 : ∀ n, Reads Tryz.prog 42 aw.t n
 | 0 => fun cs hc => hc.elim
 | n + 1 => fun cs hc => by
   obtain ⟨hl, hf⟩ := gg Tryz.underlying42 hc
   rw [dg2] at hl
   match cs, hl with
   | [c0, c1, c2, c3], _ =>
     obtain ⟨a0, h0⟩ := rF (fg Tryz.underlying38 ba.reads127) hf 0 rfl rfl eh6 rfl Tryz.underlying38 rfl
     obtain ⟨a1, rfl⟩ := rF (gn Tryz.underlying3) hf 1 rfl rfl vp rfl Tryz.underlying3 rfl
     have q2 : HasC Tryz.prog n 40 [c2, c3] := by
      have q := hf _ (List.mem_of_getElem? (i := 2) rfl)
      simpa only [cb9, List.drop_succ_cons, List.drop_zero, List.take_succ_cons, List.take_zero] using q
     obtain ⟨a2, h2⟩ := bb.reads40 n _ q2
     rw [jq Tryz.underlying40 rfl] at h2
     obtain ⟨d1_2, e2, kd1_2⟩ := h2
     simp only [PV.agg.injEq, List.cons.injEq, and_true] at e2
     obtain ⟨rfl, rfl⟩ := e2
     refine ⟨({ Keys := a0, Priority := a1, Call := a2 } : aw), ?_⟩
     rw [jq Tryz.underlying42 rfl]
     exact ⟨_, _, rfl, h0, kd1_2⟩
theorem am.reads44 : ∀ n, Reads Tryz.prog 44 am.t n
 | 0 => fun cs hc => hc.elim
 | n + 1 => fun cs hc => by
   obtain ⟨hl, hf⟩ := gg Tryz.underlying44 hc
   rw [ed9] at hl
   match cs, hl with
   | [c0, c1, c2, c3, c4], _ =>
     obtain ⟨a0, rfl⟩ := rF (gn Tryz.underlying3) hf 0 rfl rfl vp rfl Tryz.underlying3 rfl
     have q1 : HasC Tryz.prog n 42 [c1, c2, c3, c4] := by
      have q := hf _ (List.mem_of_getElem? (i := 1) rfl)
      simpa only [dg2, List.drop_succ_cons, List.drop_zero, List.take_succ_cons, List.take_zero] using q
     obtain ⟨a1, h1⟩ := aw.reads42 n _ q1
     rw [jq Tryz.underlying42 rfl] at h1
     obtain ⟨d0_1, d3_1, e1, kd0_1, kd3_1⟩ := h1
     simp only [PV.agg.injEq, List.cons.injEq, and_true] at e1
     obtain ⟨rfl, rfl, rfl, rfl⟩ := e1
     refine ⟨({ ID := a0, Entry := a1 } : am), ?_⟩
     rw [jq Tryz.underlying44 rfl]
     exact ⟨_, _, rfl, kd0_1, kd3_1⟩
theorem bm.reads35 : ∀ n, Reads Tryz.prog 35 bm.t n
 | 0 => fun cs hc => hc.elim
 | n + 1 => fun cs hc => by
   obtain ⟨hl, hf⟩ := gg Tryz.underlying35 hc
   rw [dy6] at hl
   match cs, hl with
   | [c0, c1, c2, c3, c4, c5, c6, c7, c8, c9, c10, c11], _ =>
     have q0 : HasC Tryz.prog n 31 [c0, c1, c2, c3, c4, c5, c6, c7, c8] := by
      have q := hf _ (List.mem_of_getElem? (i := 0) rfl)
      simpa only [dh3, List.drop_succ_cons, List.drop_zero, List.take_succ_cons, List.take_zero] using q
     obtain ⟨a0, h0⟩ := aa.reads31 n _ q0
     rw [jq Tryz.underlying31 rfl] at h0
     obtain ⟨d1_0, d2_0, d3_0, d4_0, d5_0, d6_0, d7_0, d8_0, e0, kd1_0, kd2_0, kd3_0, kd4_0, kd5_0, kd6_0, kd7_0, kd8_0⟩ := h0
     simp only [PV.agg.injEq, List.cons.injEq, and_true] at e0
     obtain ⟨rfl, rfl, rfl, rfl, rfl, rfl, rfl, rfl, rfl⟩ := e0
     obtain ⟨a1, rfl⟩ := rF (gn Tryz.underlying3) hf 1 rfl rfl vp rfl Tryz.underlying3 rfl
     obtain ⟨a2, h2⟩ := rF (fg Tryz.underlying32 am.reads44) hf 2 rfl rfl ek3 rfl Tryz.underlying32 rfl
     obtain ⟨a3, h3⟩ := rF (fg Tryz.underlying33 (tx Tryz.underlying64)) hf 3 rfl rfl dj0 rfl Tryz.underlying33 rfl
     refine ⟨({ Program := a0, Table := a1, Rows := a2, Key := a3 } : bm), ?_⟩
     rw [jq Tryz.underlying35 rfl]
     exact ⟨_, _, _, _, _, _, _, _, _, _, rfl, kd1_0, kd2_0, kd3_0, kd4_0, kd5_0, kd6_0, kd7_0, kd8_0, h2, h3⟩
theorem ef2 {c : PV} (h : IsArg Tryz.prog 35 c) : ∃ a, bm.t.R a c := ba8 bm.reads35 h
end Go.Proofs.YthdnpgpnodgicaaGreat
