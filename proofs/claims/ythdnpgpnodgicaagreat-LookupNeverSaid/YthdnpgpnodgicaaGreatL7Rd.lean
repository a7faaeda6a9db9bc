import Derived.Test.YthdnpgpnodgicaaGreatPbA
import Derived.Test.YthdnpgpnodgicaaGreatKTy
set_option linter.all false
set_option maxRecDepth 100000
namespace Go.Proofs.YthdnpgpnodgicaaGreat
open Go Go.Pb Go.RowKit
theorem wb : Tryz.prog.cellsOf 3 = 1 := by kernel_rfl
theorem eq2 : Tryz.prog.cellsOf 4 = 1 := by kernel_rfl
theorem bd7 : Tryz.prog.cellsOf 9 = 1 := by kernel_rfl
theorem dz6 : Tryz.prog.cellsOf 22 = 1 := by kernel_rfl
theorem cd6 : Tryz.prog.cellsOf 23 = 1 := by kernel_rfl
theorem dz2 : Tryz.prog.cellsOf 24 = 1 := by kernel_rfl
theorem ek7 : Tryz.prog.cellsOf 25 = 1 := by kernel_rfl
theorem dz4 : Tryz.prog.cellsOf 26 = 1 := by kernel_rfl
theorem ej5 : Tryz.prog.cellsOf 27 = 1 := by kernel_rfl
theorem cl5 : Tryz.prog.cellsOf 28 = 1 := by kernel_rfl
theorem bw3 : Tryz.prog.cellsOf 29 = 1 := by kernel_rfl
theorem dg9 : Tryz.prog.cellsOf 31 = 9 := by kernel_rfl
theorem ec9 : Tryz.prog.cellsOf 32 = 1 := by kernel_rfl
theorem dh9 : Tryz.prog.cellsOf 33 = 1 := by kernel_rfl
theorem ec5 : Tryz.prog.cellsOf 35 = 12 := by kernel_rfl
theorem ef5 : Tryz.prog.cellsOf 38 = 1 := by kernel_rfl
theorem cc2 : Tryz.prog.cellsOf 40 = 2 := by kernel_rfl
theorem di5 : Tryz.prog.cellsOf 42 = 4 := by kernel_rfl
theorem ed7 : Tryz.prog.cellsOf 44 = 5 := by kernel_rfl
theorem bo5 : Tryz.prog.cellsOf 64 = 1 := by kernel_rfl
theorem ee2 : Tryz.prog.cellsOf 85 = 1 := by kernel_rfl
theorem ek0 : Tryz.prog.cellsOf 87 = 6 := by kernel_rfl
theorem au5 : Tryz.prog.cellsOf 110 = 2 := by kernel_rfl
theorem dw6 : Tryz.prog.cellsOf 112 = 3 := by kernel_rfl
theorem dl0 : Tryz.prog.cellsOf 116 = 2 := by kernel_rfl
theorem dq2 : Tryz.prog.cellsOf 118 = 1 := by kernel_rfl
theorem ds5 : Tryz.prog.cellsOf 120 = 3 := by kernel_rfl
theorem dy1 : Tryz.prog.cellsOf 122 = 1 := by kernel_rfl
theorem dm4 : Tryz.prog.cellsOf 124 = 7 := by kernel_rfl
theorem dw4 : Tryz.prog.cellsOf 127 = 2 := by kernel_rfl
theorem dp5 : Tryz.prog.cellsOf 162 = 2 := by kernel_rfl
theorem be6 : Tryz.prog.cellsOf 163 = 1 := by kernel_rfl
theorem dr6 : Tryz.prog.cellsOf 165 = 5 := by kernel_rfl
theorem dk8 : Tryz.prog.cellsOf 167 = 7 := by kernel_rfl
theorem dr5 : Tryz.prog.cellsOf 219 = 3 := by kernel_rfl
theorem ds7 : Tryz.prog.cellsOf 221 = 3 := by kernel_rfl
theorem du0 : Tryz.prog.cellsOf 223 = 3 := by kernel_rfl
theorem cd.reads162 : ∀ n, Reads Tryz.prog 162 cd.t n
 | 0 => fun cs hc => hc.elim
 | n + 1 => fun cs hc => by
   obtain ⟨hl, hf⟩ := fy Tryz.underlying162 hc
   rw [dp5] at hl
   match cs, hl with
   | [c0, c1], _ =>
     obtain ⟨a0, rfl⟩ := rF (ot Tryz.underlying9) hf 0 rfl rfl bd7 rfl Tryz.underlying9 rfl
     obtain ⟨a1, rfl⟩ := rF (gg Tryz.underlying3) hf 1 rfl rfl wb rfl Tryz.underlying3 rfl
     refine ⟨({ Name := a0, Width := a1 } : cd), ?_⟩
     rw [jr Tryz.underlying162 rfl]
     rfl
theorem cv.reads116 : ∀ n, Reads Tryz.prog 116 cv.t n
 | 0 => fun cs hc => hc.elim
 | n + 1 => fun cs hc => by
   obtain ⟨hl, hf⟩ := fy Tryz.underlying116 hc
   rw [dl0] at hl
   match cs, hl with
   | [c0, c1], _ =>
     obtain ⟨a0, rfl⟩ := rF (ot Tryz.underlying9) hf 0 rfl rfl bd7 rfl Tryz.underlying9 rfl
     obtain ⟨a1, h1⟩ := rF (fd Tryz.underlying23 cd.reads162) hf 1 rfl rfl cd6 rfl Tryz.underlying23 rfl
     refine ⟨({ Name := a0, Fields := a1 } : cv), ?_⟩
     rw [jr Tryz.underlying116 rfl]
     exact ⟨_, rfl, h1⟩
theorem fm.reads219 : ∀ n, Reads Tryz.prog 219 fm.t n
 | 0 => fun cs hc => hc.elim
 | n + 1 => fun cs hc => by
   obtain ⟨hl, hf⟩ := fy Tryz.underlying219 hc
   rw [dr5] at hl
   match cs, hl with
   | [c0, c1, c2], _ =>
     obtain ⟨a0, rfl⟩ := rF (ot Tryz.underlying9) hf 0 rfl rfl bd7 rfl Tryz.underlying9 rfl
     obtain ⟨a1, rfl⟩ := rF (gg Tryz.underlying3) hf 1 rfl rfl wb rfl Tryz.underlying3 rfl
     obtain ⟨a2, rfl⟩ := rF (gg Tryz.underlying3) hf 2 rfl rfl wb rfl Tryz.underlying3 rfl
     refine ⟨({ Name := a0, Width := a1, Size := a2 } : fm), ?_⟩
     rw [jr Tryz.underlying219 rfl]
     rfl
theorem cm.reads110 : ∀ n, Reads Tryz.prog 110 cm.t n
 | 0 => fun cs hc => hc.elim
 | n + 1 => fun cs hc => by
   obtain ⟨hl, hf⟩ := fy Tryz.underlying110 hc
   rw [au5] at hl
   match cs, hl with
   | [c0, c1], _ =>
     obtain ⟨a0, rfl⟩ := rF (gg Tryz.underlying3) hf 0 rfl rfl wb rfl Tryz.underlying3 rfl
     obtain ⟨a1, rfl⟩ := rF (gg Tryz.underlying3) hf 1 rfl rfl wb rfl Tryz.underlying3 rfl
     refine ⟨({ Header := a0, Field := a1 } : cm), ?_⟩
     rw [jr Tryz.underlying110 rfl]
     rfl
theorem en.reads223 : ∀ n, Reads Tryz.prog 223 en.t n
 | 0 => fun cs hc => hc.elim
 | n + 1 => fun cs hc => by
   obtain ⟨hl, hf⟩ := fy Tryz.underlying223 hc
   rw [du0] at hl
   match cs, hl with
   | [c0, c1, c2], _ =>
     obtain ⟨a0, rfl⟩ := rF (gg Tryz.underlying3) hf 0 rfl rfl wb rfl Tryz.underlying3 rfl
     obtain ⟨a1, rfl⟩ := rF (gg Tryz.underlying3) hf 1 rfl rfl wb rfl Tryz.underlying3 rfl
     obtain ⟨a2, rfl⟩ := rF (gg Tryz.underlying3) hf 2 rfl rfl wb rfl Tryz.underlying3 rfl
     refine ⟨({ Op := a0, N := a1, W := a2 } : en), ?_⟩
     rw [jr Tryz.underlying223 rfl]
     rfl
theorem dn.reads167 : ∀ n, Reads Tryz.prog 167 dn.t n
 | 0 => fun cs hc => hc.elim
 | n + 1 => fun cs hc => by
   obtain ⟨hl, hf⟩ := fy Tryz.underlying167 hc
   rw [dk8] at hl
   match cs, hl with
   | [c0, c1, c2, c3, c4, c5, c6], _ =>
     obtain ⟨a0, rfl⟩ := rF (gg Tryz.underlying3) hf 0 rfl rfl wb rfl Tryz.underlying3 rfl
     have q1 : HasC Tryz.prog n 110 [c1, c2] := by
      have q := hf _ (List.mem_of_getElem? (i := 1) rfl)
      simpa only [au5, List.drop_succ_cons, List.drop_zero, List.take_succ_cons, List.take_zero] using q
     obtain ⟨a1, h1⟩ := cm.reads110 n _ q1
     rw [jr Tryz.underlying110 rfl] at h1
     have e1 : _ = _ := h1
     simp only [PV.agg.injEq, List.cons.injEq, and_true] at e1
     obtain ⟨rfl, rfl⟩ := e1
     obtain ⟨a2, rfl⟩ := rF (gg Tryz.underlying3) hf 2 rfl rfl wb rfl Tryz.underlying3 rfl
     obtain ⟨a3, rfl⟩ := rF (gg Tryz.underlying3) hf 3 rfl rfl wb rfl Tryz.underlying3 rfl
     obtain ⟨a4, h4⟩ := rF (fd Tryz.underlying163 en.reads223) hf 4 rfl rfl be6 rfl Tryz.underlying163 rfl
     obtain ⟨a5, h5⟩ := rF (fd Tryz.underlying163 en.reads223) hf 5 rfl rfl be6 rfl Tryz.underlying163 rfl
     refine ⟨({ Kind := a0, Dst := a1, Register := a2, Header := a3, Index := a4, Value := a5 } : dn), ?_⟩
     rw [jr Tryz.underlying167 rfl]
     exact ⟨_, _, rfl, h4, h5⟩
theorem cz.reads120 : ∀ n, Reads Tryz.prog 120 cz.t n
 | 0 => fun cs hc => hc.elim
 | n + 1 => fun cs hc => by
   obtain ⟨hl, hf⟩ := fy Tryz.underlying120 hc
   rw [ds5] at hl
   match cs, hl with
   | [c0, c1, c2], _ =>
     obtain ⟨a0, rfl⟩ := rF (ot Tryz.underlying9) hf 0 rfl rfl bd7 rfl Tryz.underlying9 rfl
     obtain ⟨a1, h1⟩ := rF (fd Tryz.underlying23 cd.reads162) hf 1 rfl rfl cd6 rfl Tryz.underlying23 rfl
     obtain ⟨a2, h2⟩ := rF (fd Tryz.underlying118 dn.reads167) hf 2 rfl rfl dq2 rfl Tryz.underlying118 rfl
     refine ⟨({ Name := a0, Params := a1, Body := a2 } : cz), ?_⟩
     rw [jr Tryz.underlying120 rfl]
     exact ⟨_, _, rfl, h1, h2⟩
theorem bh.reads112 : ∀ n, Reads Tryz.prog 112 bh.t n
 | 0 => fun cs hc => hc.elim
 | n + 1 => fun cs hc => by
   obtain ⟨hl, hf⟩ := fy Tryz.underlying112 hc
   rw [dw6] at hl
   match cs, hl with
   | [c0, c1, c2], _ =>
     have q0 : HasC Tryz.prog n 110 [c0, c1] := by
      have q := hf _ (List.mem_of_getElem? (i := 0) rfl)
      simpa only [au5, List.drop_succ_cons, List.drop_zero, List.take_succ_cons, List.take_zero] using q
     obtain ⟨a0, h0⟩ := cm.reads110 n _ q0
     rw [jr Tryz.underlying110 rfl] at h0
     have e0 : _ = _ := h0
     simp only [PV.agg.injEq, List.cons.injEq, and_true] at e0
     obtain ⟨rfl, rfl⟩ := e0
     obtain ⟨a1, rfl⟩ := rF (gg Tryz.underlying3) hf 1 rfl rfl wb rfl Tryz.underlying3 rfl
     refine ⟨({ Field := a0, Kind := a1 } : bh), ?_⟩
     rw [jr Tryz.underlying112 rfl]
     rfl
theorem ax.reads40 : ∀ n, Reads Tryz.prog 40 ax.t n
 | 0 => fun cs hc => hc.elim
 | n + 1 => fun cs hc => by
   obtain ⟨hl, hf⟩ := fy Tryz.underlying40 hc
   rw [cc2] at hl
   match cs, hl with
   | [c0, c1], _ =>
     obtain ⟨a0, rfl⟩ := rF (gg Tryz.underlying3) hf 0 rfl rfl wb rfl Tryz.underlying3 rfl
     obtain ⟨a1, h1⟩ := rF (fd Tryz.underlying33 (uf Tryz.underlying64)) hf 1 rfl rfl dh9 rfl Tryz.underlying33 rfl
     refine ⟨({ Action := a0, Args := a1 } : ax), ?_⟩
     rw [jr Tryz.underlying40 rfl]
     exact ⟨_, rfl, h1⟩
theorem az.reads87 : ∀ n, Reads Tryz.prog 87 az.t n
 | 0 => fun cs hc => hc.elim
 | n + 1 => fun cs hc => by
   obtain ⟨hl, hf⟩ := fy Tryz.underlying87 hc
   rw [ek0] at hl
   match cs, hl with
   | [c0, c1, c2, c3, c4, c5], _ =>
     obtain ⟨a0, rfl⟩ := rF (ot Tryz.underlying9) hf 0 rfl rfl bd7 rfl Tryz.underlying9 rfl
     obtain ⟨a1, h1⟩ := rF (fd Tryz.underlying85 bh.reads112) hf 1 rfl rfl ee2 rfl Tryz.underlying85 rfl
     obtain ⟨a2, h2⟩ := rF (fd Tryz.underlying29 (gg Tryz.underlying3)) hf 2 rfl rfl bw3 rfl Tryz.underlying29 rfl
     have q3 : HasC Tryz.prog n 40 [c3, c4] := by
      have q := hf _ (List.mem_of_getElem? (i := 3) rfl)
      simpa only [cc2, List.drop_succ_cons, List.drop_zero, List.take_succ_cons, List.take_zero] using q
     obtain ⟨a3, h3⟩ := ax.reads40 n _ q3
     rw [jr Tryz.underlying40 rfl] at h3
     obtain ⟨d1_3, e3, kd1_3⟩ := h3
     simp only [PV.agg.injEq, List.cons.injEq, and_true] at e3
     obtain ⟨rfl, rfl⟩ := e3
     obtain ⟨a4, rfl⟩ := rF (gg Tryz.underlying3) hf 4 rfl rfl wb rfl Tryz.underlying3 rfl
     refine ⟨({ Name := a0, Keys := a1, Actions := a2, Default := a3, Size := a4 } : az), ?_⟩
     rw [jr Tryz.underlying87 rfl]
     exact ⟨_, _, _, rfl, h1, h2, kd1_3⟩
theorem fg.reads221 : ∀ n, Reads Tryz.prog 221 fg.t n
 | 0 => fun cs hc => hc.elim
 | n + 1 => fun cs hc => by
   obtain ⟨hl, hf⟩ := fy Tryz.underlying221 hc
   rw [ds7] at hl
   match cs, hl with
   | [c0, c1, c2], _ =>
     obtain ⟨a0, rfl⟩ := rF (uf Tryz.underlying64) hf 0 rfl rfl bo5 rfl Tryz.underlying64 rfl
     obtain ⟨a1, rfl⟩ := rF (uf Tryz.underlying64) hf 1 rfl rfl bo5 rfl Tryz.underlying64 rfl
     obtain ⟨a2, rfl⟩ := rF (gg Tryz.underlying3) hf 2 rfl rfl wb rfl Tryz.underlying3 rfl
     refine ⟨({ Value := a0, Mask := a1, Next := a2 } : fg), ?_⟩
     rw [jr Tryz.underlying221 rfl]
     rfl
theorem ct.reads124 : ∀ n, Reads Tryz.prog 124 ct.t n
 | 0 => fun cs hc => hc.elim
 | n + 1 => fun cs hc => by
   obtain ⟨hl, hf⟩ := fy Tryz.underlying124 hc
   rw [dm4] at hl
   match cs, hl with
   | [c0, c1, c2, c3, c4, c5, c6], _ =>
     obtain ⟨a0, rfl⟩ := rF (ot Tryz.underlying9) hf 0 rfl rfl bd7 rfl Tryz.underlying9 rfl
     obtain ⟨a1, h1⟩ := rF (fd Tryz.underlying29 (gg Tryz.underlying3)) hf 1 rfl rfl bw3 rfl Tryz.underlying29 rfl
     obtain ⟨a2, rfl⟩ := rF (be7 Tryz.underlying4) hf 2 rfl rfl eq2 rfl Tryz.underlying4 rfl
     have q3 : HasC Tryz.prog n 110 [c3, c4] := by
      have q := hf _ (List.mem_of_getElem? (i := 3) rfl)
      simpa only [au5, List.drop_succ_cons, List.drop_zero, List.take_succ_cons, List.take_zero] using q
     obtain ⟨a3, h3⟩ := cm.reads110 n _ q3
     rw [jr Tryz.underlying110 rfl] at h3
     have e3 : _ = _ := h3
     simp only [PV.agg.injEq, List.cons.injEq, and_true] at e3
     obtain ⟨rfl, rfl⟩ := e3
     obtain ⟨a4, h4⟩ := rF (fd Tryz.underlying122 fg.reads221) hf 4 rfl rfl dy1 rfl Tryz.underlying122 rfl
     obtain ⟨a5, rfl⟩ := rF (gg Tryz.underlying3) hf 5 rfl rfl wb rfl Tryz.underlying3 rfl
     refine ⟨({ Name := a0, Extract := a1, Select := a2, On := a3, Cases := a4, Default := a5 } : ct), ?_⟩
     rw [jr Tryz.underlying124 rfl]
     exact ⟨_, _, rfl, h1, h4⟩
theorem aj.reads165 : ∀ n, Reads Tryz.prog 165 aj.t n
 | 0 => fun cs hc => hc.elim
 | n + 1 => fun cs hc => by
   obtain ⟨hl, hf⟩ := fy Tryz.underlying165 hc
   rw [dr6] at hl
   match cs, hl with
   | [c0, c1, c2, c3, c4], _ =>
     obtain ⟨a0, rfl⟩ := rF (gg Tryz.underlying3) hf 0 rfl rfl wb rfl Tryz.underlying3 rfl
     obtain ⟨a1, rfl⟩ := rF (gg Tryz.underlying3) hf 1 rfl rfl wb rfl Tryz.underlying3 rfl
     obtain ⟨a2, h2⟩ := rF (fd Tryz.underlying163 en.reads223) hf 2 rfl rfl be6 rfl Tryz.underlying163 rfl
     have q3 : HasC Tryz.prog n 28 [c3] := by
      have q := hf _ (List.mem_of_getElem? (i := 3) rfl)
      simpa only [cl5, List.drop_succ_cons, List.drop_zero, List.take_succ_cons, List.take_zero] using q
     obtain ⟨a3, h3⟩ : ∃ a, (tSl aj.t).R a (valC Tryz.prog 28 [c3]) := by
      cases n with
      | zero => exact q3.elim
      | succ n => exact yd Tryz.underlying28 (aj.reads165 n) _ q3
     rw [tx Tryz.underlying28 rfl] at h3
     have q4 : HasC Tryz.prog n 28 [c4] := by
      have q := hf _ (List.mem_of_getElem? (i := 4) rfl)
      simpa only [cl5, List.drop_succ_cons, List.drop_zero, List.take_succ_cons, List.take_zero] using q
     obtain ⟨a4, h4⟩ : ∃ a, (tSl aj.t).R a (valC Tryz.prog 28 [c4]) := by
      cases n with
      | zero => exact q4.elim
      | succ n => exact yd Tryz.underlying28 (aj.reads165 n) _ q4
     rw [tx Tryz.underlying28 rfl] at h4
     refine ⟨({ Kind := a0, Table := a1, Cond := a2, Then := a3, Else := a4 } : aj), ?_⟩
     rw [jr Tryz.underlying165 rfl]
     show aj.R _ _
     simp only [aj.R]
     exact ⟨_, _, _, rfl, h2, ⟨⟨h3.1.choose, h3.1.choose_spec.1, by rw [aj.Rl_eq]; exact h3.1.choose_spec.2⟩, h3.2⟩, ⟨⟨h4.1.choose, h4.1.choose_spec.1, by rw [aj.Rl_eq]; exact h4.1.choose_spec.2⟩, h4.2⟩⟩
theorem aa.reads31 : ∀ n, Reads Tryz.prog 31 aa.t n
 | 0 => fun cs hc => hc.elim
 | n + 1 => fun cs hc => by
   obtain ⟨hl, hf⟩ := fy Tryz.underlying31 hc
   rw [dg9] at hl
   match cs, hl with
   | [c0, c1, c2, c3, c4, c5, c6, c7, c8], _ =>
     obtain ⟨a0, rfl⟩ := rF (ot Tryz.underlying9) hf 0 rfl rfl bd7 rfl Tryz.underlying9 rfl
     obtain ⟨a1, h1⟩ := rF (fd Tryz.underlying22 cv.reads116) hf 1 rfl rfl dz6 rfl Tryz.underlying22 rfl
     obtain ⟨a2, h2⟩ := rF (fd Tryz.underlying23 cd.reads162) hf 2 rfl rfl cd6 rfl Tryz.underlying23 rfl
     obtain ⟨a3, h3⟩ := rF (fd Tryz.underlying24 fm.reads219) hf 3 rfl rfl dz2 rfl Tryz.underlying24 rfl
     obtain ⟨a4, h4⟩ := rF (fd Tryz.underlying25 cz.reads120) hf 4 rfl rfl ek7 rfl Tryz.underlying25 rfl
     obtain ⟨a5, h5⟩ := rF (fd Tryz.underlying26 az.reads87) hf 5 rfl rfl dz4 rfl Tryz.underlying26 rfl
     obtain ⟨a6, h6⟩ := rF (fd Tryz.underlying27 ct.reads124) hf 6 rfl rfl ej5 rfl Tryz.underlying27 rfl
     obtain ⟨a7, h7⟩ := rF (fd Tryz.underlying28 aj.reads165) hf 7 rfl rfl cl5 rfl Tryz.underlying28 rfl
     obtain ⟨a8, h8⟩ := rF (fd Tryz.underlying29 (gg Tryz.underlying3)) hf 8 rfl rfl bw3 rfl Tryz.underlying29 rfl
     refine ⟨({ Name := a0, Headers := a1, Metadata := a2, Registers := a3, Actions := a4, Tables := a5, States := a6, Control := a7, Deparser := a8 } : aa), ?_⟩
     rw [jr Tryz.underlying31 rfl]
     exact ⟨_, _, _, _, _, _, _, _, rfl, h1, h2, h3, h4, h5, h6, h7, h8⟩
theorem bb.reads127 : ∀ n, Reads Tryz.prog 127 bb.t n
 | 0 => fun cs hc => hc.elim
 | n + 1 => fun cs hc => by
   obtain ⟨hl, hf⟩ := fy Tryz.underlying127 hc
   rw [dw4] at hl
   match cs, hl with
   | [c0, c1], _ =>
     obtain ⟨a0, rfl⟩ := rF (uf Tryz.underlying64) hf 0 rfl rfl bo5 rfl Tryz.underlying64 rfl
     obtain ⟨a1, rfl⟩ := rF (uf Tryz.underlying64) hf 1 rfl rfl bo5 rfl Tryz.underlying64 rfl
     refine ⟨({ Value := a0, Mask := a1 } : bb), ?_⟩
     rw [jr Tryz.underlying127 rfl]
     rfl
theorem av.reads42 : ∀ n, Reads Tryz.prog 42 av.t n
 | 0 => fun cs hc => hc.elim
 | n + 1 => fun cs hc => by
   obtain ⟨hl, hf⟩ := fy Tryz.underlying42 hc
   rw [di5] at hl
   match cs, hl with
   | [c0, c1, c2, c3], _ =>
     obtain ⟨a0, h0⟩ := rF (fd Tryz.underlying38 bb.reads127) hf 0 rfl rfl ef5 rfl Tryz.underlying38 rfl
     obtain ⟨a1, rfl⟩ := rF (gg Tryz.underlying3) hf 1 rfl rfl wb rfl Tryz.underlying3 rfl
     have q2 : HasC Tryz.prog n 40 [c2, c3] := by
      have q := hf _ (List.mem_of_getElem? (i := 2) rfl)
      simpa only [cc2, List.drop_succ_cons, List.drop_zero, List.take_succ_cons, List.take_zero] using q
     obtain ⟨a2, h2⟩ := ax.reads40 n _ q2
     rw [jr Tryz.underlying40 rfl] at h2
     obtain ⟨d1_2, e2, kd1_2⟩ := h2
     simp only [PV.agg.injEq, List.cons.injEq, and_true] at e2
     obtain ⟨rfl, rfl⟩ := e2
     refine ⟨({ Keys := a0, Priority := a1, Call := a2 } : av), ?_⟩
     rw [jr Tryz.underlying42 rfl]
     exact ⟨_, _, rfl, h0, kd1_2⟩
theorem ak.reads44 : ∀ n, Reads Tryz.prog 44 ak.t n
 | 0 => fun cs hc => hc.elim
 | n + 1 => fun cs hc => by
   obtain ⟨hl, hf⟩ := fy Tryz.underlying44 hc
   rw [ed7] at hl
   match cs, hl with
   | [c0, c1, c2, c3, c4], _ =>
     obtain ⟨a0, rfl⟩ := rF (gg Tryz.underlying3) hf 0 rfl rfl wb rfl Tryz.underlying3 rfl
     have q1 : HasC Tryz.prog n 42 [c1, c2, c3, c4] := by
      have q := hf _ (List.mem_of_getElem? (i := 1) rfl)
      simpa only [di5, List.drop_succ_cons, List.drop_zero, List.take_succ_cons, List.take_zero] using q
     obtain ⟨a1, h1⟩ := av.reads42 n _ q1
     rw [jr Tryz.underlying42 rfl] at h1
     obtain ⟨d0_1, d3_1, e1, kd0_1, kd3_1⟩ := h1
     simp only [PV.agg.injEq, List.cons.injEq, and_true] at e1
     obtain ⟨rfl, rfl, rfl, rfl⟩ := e1
     refine ⟨({ ID := a0, Entry := a1 } : ak), ?_⟩
     rw [jr Tryz.underlying44 rfl]
     exact ⟨_, _, rfl, kd0_1, kd3_1⟩
theorem bm.reads35 : ∀ n, Reads Tryz.prog 35 bm.t n
 | 0 => fun cs hc => hc.elim
 | n + 1 => fun cs hc => by
   obtain ⟨hl, hf⟩ := fy Tryz.underlying35 hc
   rw [ec5] at hl
   match cs, hl with
   | [c0, c1, c2, c3, c4, c5, c6, c7, c8, c9, c10, c11], _ =>
     have q0 : HasC Tryz.prog n 31 [c0, c1, c2, c3, c4, c5, c6, c7, c8] := by
      have q := hf _ (List.mem_of_getElem? (i := 0) rfl)
      simpa only [dg9, List.drop_succ_cons, List.drop_zero, List.take_succ_cons, List.take_zero] using q
     obtain ⟨a0, h0⟩ := aa.reads31 n _ q0
     rw [jr Tryz.underlying31 rfl] at h0
     obtain ⟨d1_0, d2_0, d3_0, d4_0, d5_0, d6_0, d7_0, d8_0, e0, kd1_0, kd2_0, kd3_0, kd4_0, kd5_0, kd6_0, kd7_0, kd8_0⟩ := h0
     simp only [PV.agg.injEq, List.cons.injEq, and_true] at e0
     obtain ⟨rfl, rfl, rfl, rfl, rfl, rfl, rfl, rfl, rfl⟩ := e0
     obtain ⟨a1, rfl⟩ := rF (gg Tryz.underlying3) hf 1 rfl rfl wb rfl Tryz.underlying3 rfl
     obtain ⟨a2, h2⟩ := rF (fd Tryz.underlying32 ak.reads44) hf 2 rfl rfl ec9 rfl Tryz.underlying32 rfl
     obtain ⟨a3, h3⟩ := rF (fd Tryz.underlying33 (uf Tryz.underlying64)) hf 3 rfl rfl dh9 rfl Tryz.underlying33 rfl
     refine ⟨({ Program := a0, Table := a1, Rows := a2, Key := a3 } : bm), ?_⟩
     rw [jr Tryz.underlying35 rfl]
     exact ⟨_, _, _, _, _, _, _, _, _, _, rfl, kd1_0, kd2_0, kd3_0, kd4_0, kd5_0, kd6_0, kd7_0, kd8_0, h2, h3⟩
theorem ed1 {c : PV} (h : IsArg Tryz.prog 35 c) : ∃ a, bm.t.R a c := ay3 bm.reads35 h
end Go.Proofs.YthdnpgpnodgicaaGreat
