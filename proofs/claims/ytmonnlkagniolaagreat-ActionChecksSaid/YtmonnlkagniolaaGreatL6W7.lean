/-
 The code of each function does what its plain program says.
-/
import Derived.Test.YtmonnlkagniolaaGreatL6W6
set_option linter.unusedVariables false
set_option linter.unusedSimpArgs false
set_option maxRecDepth 100000
namespace Go.Proofs.YtmonnlkagniolaaGreat
open Go Go.Pb Go.RowKit
def RF40 (n : (List aa) × (List Int) × (List Int)) (r : PV) : Prop := ∃ c0, ∃ c1, ∃ c2, r = .tup [c0, c1, c2] ∧ (tSl aa.t).R n.1 c0 ∧ (tSl tI).R n.2.1 c1 ∧ (tSl tI).R n.2.2 c2
theorem tr {S : List Fr} {n : (List aa) × (List Int) × (List Int)} {x0 : af} {x1 : Int} {d2 : Int × Int} {a0 : Int} {b3 : ah} {a7 a8 : Bool} {v0 d4 b4 : PV} {a9 b2 b0 b1 : Nat} (r0 : af.t.R x0 v0) (hs : SmH x0) (g2 : jf x0 x1 = d2) (d8 : (!decide (d2.2 = 0)) = false) (g6 : 0 ≤ a0) (g1 : (b3.Fields.length : Int) ≤ 1001 * a0) (f8 : (b3.Headers.length : Int) ≤ 1001 * a0) (f9 : (b3.Registers.length : Int) ≤ 1001 * a0) (d6 : (decide (a0 < (((ix x0.Actions x1).Body).length : Int))) = true) (c5 : aj.t.R (ix ((ix x0.Actions x1).Body) a0) b4) (f6 : a7 = (if (decide (((ix ((ix x0.Actions x1).Body) a0).Kind) = 1)) = true then (decide (((ix ((ix x0.Actions x1).Body) a0).Kind) = 1)) else (decide (((ix ((ix x0.Actions x1).Body) a0).Kind) = 4)))) (d5 : a7 = false) (f7 : a8 = (if (decide (((ix ((ix x0.Actions x1).Body) a0).Kind) = 2)) = true then (decide (((ix ((ix x0.Actions x1).Body) a0).Kind) = 2)) else (decide (((ix ((ix x0.Actions x1).Body) a0).Kind) = 3)))) (d1 : a8 = true) {K3 : ah → ((List aa) × (List Int) × (List Int))}
  (g4 : ∀ {a1 : ah} {a2 : PV} (a3 : ah.t.R a1 a2) (h2 : (a1.Fields.length : Int) ≤ 1001 * a0 + 1000 ∧ (a1.Headers.length : Int) ≤ 1001 * a0 ∧ (a1.Registers.length : Int) ≤ 1001 * a0) {h : Heap} (M0 : Mem h [⟨.op b0 b1 0, 135, 7, [b4]⟩, ⟨.op a9 b2 0, 162, 3, [a2]⟩]), K3 a1 = n → PX Tryz.prog 3 S (QR Tryz.prog [(4, none), (5, none), (6, none)] (RF40 n)) [(2, .fp v0), (9, .op a9 b2 0), (10, d4), (11, vi a0), (12, .op b0 b1 0)] h) :
  ∀ {m : Nat} {a4 : Int} {a1 : ah} {a2 : PV} (a3 : ah.t.R a1 a2) (g0 : m = Int.toNat ((((ix x0.Headers ((ix ((ix x0.Actions x1).Body) a0).Header)).Fields).length : Int) - a4)) (d3 : 0 ≤ a4) (c4 : (a1.Fields.length : Int) ≤ 1001 * a0 + a4) (b9 : (a1.Headers.length : Int) ≤ 1001 * a0) (c0 : (a1.Registers.length : Int) ≤ 1001 * a0) (c1 : a4 ≤ 1000) (c2 : a0 ≤ 12) {h : Heap} (M0 : Mem h [⟨.op b0 b1 0, 135, 7, [b4]⟩, ⟨.op a9 b2 0, 162, 3, [a2]⟩]), jg x0 x1 a0 K3 m a4 a1 = n → RC Tryz.prog (.loop bv5) S (QR Tryz.prog [(4, none), (5, none), (6, none)] (RF40 n)) [(13, vi a4), (12, .op b0 b1 0), (11, vi a0), (10, d4), (9, .op a9 b2 0), (2, .fp v0)] h := by
 have c7 := d8
 try simp only [qa] at c7
 have c6 := d6
 try simp only [qa] at c6
 have d0 := d5
 try simp only [qa] at d0
 have c9 := d1
 try simp only [qa] at c9
 intro m
 induction m with
 | zero =>
  intro a4 a1 a2 a3 g0 d3 c4 b9 c0 c1 c2 h M0 z
  rw [jg] at z
  refine cj (aq (sR (mV rfl (gL (af.g_Headers r0) rfl rfl rfl fun g8 f5 => (ae (ba rfl) (ae (br (k := 0) M0 rfl rfl (aj.g_Header c5)) ?_))))))
  obtain ⟨g9, f4, e8⟩ := cz (i := (ix ((ix x0.Actions x1).Body) a0).Header) f5 (by first | omega | (have hk := bn (by assumption) (by assumption); have hl := hk.2.1; omega) | (have hj := jot (by assumption) (by assumption); have hk := bn (by assumption) (by assumption); have hl := hk.2.1; have hh := bo_h hk.2 (k := a0) (by omega) (by omega) (by omega); omega)) (by first | omega | (have hk := bn (by assumption) (by assumption); have hl := hk.2.1; omega) | (have hj := jot (by assumption) (by assumption); have hk := bn (by assumption) (by assumption); have hl := hk.2.1; have hh := bo_h hk.2 (k := a0) (by omega) (by omega) (by omega); omega))
  refine ae (bf rfl rfl f4) (gL (cy.g_Fields e8) rfl rfl rfl fun h0 f3 => (ae (cv rfl (cm f3 Tryz.underlying23 _)) (bN cn rfl rfl (nS ?_))))
  refine cb rfl ?_ ?_ <;> intro c <;> try simp only [qa] at c
  ·omega
  refine dw (fj (dl ?_))
  exact wP (g4 a3 (by omega) (Mem.sub M0 (.cons_cons _ (.cons_cons _ .slnil))) z) rfl
 | succ m ih =>
  intro a4 a1 a2 a3 g0 d3 c4 b9 c0 c1 c2 h M0 z
  rw [jg] at z
  refine cj (aq (sR (mV rfl (gL (af.g_Headers r0) rfl rfl rfl fun g3 e5 => (ae (ba rfl) (ae (br (k := 0) M0 rfl rfl (aj.g_Header c5)) ?_))))))
  obtain ⟨h1, f1, e7⟩ := cz (i := (ix ((ix x0.Actions x1).Body) a0).Header) e5 (by first | omega | (have hk := bn (by assumption) (by assumption); have hl := hk.2.1; omega) | (have hj := jot (by assumption) (by assumption); have hk := bn (by assumption) (by assumption); have hl := hk.2.1; have hh := bo_h hk.2 (k := a0) (by omega) (by omega) (by omega); omega)) (by first | omega | (have hk := bn (by assumption) (by assumption); have hl := hk.2.1; omega) | (have hj := jot (by assumption) (by assumption); have hk := bn (by assumption) (by assumption); have hl := hk.2.1; have hh := bo_h hk.2 (k := a0) (by omega) (by omega) (by omega); omega))
  refine ae (bf rfl rfl f1) (gL (cy.g_Fields e7) rfl rfl rfl fun g5 d9 => (ae (cv rfl (cm d9 Tryz.underlying23 _)) (bN cn rfl rfl (nS ?_))))
  refine cb rfl ?_ ?_ <;> intro c <;> try simp only [qa] at c
  rotate_left
  ·omega
  refine ax (am (aq (bh (aw (ae (ba rfl) ?_)))))
  obtain ⟨g7, e6, e0⟩ := ah.g_Fields a3
  refine ae (br (k := 1) M0 rfl rfl e6) (ae (ba rfl) (ae (br (k := 0) M0 rfl rfl (aj.g_Header c5)) (mV rfl (ae (v := .agg [vi ((ix ((ix x0.Actions x1).Body) a0).Header), vi a4]) (me (cs := [vi ((ix ((ix x0.Actions x1).Body) a0).Header), vi a4]) rfl rfl) ?_))))
  obtain ⟨e4, c3, z⟩ := bq z
  obtain ⟨b5, e9, b7⟩ := xm  e0 (show aa.t.R ({ Header := (ix ((ix x0.Actions x1).Body) a0).Header, Field := a4 } : aa) (.agg [vi ((ix ((ix x0.Actions x1).Body) a0).Header), vi a4]) from rfl) (by first | omega | (have hk := bn (by assumption) (by assumption); have hl := hk.2.1; omega) | ((try dsimp only); omega))
  rw [c3] at b7
  have d7 := AddField_len c3; try dsimp only at d7
  refine cL e9 rfl rfl (ak (TR.clo (tSl aa.t) e0) (ak (TR.clo aa.t (show aa.t.R ({ Header := (ix ((ix x0.Actions x1).Body) a0).Header, Field := a4 } : aa) (.agg [vi ((ix ((ix x0.Actions x1).Body) a0).Header), vi a4]) from rfl)) bc)) (ae (ba rfl) ?_)
  obtain ⟨e2, a6, a5, f0, e3, b8, b6⟩ := a3
  subst f0
  refine gw (k := 1) (v := b5) M0 rfl rfl rfl (lm (TR.cnt (tSl aa.t) b7) (TR.agg (tSl aa.t) b7)) rfl (by first | decide | (simp only [List.length_cons, List.length_nil]; omega) | simp) (fun f2 c8 => ?_)
  replace c8 : Mem f2 [⟨.op b0 b1 0, 135, 7, [b4]⟩, ⟨.op a9 b2 0, 162, 3, [.agg [b5, a6, a5]]⟩] := c8
  refine bp (cp (am (aw (mV rfl (bN em rfl rfl (mV rfl (bp (cq ?_))))))))
  have s := db d9
  have o : wr (a4 + 1) = a4 + 1 := de (by omega) (by omega)
  erw [o]
  exact wC (ih  (show ah.t.R ({ Fields := e4, Headers := a1.Headers, Registers := a1.Registers } : ah) (.agg [b5, a6, a5]) from ⟨b5, a6, a5, rfl, b7, b8, b6⟩) (by omega) (by omega) (by first | omega | ((try dsimp only); first | omega | (have hj := jot (by assumption) (by assumption); have hk := bn (by assumption) (by assumption); have hl := hk.2.1; have hh := bo_h hk.2 (k := a0) (by omega) (by omega) (by omega); have e1 := hs _ hh.1 hh.2; omega))) (by first | omega | ((try dsimp only); first | omega | (have hj := jot (by assumption) (by assumption); have hk := bn (by assumption) (by assumption); have hl := hk.2.1; have hh := bo_h hk.2 (k := a0) (by omega) (by omega) (by omega); have e1 := hs _ hh.1 hh.2; omega))) (by first | omega | ((try dsimp only); first | omega | (have hj := jot (by assumption) (by assumption); have hk := bn (by assumption) (by assumption); have hl := hk.2.1; have hh := bo_h hk.2 (k := a0) (by omega) (by omega) (by omega); have e1 := hs _ hh.1 hh.2; omega))) (by first | omega | ((try dsimp only); first | omega | (have hj := jot (by assumption) (by assumption); have hk := bn (by assumption) (by assumption); have hl := hk.2.1; have hh := bo_h hk.2 (k := a0) (by omega) (by omega) (by omega); have e1 := hs _ hh.1 hh.2; omega))) (by first | omega | ((try dsimp only); first | omega | (have hj := jot (by assumption) (by assumption); have hk := bn (by assumption) (by assumption); have hl := hk.2.1; have hh := bo_h hk.2 (k := a0) (by omega) (by omega) (by omega); have e1 := hs _ hh.1 hh.2; omega))) (Mem.sub c8 (.cons_cons _ (.cons_cons _ .slnil))) z) rfl

theorem tz {S : List Fr} {n : (List aa) × (List Int) × (List Int)} {x0 : af} {x1 : Int} {g4 : Int × Int} {v0 d5 : PV} {a5 a6 : Nat} (r0 : af.t.R x0 v0) (hs : SmH x0) (h5 : jf x0 x1 = g4) (f2 : (!decide (g4.2 = 0)) = false) (c3 : (tSl aj.t).R ((ix x0.Actions x1).Body) d5) {K0 : ah → ((List aa) × (List Int) × (List Int))}
  (l1 : ∀ {a1 : ah} {a2 : PV} (a3 : ah.t.R a1 a2) {h : Heap} (M0 : Mem h [⟨.op a5 a6 0, 162, 3, [a2]⟩]), K0 a1 = n → PX Tryz.prog 0 S (QR Tryz.prog [(4, none), (5, none), (6, none)] (RF40 n)) [(9, .op a5 a6 0)] h) :
  ∀ {m : Nat} {a0 : Int} {a1 : ah} {a2 : PV} (a3 : ah.t.R a1 a2) (k6 : m = Int.toNat ((((ix x0.Actions x1).Body).length : Int) - a0)) (f4 : 0 ≤ a0) (d1 : (a1.Fields.length : Int) ≤ 1001 * a0) (c7 : (a1.Headers.length : Int) ≤ 1001 * a0) (c8 : (a1.Registers.length : Int) ≤ 1001 * a0) {h : Heap} (M0 : Mem h [⟨.op a5 a6 0, 162, 3, [a2]⟩]), fh x0 x1 K0 m a0 a1 = n → RC Tryz.prog (.loop bw8) S (QR Tryz.prog [(4, none), (5, none), (6, none)] (RF40 n)) [(11, vi a0), (10, d5), (9, .op a5 a6 0), (2, .fp v0)] h := by
 have f7 := f2
 try simp only [qa] at f7
 intro m
 induction m with
 | zero =>
  intro a0 a1 a2 a3 k6 f4 d1 c7 c8 h M0 z
  rw [fh] at z
  refine cj (aq (sR (mV rfl (mV rfl (ae (cv rfl (cm c3 Tryz.underlying95 _)) (bN cn rfl rfl (nS ?_)))))))
  refine cb rfl ?_ ?_ <;> intro c <;> try simp only [qa] at c
  ·omega
  refine dw (fj (dl ?_))
  exact wP (l1 a3 (Mem.sub M0 (.cons_cons _ .slnil)) z) rfl
 | succ m ih =>
  intro a0 a1 a2 a3 k6 f4 d1 c7 c8 h M0 z
  rw [fh] at z
  refine cj (aq (sR (mV rfl (mV rfl (ae (cv rfl (cm c3 Tryz.underlying95 _)) (bN cn rfl rfl (nS ?_)))))))
  refine cb rfl (fun c2 => ?_) (fun c2 => ?_)
  ·have hgo := z
   have f5 := c2
   try simp only [qa] at f5
   refine ax (am (aq (bh (sR (mV rfl (mV rfl ?_))))))
   obtain ⟨c0, i3, c1⟩ := cz (i := a0) c3 (by first | omega | (have hk := bn (by assumption) (by assumption); have hl := hk.2.1; omega) | (have hj := jot (by assumption) (by assumption); have hk := bn (by assumption) (by assumption); have hl := hk.2.1; have hh := bo_h hk.2 (k := a0) (by omega) (by omega) (by omega); omega)) (by first | omega | (have hk := bn (by assumption) (by assumption); have hl := hk.2.1; omega) | (have hj := jot (by assumption) (by assumption); have hk := bn (by assumption) (by assumption); have hl := hk.2.1; have hh := bo_h hk.2 (k := a0) (by omega) (by omega) (by omega); omega))
   refine ae (bf rfl rfl i3) (lD c1 rfl rfl rfl ?_)
   refine gh (x := .agg [vi 0, vi 0, vi 0, vi 0, vi 0, nilS, nilS]) M0 rfl rfl (fun b6 b7 k8 i6 => ?_)
   refine fu (k := 0) (v := c0) i6 rfl rfl rfl (TR.cnt aj.t c1) (fun j9 c6 => ?_)
   replace c6 : Mem j9 [⟨.op b6 b7 0, 135, 7, [c0]⟩, ⟨.op a5 a6 0, 162, 3, [a2]⟩] := c6
   refine nR (ae (ba rfl) (ae (br (k := 0) c6 rfl rfl (aj.g_Kind c1)) (nS (bh (aq (sR (bN dc rfl rfl (mV rfl ?_))))))))
   refine nS ?_
   obtain ⟨j2, h3, z⟩ := bq z
   refine jw (F := fun b S Q => ∀ (a7 : Bool) (e9 : a7 = (if (decide (((ix ((ix x0.Actions x1).Body) a0).Kind) = 1)) = true then (decide (((ix ((ix x0.Actions x1).Body) a0).Kind) = 1)) else (decide (((ix ((ix x0.Actions x1).Body) a0).Kind) = 4)))) (c4 : Heap) (a9 : Mem c4 [⟨.op b6 b7 0, 135, 7, [c0]⟩, ⟨.op a5 a6 0, 162, 3, [a2]⟩]), j2 a7 = n → RC Tryz.prog b S Q [(47, vb a7), (40, vi ((ix ((ix x0.Actions x1).Body) a0).Kind)), (12, .op b6 b7 0), (11, vi a0), (10, d5), (9, .op a5 a6 0), (2, .fp v0)] c4) ?_ ?_
   ·intro a7 e9 c4 a9 z
    rw [← h3] at z
    refine bm z rfl ?_ ?_ <;> clear z <;> intro e8 z <;> have g1 := e8 <;> try simp only [qa] at g1
    ·refine aw (ae (ba rfl) ?_)
     obtain ⟨l3, j0, g7⟩ := ah.g_Fields a3
     refine ae (br (k := 1) a9 rfl rfl j0) (ae (ba rfl) ?_)
     obtain ⟨k9, i8, g9⟩ := aj.g_Dst c1
     refine ae (br (k := 0) a9 rfl rfl i8) ?_
     obtain ⟨j1, e6, z⟩ := bq z
     obtain ⟨e4, j7, d7⟩ := xm  g7 g9 (by first | omega | (have hk := bn (by assumption) (by assumption); have hl := hk.2.1; omega) | ((try dsimp only); omega))
     rw [e6] at d7
     have g6 := AddField_len e6; try dsimp only at g6
     refine cL j7 rfl rfl (ak (TR.clo (tSl aa.t) g7) (ak (TR.clo aa.t g9) bc)) (ae (ba rfl) ?_)
     obtain ⟨h6, b3, b5, i4, h9, d8, d6⟩ := a3
     subst i4
     refine gw (k := 1) (v := e4) a9 rfl rfl rfl (lm (TR.cnt (tSl aa.t) d7) (TR.agg (tSl aa.t) d7)) rfl (by first | decide | (simp only [List.length_cons, List.length_nil]; omega) | simp) (fun i5 f8 => ?_)
     replace f8 : Mem i5 [⟨.op b6 b7 0, 135, 7, [c0]⟩, ⟨.op a5 a6 0, 162, 3, [.agg [e4, b3, b5]]⟩] := f8
     refine bp (cp (cp (am (aw (mV rfl (bN em rfl rfl (mV rfl (bp ?_))))))))
     refine cq ?_
     have s := db c3
     have o : wr (a0 + 1) = a0 + 1 := de (by omega) (by omega)
     erw [o]
     exact wC (ih  (show ah.t.R ({ Fields := j1, Headers := a1.Headers, Registers := a1.Registers } : ah) (.agg [e4, b3, b5]) from ⟨e4, b3, b5, rfl, d7, d8, d6⟩) (by omega) (by omega) (by first | omega | ((try dsimp only); omega)) (by first | omega | ((try dsimp only); omega)) (by first | omega | ((try dsimp only); omega)) (Mem.sub f8 (.cons _ (.cons_cons _ .slnil))) z) rfl
    ·refine aq (sR (bN dc rfl rfl (mV rfl (nS ?_))))
     obtain ⟨j3, h2, z⟩ := bq z
     refine jw (F := fun b S Q => ∀ (a8 : Bool) (f0 : a8 = (if (decide (((ix ((ix x0.Actions x1).Body) a0).Kind) = 2)) = true then (decide (((ix ((ix x0.Actions x1).Body) a0).Kind) = 2)) else (decide (((ix ((ix x0.Actions x1).Body) a0).Kind) = 3)))) (d0 : Heap) (b8 : Mem d0 [⟨.op b6 b7 0, 135, 7, [c0]⟩, ⟨.op a5 a6 0, 162, 3, [a2]⟩]), j3 a8 = n → RC Tryz.prog b S Q [(56, vb a8), (12, .op b6 b7 0), (11, vi a0), (10, d5), (9, .op a5 a6 0), (2, .fp v0)] d0) ?_ ?_
     ·intro a8 f0 d0 b8 z
      rw [← h2] at z
      refine bm z rfl ?_ ?_ <;> clear z <;> intro e5 z <;> have g0 := e5 <;> try simp only [qa] at g0
      ·refine aq (sR (mI rfl (nS (bh ?_))))
       refine wC (tr r0 hs h5 f2 f4 d1 c7 c8 c2 c1 e9 e8 f0 e5 ?_  a3 rfl (by omega) (by first | omega | (have hk := bn (by assumption) (by assumption); have hl := hk.2.1; omega) | ((try dsimp only); omega)) (by first | omega | (have hk := bn (by assumption) (by assumption); have hl := hk.2.1; omega) | ((try dsimp only); omega)) (by first | omega | (have hk := bn (by assumption) (by assumption); have hl := hk.2.1; omega) | ((try dsimp only); omega)) (by first | omega | (have hk := bn (by assumption) (by assumption); have hl := hk.2.1; omega) | ((try dsimp only); omega)) (by first | omega | (have hk := bn (by assumption) (by assumption); have hl := hk.2.1; omega) | ((try dsimp only); omega)) (Mem.sub b8 (.cons_cons _ (.cons_cons _ .slnil))) z) rfl
       ·intro a4 g5 b9 h8 l0 f9 z
        refine fx (am (aw (ae (ba rfl) ?_)))
        obtain ⟨l2, k3, h0⟩ := ah.g_Headers b9
        refine ae (br (k := 1) f9 rfl rfl k3) (ae (ba rfl) (ae (br (k := 0) f9 rfl rfl (aj.g_Header c1)) ?_))
        obtain ⟨k4, f1, z⟩ := bq z
        obtain ⟨d4, k0, e2⟩ := rd (x1 := (ix ((ix x0.Actions x1).Body) a0).Header) h0 (by first | omega | (have hk := bn (by assumption) (by assumption); have hl := hk.2.1; omega))
        rw [f1] at e2
        have h1 := AddInt_len f1; try dsimp only at h1
        refine cL k0 rfl rfl (ak (TR.clo (tSl tI) h0) (ak rfl bc)) (ae (ba rfl) ?_)
        obtain ⟨b0, i2, b4, j6, d3, h7, d9⟩ := b9
        subst j6
        refine gw (k := 1) (v := d4) f9 rfl rfl rfl (lm (TR.cnt (tSl tI) e2) (TR.agg (tSl tI) e2)) rfl (by first | decide | (simp only [List.length_cons, List.length_nil]; omega) | simp) (fun j5 g2 => ?_)
        replace g2 : Mem j5 [⟨.op b6 b7 0, 135, 7, [c0]⟩, ⟨.op a5 a6 0, 162, 3, [.agg [b0, d4, b4]]⟩] := g2
        refine bp (cp (cp (am (aw (mV rfl (bN em rfl rfl (mV rfl (bp ?_))))))))
        refine cq ?_
        have s := db c3
        have o : wr (a0 + 1) = a0 + 1 := de (by omega) (by omega)
        erw [o]
        exact wC (ih  (show ah.t.R ({ Fields := a4.Fields, Headers := k4, Registers := a4.Registers } : ah) (.agg [b0, d4, b4]) from ⟨b0, d4, b4, rfl, d3, e2, d9⟩) (by omega) (by omega) (by first | omega | ((try dsimp only); omega)) (by first | omega | ((try dsimp only); omega)) (by first | omega | ((try dsimp only); omega)) (Mem.sub g2 (.cons _ (.cons_cons _ .slnil))) z) rfl
      ·refine aw (ae (ba rfl) ?_)
       obtain ⟨k7, i7, h4⟩ := ah.g_Registers a3
       refine ae (br (k := 1) b8 rfl rfl i7) (ae (ba rfl) (ae (br (k := 0) b8 rfl rfl (aj.g_Register c1)) ?_))
       obtain ⟨i9, e7, z⟩ := bq z
       obtain ⟨e1, j4, d2⟩ := rd (x1 := (ix ((ix x0.Actions x1).Body) a0).Register) h4 (by first | omega | (have hk := bn (by assumption) (by assumption); have hl := hk.2.1; omega))
       rw [e7] at d2
       have g8 := AddInt_len e7; try dsimp only at g8
       refine cL j4 rfl rfl (ak (TR.clo (tSl tI) h4) (ak rfl bc)) (ae (ba rfl) ?_)
       obtain ⟨b2, b1, i1, k5, e0, e3, i0⟩ := a3
       subst k5
       refine gw (k := 1) (v := e1) b8 rfl rfl rfl (lm (TR.cnt (tSl tI) d2) (TR.agg (tSl tI) d2)) rfl (by first | decide | (simp only [List.length_cons, List.length_nil]; omega) | simp) (fun j8 f6 => ?_)
       replace f6 : Mem j8 [⟨.op b6 b7 0, 135, 7, [c0]⟩, ⟨.op a5 a6 0, 162, 3, [.agg [b2, b1, e1]]⟩] := f6
       refine bp (cp (cp (am (aw (mV rfl (bN em rfl rfl (mV rfl (bp ?_))))))))
       refine cq ?_
       have s := db c3
       have o : wr (a0 + 1) = a0 + 1 := de (by omega) (by omega)
       erw [o]
       exact wC (ih  (show ah.t.R ({ Fields := a1.Fields, Headers := a1.Headers, Registers := i9 } : ah) (.agg [b2, b1, e1]) from ⟨b2, b1, e1, rfl, e0, e3, d2⟩) (by omega) (by omega) (by first | omega | ((try dsimp only); omega)) (by first | omega | ((try dsimp only); omega)) (by first | omega | ((try dsimp only); omega)) (Mem.sub f6 (.cons _ (.cons_cons _ .slnil))) z) rfl
     ·intro J
      refine bm z rfl ?_ ?_ <;> clear z <;> intro c9 z <;> have f3 := c9 <;> try simp only [qa] at f3
      ·refine ax ?_
       refine am (wC (J _ (ac3 c9).symm _ (Mem.sub a9 (.cons_cons _ (.cons_cons _ .slnil))) z) rfl)
      ·refine aw (bN dc rfl rfl (mV rfl (bp ?_)))
       refine am (wC (J _ (aa9 c9).symm _ (Mem.sub a9 (.cons_cons _ (.cons_cons _ .slnil))) z) rfl)
   ·intro J
    refine bm z rfl ?_ ?_ <;> clear z <;> intro c5 z <;> have g3 := c5 <;> try simp only [qa] at g3
    ·refine ax ?_
     refine am (wC (J _ (ac3 c5).symm _ (Mem.sub c6 (.cons_cons _ (.cons_cons _ .slnil))) z) rfl)
    ·refine aw (bN dc rfl rfl (mV rfl (bp ?_)))
     refine am (wC (J _ (aa9 c5).symm _ (Mem.sub c6 (.cons_cons _ (.cons_cons _ .slnil))) z) rfl)
  ·exfalso
   try simp only [qa] at c2
   omega

theorem co7 {x0 : af} {x1 : Int} {v0 : PV} (r0 : af.t.R x0 v0) (hs : SmH x0) : ∃ c0, ∃ c1, ∃ c2, FnR Tryz.prog 40 [v0, vi x1] (.tup [c0, c1, c2]) ∧ (tSl aa.t).R (lj x0 x1).1 c0 ∧ (tSl tI).R (lj x0 x1).2.1 c1 ∧ (tSl tI).R (lj x0 x1).2.2 c2 := by
 obtain ⟨n, z⟩ : ∃ n, lj x0 x1 = n := ⟨_, rfl⟩
 suffices H : RC Tryz.prog bu9 [] (QR Tryz.prog [(4, none), (5, none), (6, none)] (RF40 n)) (argE 0 [v0, vi x1]) ⟨0, []⟩ by
  rw [z]
  obtain ⟨r, h1, c0, c1, c2, rfl, d4, d6, d5⟩ := fnE cs9 (by simp) H
  exact ⟨c0, c1, c2, h1, d4, d6, d5⟩
 unfold lj at z
 refine sR (ae (ej rfl (TR.cnt af.t r0)) (ae (v := nilS) (av rfl) (ae (v := nilS) (av rfl) (ae (v := nilS) (av rfl) (nR (lD r0 rfl rfl rfl (mV rfl ?_)))))))
 obtain ⟨d3, a2, z⟩ := bq z
 have a7 := ap2 (x1 := x1) r0 
 rw [a2] at a7
 refine cL a7 rfl rfl (ak (TR.clo af.t r0) (ak rfl bc)) (mV rfl (xT rfl rfl (xT rfl rfl (mV rfl (mV rfl (nS (aq (sR ?_))))))))
 refine mV rfl (bN ig rfl rfl (nS ?_))
 refine bm z rfl ?_ ?_ <;> clear z <;> intro a1 z <;> have a5 := a1 <;> try simp only [qa] at a5
 ·refine sR (ae (v := nilS) (av rfl) (ae (v := nilS) (av rfl) (ae (v := nilS) (av rfl) (nS ?_))))
  subst z
  exact gm (.tmp rfl (.tmp rfl (.tmp rfl .nil))) (dm (show closed (.tup _) = true from (ak (TR.clo (tSl aa.t) jx) (ak (TR.clo (tSl tI) jx) (ak (TR.clo (tSl tI) jx) bc))))) ⟨nilS, nilS, nilS, rfl, jx, jx, jx⟩
 ·refine ax (am (sR (ae (v := .agg [nilS, nilS, nilS]) (me (cs := [nilS, nilS, nilS]) rfl rfl) ?_)))
  refine gh (x := .agg [nilS, nilS, nilS]) (Mem.nil ⟨0, []⟩) rfl rfl (fun b6 b7 d1 c6 => ?_)
  refine fu (k := 0) (v := .agg [nilS, nilS, nilS]) c6 rfl rfl rfl rfl (fun c8 a3 => ?_)
  replace a3 : Mem c8 [⟨.op b6 b7 0, 162, 3, [.agg [nilS, nilS, nilS]]⟩] := a3
  refine nR ?_
  obtain ⟨d8, c4, a8⟩ := af.g_Actions r0
  refine fA rfl c4 (lD a8 rfl rfl rfl (mV rfl ?_))
  obtain ⟨d7, b8, c5⟩ := cz (i := x1) a8 (by first | omega | (have hk := bn (by assumption) (by assumption); have hl := hk.2.1; omega) | (have hj := jot (by assumption) (by assumption); have hk := bn (by assumption) (by assumption); have hl := hk.2.1; have hh := bo_h hk.2 (k := x11_) (by omega) (by omega) (by omega); omega)) (by first | omega | (have hk := bn (by assumption) (by assumption); have hl := hk.2.1; omega) | (have hj := jot (by assumption) (by assumption); have hk := bn (by assumption) (by assumption); have hl := hk.2.1; have hh := bo_h hk.2 (k := x11_) (by omega) (by omega) (by omega); omega))
  refine ae (bf rfl rfl b8) (gL (bg.g_Body c5) rfl rfl rfl fun d0 c3 => (mV rfl (nS (aq (sR (mI rfl (nS (bh ?_))))))))
  refine wC (tz r0 hs a2 a1 c3 ?_  (show ah.t.R ({ Fields := ([] : List aa), Headers := ([] : List Int), Registers := ([] : List Int) } : ah) (.agg [nilS, nilS, nilS]) from ⟨nilS, nilS, nilS, rfl, jx, jx, jx⟩) rfl (by omega) (by first | omega | ((try dsimp only); (try simp only [List.length_append, List.length_cons, List.length_nil]); omega) | simp) (by first | omega | ((try dsimp only); (try simp only [List.length_append, List.length_cons, List.length_nil]); omega) | simp) (by first | omega | ((try dsimp only); (try simp only [List.length_append, List.length_cons, List.length_nil]); omega) | simp) (Mem.sub a3 (.cons_cons _ .slnil)) z) rfl
  ·intro a6 b2 a0 d2 a4 z
   refine fx (am (sR (ae (ba rfl) ?_)))
   obtain ⟨b3, c7, b1⟩ := ah.g_Fields a0
   refine ae (br (k := 0) a4 rfl rfl c7) (ae (ba rfl) ?_)
   obtain ⟨b5, c9, a9⟩ := ah.g_Headers a0
   refine ae (br (k := 0) a4 rfl rfl c9) (ae (ba rfl) ?_)
   obtain ⟨b4, b9, b0⟩ := ah.g_Registers a0
   refine ae (br (k := 0) a4 rfl rfl b9) (mV rfl (mV rfl (mV rfl (nS ?_))))
   subst z
   exact gm (.tmp rfl (.tmp rfl (.tmp rfl .nil))) (dm (show closed (.tup _) = true from (ak (TR.clo (tSl aa.t) b1) (ak (TR.clo (tSl tI) a9) (ak (TR.clo (tSl tI) b0) bc))))) ⟨b3, b5, b4, rfl, b1, a9, b0⟩

def RF114 (n : Bool) (r : PV) : Prop := r = vb n
theorem bq0 {x0 : BitVec 32} {x1 : Int} : FnR Tryz.prog 114 [nk x0, vi x1] (vb (ow x0 x1)) := by
 refine fnS (R := RF114) ay3 (fun _ h => h) rfl fun n z => ?_
 unfold ow at z
 refine sR (mB rfl (nR (mV rfl (ae (v := .fs true [vi x1]) (fd rfl (all_cons rfl iu)) ?_))))
 have a4 : (tSl tI).R ([x1] : List Int) (.fs true [vi x1]) := mg ⟨rfl, trivial⟩ (by simp)
 obtain ⟨a5, a1, z⟩ := bq z
 have a3 := at6  a4 
 rw [a1] at a3
 refine cL a3 rfl rfl (ak (TR.clo (tSl tI) a4) bc) (mV rfl ?_)
 refine bw 5 (d := 13) (v := vb (a5 && (decide (x0 ≤ (gv x1))))) ?_ ?_
 ·intro S Q r
  cases a2 : a5
  ·exact gN 4 rfl rfl rfl rfl rfl rfl
  ·intro k
   have a0 := a2
   try simp only [qa] at a0
   refine ai rfl rfl (av rfl) (ai rfl rfl (av rfl) ?_)
   have a6 := as5 (x0 := x1)  
   refine jm rfl rfl (nw rfl rfl (ak rfl bc) a6) (ai rfl rfl (bv (a := nk x0) (b := nk (gv x1)) rfl rfl da3) ?_)
   exact gK rfl rfl rfl rfl rfl k
 refine mV rfl (nS ?_)
 exact rR z rfl rfl rfl

def RF41 (n : Int) (r : PV) : Prop := r = vi n
theorem qs {S : List Fr} {n : Int} {x0 : af} {x1 : bb} {a7 a9 : PV} (b0 : ((decide (x1.Action < 0)) || (decide ((x0.Actions.length : Int) ≤ x1.Action))) = false) (b2 : (tSl ay.t).R ((ix x0.Actions x1.Action).Params) a7) (a3 : (!decide ((x1.Args.length : Int) = (((ix x0.Actions x1.Action).Params).length : Int))) = false) (a8 : (tSl aj6).R x1.Args a9) {K0 : Unit → Int}
  (b5 : K0 () = n → PX Tryz.prog 0 S (QR Tryz.prog [(4, none)] (RF41 n)) [] ⟨0, []⟩) :
  ∀ {m : Nat} {a0 : Int} (b4 : m = Int.toNat ((x1.Args.length : Int) - a0)) (a6 : 0 ≤ a0), gz x0 x1 K0 m a0 = n → RC Tryz.prog (.loop by4) S (QR Tryz.prog [(4, none)] (RF41 n)) [(35, vi a0), (34, vi (x1.Args.length : Int)), (33, a9), (5, a7)] ⟨0, []⟩ := by
 have a1 := b0
 try simp only [qa] at a1
 have a2 := a3
 try simp only [qa] at a2
 intro m
 induction m with
 | zero =>
  intro a0 b4 a6 z
  rw [gz] at z
  refine cj (sR (bN cn rfl rfl (nS (aq ?_))))
  refine cb rfl ?_ ?_ <;> intro c <;> try simp only [qa] at c
  ·omega
  refine dw (fj (dl ?_))
  exact wP (b5  z) rfl
 | succ m ih =>
  intro a0 b4 a6 z
  rw [gz] at z
  refine cj (sR (bN cn rfl rfl (nS (aq ?_))))
  refine cb rfl ?_ ?_ <;> intro c <;> try simp only [qa] at c
  rotate_left
  ·omega
  refine ax (am (aq (bh (sR (mV rfl (ae (bf rfl rfl (ci3 a8 (by omega) (by omega))) (lR rfl rfl rfl (mV rfl ?_))))))))
  refine mV rfl (nR (mV rfl (mV rfl (mV rfl ?_))))
  obtain ⟨b7, b3, b1⟩ := cz (i := a0) b2 (by omega) (by omega)
  refine ae (bf rfl rfl b3) (fL rfl (ay.g_Width b1) rfl rfl ?_)
  obtain ⟨b6, a4, z⟩ := bq z
  have a5 := bq0 (x0 := (ix x1.Args a0)) (x1 := (ix ((ix x0.Actions x1.Action).Params) a0).Width)  
  rw [a4] at a5
  refine cL a5 rfl rfl (ak rfl (ak rfl bc)) (ae (jp rfl) (nS ?_))
  refine bm z rfl ?_ ?_ <;> clear z <;> intro c z <;> try simp only [qa] at c
  ·refine sR (mI rfl (nS ?_))
   exact rR z rfl rfl rfl
  ·refine ax (cp (am (aw (bN em rfl rfl (mV rfl (bp (cq ?_)))))))
   have s := db a8
   have o : wr (a0 + 1) = a0 + 1 := de (by omega) (by omega)
   erw [o]
   exact wC (ih   (by omega) (by omega) z) rfl

theorem cp8 {x0 : af} {x1 : bb} {v0 v1 : PV} (r0 : af.t.R x0 v0) (r1 : bb.t.R x1 v1) : FnR Tryz.prog 41 [v0, v1] (vi (kp x0 x1)) := by
 refine fnS (R := RF41) bj8 (fun _ h => h) rfl fun n z => ?_
 unfold kp at z
 refine sR (ae (ej rfl (TR.cnt af.t r0)) (ae (ej rfl (TR.cnt bb.t r1)) (mI rfl (nS (aq (sR (fL rfl (bb.g_Action r1) rfl rfl (bN cn rfl rfl ?_))))))))
 refine mV rfl ?_
 refine bw 7 (d := 18) (v := vb ((decide (x1.Action < 0)) || (decide ((x0.Actions.length : Int) ≤ x1.Action)))) ?_ ?_
 ·intro S Q r
  cases a7 : (decide (x1.Action < 0))
  ·intro k
   have a6 := a7
   try simp only [qa] at a6
   refine ai rfl rfl (cg rfl (bb.g_Action r1)) (ai rfl rfl (ca rfl rfl rfl) ?_)
   obtain ⟨b7, b1, a3⟩ := af.g_Actions r0
   refine ai rfl rfl (cg rfl b1) (ai rfl rfl (ca rfl (TR.cnt (tSl bg.t) a3) (TR.agg (tSl bg.t) a3)) (ai rfl rfl (cv rfl (cm a3 Tryz.underlying25 _)) (ai rfl rfl (bv rfl rfl lv) ?_)))
   exact gK rfl rfl rfl rfl rfl k
  ·exact gN 6 rfl rfl rfl rfl rfl rfl
 refine nS ?_
 refine bm z rfl ?_ ?_ <;> clear z <;> intro a1 z <;> have a4 := a1 <;> try simp only [qa] at a4
 ·refine sR (mI rfl (nS ?_))
  exact rR z rfl rfl rfl
 ·refine ax (am (sR ?_))
  obtain ⟨b8, b6, a8⟩ := af.g_Actions r0
  refine fA rfl b6 (lD a8 rfl rfl rfl (fL rfl (bb.g_Action r1) rfl rfl ?_))
  obtain ⟨c0, b2, b3⟩ := cz (i := x1.Action) a8 (by omega) (by omega)
  refine ae (bf rfl rfl b2) ?_
  obtain ⟨c1, b5, a2⟩ := bg.g_Params b3
  refine fA rfl b5 (lD a2 rfl rfl rfl (mV rfl (nS (aq (sR ?_)))))
  obtain ⟨b9, b4, a9⟩ := bb.g_Args r1
  refine fA rfl b4 (lD a9 rfl rfl rfl (ae (cv rfl (cm a9 Tryz.underlying43 _)) (mV rfl (ae (cv rfl (cm a2 Tryz.underlying23 _)) (bN ig rfl rfl (nS ?_))))))
  refine bm z rfl ?_ ?_ <;> clear z <;> intro a0 z <;> have a5 := a0 <;> try simp only [qa] at a5
  ·refine sR (mI rfl (nS ?_))
   exact rR z rfl rfl rfl
  ·refine ax (am (aq (sR (gL (bb.g_Args r1) rfl rfl rfl fun c2 b0 => (ae (cv rfl (cm b0 Tryz.underlying43 _)) (mI rfl (nS (bh ?_))))))))
   refine wC (qs a1 a2 a0 b0 ?_  rfl (by omega) z) rfl
   ·intro  z
    refine fx (am (sR (mI rfl (nS ?_))))
    exact rR z rfl rfl rfl

def RF115 (n : Bool) (r : PV) : Prop := r = vb n
theorem cd7 {x0 : BitVec 32} {x1 : Int} : FnR Tryz.prog 115 [nk x0, vi x1] (vb (pp x0 x1)) := by
 refine fnS (R := RF115) bq4 (fun _ h => h) rfl fun n z => ?_
 unfold pp at z
 refine sR (mB rfl (nR (mV rfl ?_)))
 obtain ⟨a2, a1, z⟩ := bq z
 have a3 := ay6 (x0 := x1)  
 rw [a1] at a3
 refine cL a3 rfl rfl (ak rfl bc) (mV rfl ?_)
 refine bw 6 (d := 13) (v := vb (a2 && (decide ((BitVec.setWidth 64 x0) < (lr x1))))) ?_ ?_
 ·intro S Q r
  cases a4 : a2
  ·exact gN 5 rfl rfl rfl rfl rfl rfl
  ·intro k
   have a0 := a4
   try simp only [qa] at a0
   refine ai rfl rfl (av rfl) (ai rfl rfl (xh (a := nk x0) rfl (c_wd Tryz.underlying89 Tryz.underlying201)) (ai rfl rfl (av rfl) ?_))
   have a5 := ar0 (x0 := x1)  (by (have hk := rval (by assumption) (by assumption); omega))
   refine jm rfl rfl (nw rfl rfl (ak rfl bc) a5) (ai rfl rfl (bv (a := ph (BitVec.setWidth 64 x0)) (b := ph (lr x1)) rfl rfl dc9) ?_)
   exact gK rfl rfl rfl rfl rfl k
 refine mV rfl (nS ?_)
 exact rR z rfl rfl rfl

def RF42 (n : Int) (r : PV) : Prop := r = vi n
theorem rj {S : List Fr} {n : Int} {x0 : af} {x1 : bb} {v1 a8 : PV} (r1 : bb.t.R x1 v1) (a9 : ((decide (x1.Action < 0)) || (decide ((x0.Actions.length : Int) ≤ x1.Action))) = false) (a1 : (tSl ay.t).R ((ix x0.Actions x1.Action).Params) a8) (a4 : (!decide ((x1.Args.length : Int) = (((ix x0.Actions x1.Action).Params).length : Int))) = false) {K0 : Unit → Int}
  (b4 : K0 () = n → PX Tryz.prog 0 S (QR Tryz.prog [(4, none)] (RF42 n)) [] ⟨0, []⟩) :
  ∀ {m : Nat} {a0 : Int} (b3 : m = Int.toNat ((((ix x0.Actions x1.Action).Params).length : Int) - a0)) (a7 : 0 ≤ a0), ij x0 x1 K0 m a0 = n → RC Tryz.prog (.loop bw7) S (QR Tryz.prog [(4, none)] (RF42 n)) [(6, vi a0), (5, a8), (3, .fp v1)] ⟨0, []⟩ := by
 have a2 := a9
 try simp only [qa] at a2
 have a3 := a4
 try simp only [qa] at a3
 intro m
 induction m with
 | zero =>
  intro a0 b3 a7 z
  rw [ij] at z
  refine cj (aq (sR (mV rfl (mV rfl (ae (cv rfl (cm a1 Tryz.underlying23 _)) (bN cn rfl rfl (nS ?_)))))))
  refine cb rfl ?_ ?_ <;> intro c <;> try simp only [qa] at c
  ·omega
  refine dw (fj (dl ?_))
  exact wP (b4  z) rfl
 | succ m ih =>
  intro a0 b3 a7 z
  rw [ij] at z
  refine cj (aq (sR (mV rfl (mV rfl (ae (cv rfl (cm a1 Tryz.underlying23 _)) (bN cn rfl rfl (nS ?_)))))))
  refine cb rfl ?_ ?_ <;> intro c <;> try simp only [qa] at c
  rotate_left
  ·omega
  refine ax (am (aq (bh (sR (gL (bb.g_Args r1) rfl rfl rfl fun b6 b2 => (mV rfl (ae (bf rfl rfl (ci3 b2 (by omega) (by omega))) (lR rfl rfl rfl ?_))))))))
  refine mV rfl (mV rfl ?_)
  obtain ⟨b7, b1, b0⟩ := cz (i := a0) a1 (by omega) (by omega)
  refine ae (bf rfl rfl b1) (fL rfl (ay.g_Width b0) rfl rfl ?_)
  obtain ⟨b5, a5, z⟩ := bq z
  have a6 := cd7 (x0 := (ix x1.Args a0)) (x1 := (ix ((ix x0.Actions x1.Action).Params) a0).Width)  
  rw [a5] at a6
  refine cL a6 rfl rfl (ak rfl (ak rfl bc)) (ae (jp rfl) (nS ?_))
  refine bm z rfl ?_ ?_ <;> clear z <;> intro c z <;> try simp only [qa] at c
  ·refine sR (mI rfl (nS ?_))
   exact rR z rfl rfl rfl
  ·refine ax (cp (am (aw (mV rfl (bN em rfl rfl (mV rfl (bp (cq ?_))))))))
   have s := db a1
   have o : wr (a0 + 1) = a0 + 1 := de (by omega) (by omega)
   erw [o]
   exact wC (ih   (by omega) (by omega) z) rfl

theorem cn1 {x0 : af} {x1 : bb} {v0 v1 : PV} (r0 : af.t.R x0 v0) (r1 : bb.t.R x1 v1) : FnR Tryz.prog 42 [v0, v1] (vi (ld x0 x1)) := by
 refine fnS (R := RF42) cl1 (fun _ h => h) rfl fun n z => ?_
 unfold ld at z
 refine sR (ae (ej rfl (TR.cnt af.t r0)) (ae (ej rfl (TR.cnt bb.t r1)) (mI rfl (nS (aq (sR (fL rfl (bb.g_Action r1) rfl rfl (bN cn rfl rfl ?_))))))))
 refine mV rfl ?_
 refine bw 7 (d := 17) (v := vb ((decide (x1.Action < 0)) || (decide ((x0.Actions.length : Int) ≤ x1.Action)))) ?_ ?_
 ·intro S Q r
  cases a6 : (decide (x1.Action < 0))
  ·intro k
   have a5 := a6
   try simp only [qa] at a5
   refine ai rfl rfl (cg rfl (bb.g_Action r1)) (ai rfl rfl (ca rfl rfl rfl) ?_)
   obtain ⟨b4, a9, a2⟩ := af.g_Actions r0
   refine ai rfl rfl (cg rfl a9) (ai rfl rfl (ca rfl (TR.cnt (tSl bg.t) a2) (TR.agg (tSl bg.t) a2)) (ai rfl rfl (cv rfl (cm a2 Tryz.underlying25 _)) (ai rfl rfl (bv rfl rfl lv) ?_)))
   exact gK rfl rfl rfl rfl rfl k
  ·exact gN 6 rfl rfl rfl rfl rfl rfl
 refine nS ?_
 refine bm z rfl ?_ ?_ <;> clear z <;> intro a1 z <;> have a3 := a1 <;> try simp only [qa] at a3
 ·refine sR (mI rfl (nS ?_))
  exact rR z rfl rfl rfl
 ·refine ax (am (sR ?_))
  obtain ⟨b5, b3, a7⟩ := af.g_Actions r0
  refine fA rfl b3 (lD a7 rfl rfl rfl (fL rfl (bb.g_Action r1) rfl rfl ?_))
  obtain ⟨b8, b0, b1⟩ := cz (i := x1.Action) a7 (by omega) (by omega)
  refine ae (bf rfl rfl b0) (gL (bg.g_Params b1) rfl rfl rfl fun b7 a8 => (mV rfl (nS (aq (sR (gL (bb.g_Args r1) rfl rfl rfl fun b6 b2 => (ae (cv rfl (cm b2 Tryz.underlying43 _)) (mV rfl ?_))))))))
  refine ae (cv rfl (cm a8 Tryz.underlying23 _)) (bN ig rfl rfl (nS ?_))
  refine bm z rfl ?_ ?_ <;> clear z <;> intro a0 z <;> have a4 := a0 <;> try simp only [qa] at a4
  ·refine sR (mI rfl (nS ?_))
   exact rR z rfl rfl rfl
  ·refine ax (am (aq (sR (mI rfl (nS (bh ?_))))))
   refine wC (rj r1 a1 a8 a0 ?_  rfl (by omega) z) rfl
   ·intro  z
    refine fx (am (sR (mI rfl (nS ?_))))
    exact rR z rfl rfl rfl

def RF43 (n : Bool) (r : PV) : Prop := r = vb n
theorem qq {S : List Fr} {n : Bool} {x0 : List aa} {x1 : List aa} {v0 v1 : PV} (r0 : (tSl aa.t).R x0 v0) (r1 : (tSl aa.t).R x1 v1) (a5 : (!decide ((x0.length : Int) = (x1.length : Int))) = false) {K0 : Unit → Bool}
  (a9 : K0 () = n → PX Tryz.prog 0 S (QR Tryz.prog [(4, none)] (RF43 n)) [] ⟨0, []⟩) :
  ∀ {m : Nat} {a0 : Int} (a8 : m = Int.toNat ((x0.length : Int) - a0)) (a4 : 0 ≤ a0), fk x0 x1 K0 m a0 = n → RC Tryz.prog (.loop ce8) S (QR Tryz.prog [(4, none)] (RF43 n)) [(5, vi a0), (1, v1), (0, v0)] ⟨0, []⟩ := by
 have a1 := a5
 try simp only [qa] at a1
 intro m
 induction m with
 | zero =>
  intro a0 a8 a4 z
  rw [fk] at z
  refine cj (aq (sR (mV rfl (mV rfl (ae (cv rfl (cm r0 Tryz.underlying75 _)) (bN cn rfl rfl (nS ?_)))))))
  refine cb rfl ?_ ?_ <;> intro c <;> try simp only [qa] at c
  ·omega
  refine dw (fj (dl ?_))
  exact wP (a9  z) rfl
 | succ m ih =>
  intro a0 a8 a4 z
  rw [fk] at z
  refine cj (aq (sR (mV rfl (mV rfl (ae (cv rfl (cm r0 Tryz.underlying75 _)) (bN cn rfl rfl (nS ?_)))))))
  refine cb rfl ?_ ?_ <;> intro c <;> try simp only [qa] at c
  rotate_left
  ·omega
  refine ax (am (aq (bh (sR (mV rfl (mV rfl ?_))))))
  obtain ⟨b0, a7, a2⟩ := cz (i := a0) r0 (by omega) (by omega)
  refine ae (bf rfl rfl a7) (lD a2 rfl rfl rfl (mV rfl (mV rfl ?_)))
  obtain ⟨b1, a6, a3⟩ := cz (i := a0) r1 (by omega) (by omega)
  refine ae (bf rfl rfl a6) (lD a3 rfl rfl rfl (bN (aa.neq_87 a2 a3) rfl rfl (nS ?_)))
  refine bm z rfl ?_ ?_ <;> clear z <;> intro c z <;> try simp only [qa] at c
  ·refine sR (mB rfl (nS ?_))
   exact rR z rfl rfl rfl
  ·refine ax (cp (am (aw (mV rfl (bN em rfl rfl (mV rfl (bp (cq ?_))))))))
   have s := db r0
   have o : wr (a0 + 1) = a0 + 1 := de (by omega) (by omega)
   erw [o]
   exact wC (ih   (by omega) (by omega) z) rfl

theorem bh3 {x0 : List aa} {x1 : List aa} {v0 v1 : PV} (r0 : (tSl aa.t).R x0 v0) (r1 : (tSl aa.t).R x1 v1) : FnR Tryz.prog 43 [v0, v1] (vb (dv x0 x1)) := by
 refine fnS (R := RF43) bm8 (fun _ h => h) rfl fun n z => ?_
 unfold dv at z
 refine sR (mB rfl (nS (aq (sR (mV rfl (ae (cv rfl (cm r0 Tryz.underlying75 _)) (mV rfl (ae (cv rfl (cm r1 Tryz.underlying75 _)) ?_))))))))
 refine bN ig rfl rfl (nS ?_)
 refine bm z rfl ?_ ?_ <;> clear z <;> intro a0 z <;> have a1 := a0 <;> try simp only [qa] at a1
 ·refine sR (mB rfl (nS ?_))
  exact rR z rfl rfl rfl
 ·refine ax (am (aq (sR (mI rfl (nS (bh ?_))))))
  refine wC (qq r0 r1 a0 ?_  rfl (by omega) z) rfl
  ·intro  z
   refine fx (am (sR (mB rfl (nS ?_))))
   exact rR z rfl rfl rfl

def RF32 (n : Bool) (r : PV) : Prop := r = vb n
theorem rk {S : List Fr} {n : Bool} {x0 x1 : List Int} {v0 v1 : PV} (r0 : (tSl tI).R x0 v0) (r1 : (tSl tI).R x1 v1) (a3 : (!decide ((x0.length : Int) = (x1.length : Int))) = false) {K0 : Unit → Bool}
  (a5 : K0 () = n → PX Tryz.prog 0 S (QR Tryz.prog [(4, none)] (RF32 n)) [] ⟨0, []⟩) :
  ∀ {m : Nat} {a0 : Int} (a4 : m = Int.toNat ((x0.length : Int) - a0)) (a2 : 0 ≤ a0), gq x0 x1 K0 m a0 = n → RC Tryz.prog (.loop cc0) S (QR Tryz.prog [(4, none)] (RF32 n)) [(5, vi a0), (1, v1), (0, v0)] ⟨0, []⟩ := by
 have a1 := a3
 try simp only [qa] at a1
 intro m
 induction m with
 | zero =>
  intro a0 a4 a2 z
  rw [gq] at z
  refine cj (aq (sR (mV rfl (mV rfl (ae (cv rfl (cm r0 Tryz.underlying29 _)) (bN cn rfl rfl (nS ?_)))))))
  refine cb rfl ?_ ?_ <;> intro c <;> try simp only [qa] at c
  ·omega
  refine dw (fj (dl ?_))
  exact wP (a5  z) rfl
 | succ m ih =>
  intro a0 a4 a2 z
  rw [gq] at z
  refine cj (aq (sR (mV rfl (mV rfl (ae (cv rfl (cm r0 Tryz.underlying29 _)) (bN cn rfl rfl (nS ?_)))))))
  refine cb rfl ?_ ?_ <;> intro c <;> try simp only [qa] at c
  rotate_left
  ·omega
  refine ax (am (aq (bh (sR (mV rfl (mV rfl (ae (bf rfl rfl (slI r0 (by omega) (by omega))) (lR rfl rfl rfl ?_))))))))
  refine mV rfl (mV rfl (ae (bf rfl rfl (slI r1 (by omega) (by omega))) (lR rfl rfl rfl (bN ig rfl rfl (nS ?_)))))
  refine bm z rfl ?_ ?_ <;> clear z <;> intro c z <;> try simp only [qa] at c
  ·refine sR (mB rfl (nS ?_))
   exact rR z rfl rfl rfl
  ·refine ax (cp (am (aw (mV rfl (bN em rfl rfl (mV rfl (bp (cq ?_))))))))
   have s := db r0
   have o : wr (a0 + 1) = a0 + 1 := de (by omega) (by omega)
   erw [o]
   exact wC (ih   (by omega) (by omega) z) rfl

theorem af7 {x0 x1 : List Int} {v0 v1 : PV} (r0 : (tSl tI).R x0 v0) (r1 : (tSl tI).R x1 v1) : FnR Tryz.prog 32 [v0, v1] (vb (bt x0 x1)) := by
 refine fnS (R := RF32) bl0 (fun _ h => h) rfl fun n z => ?_
 unfold bt at z
 refine sR (mB rfl (nS (aq (sR (mV rfl (ae (cv rfl (cm r0 Tryz.underlying29 _)) (mV rfl (ae (cv rfl (cm r1 Tryz.underlying29 _)) ?_))))))))
 refine bN ig rfl rfl (nS ?_)
 refine bm z rfl ?_ ?_ <;> clear z <;> intro a0 z <;> have a1 := a0 <;> try simp only [qa] at a1
 ·refine sR (mB rfl (nS ?_))
  exact rR z rfl rfl rfl
 ·refine ax (am (aq (sR (mI rfl (nS (bh ?_))))))
  refine wC (rk r0 r1 a0 ?_  rfl (by omega) z) rfl
  ·intro  z
   refine fx (am (sR (mB rfl (nS ?_))))
   exact rR z rfl rfl rfl

def RF6 (n : Bool) (r : PV) : Prop := r = vb n
theorem dc5 {x0 : af} {x1 : Int} {x2 : bb} {v0 v2 : PV} (r0 : af.t.R x0 v0) (r2 : bb.t.R x2 v2) : FnR Tryz.prog 6 [v0, vi x1, v2] (vb (kv x0 x1 x2)) := by
 refine fnS (R := RF6) cu9 (fun _ h => h) rfl fun n z => ?_
 unfold kv at z
 refine sR (ae (ej rfl (TR.cnt af.t r0)) (ae (ej rfl (TR.cnt bb.t r2)) (mB rfl (nS (aq (sR (lD r0 rfl rfl rfl ?_)))))))
 obtain ⟨d0, e9, z⟩ := bq z
 have d9 := cs5  r0 
 rw [e9] at d9
 refine cL d9 rfl rfl (ak (TR.clo af.t r0) bc) (ae (jp rfl) (mV rfl ?_))
 refine bw 5 (d := 31) (v := vb ((!d0) || (decide (40 < (x2.Args.length : Int))))) ?_ ?_
 ·intro S Q r
  cases d7 : (!d0)
  ·intro k
   have b5 := d7
   try simp only [qa] at b5
   obtain ⟨h2, f8, b0⟩ := bb.g_Args r2
   refine ai rfl rfl (cg rfl f8) (ai rfl rfl (ca rfl (TR.cnt (tSl aj6) b0) (TR.agg (tSl aj6) b0)) (ai rfl rfl (cv rfl (cm b0 Tryz.underlying43 _)) (ai rfl rfl (bv rfl rfl ke) ?_)))
   exact gK rfl rfl rfl rfl rfl k
  ·exact gN 4 rfl rfl rfl rfl rfl rfl
 refine nS ?_
 refine bm z rfl ?_ ?_ <;> clear z <;> intro c z <;> try simp only [qa] at c
 ·refine sR ?_
  obtain ⟨h4, e7, z⟩ := bq z
  have f2 := bg3   
  rw [e7] at f2
  refine cL f2 rfl rfl bc (mV rfl (nS ?_))
  exact rR z rfl rfl rfl
 ·refine ax (am (sR (lD r0 rfl rfl rfl (mV rfl ?_))))
  obtain ⟨a5, e6, z⟩ := bq z
  have f0 := be4 (x1 := x1) r0 
  rw [e6] at f0
  refine cL f0 rfl rfl (ak (TR.clo af.t r0) (ak rfl bc)) (mV rfl (xT rfl rfl (xT rfl rfl (mV rfl (mV rfl (nR (lD r0 rfl rfl rfl (mV rfl ?_))))))))
  obtain ⟨a6, e1, z⟩ := bq z
  have e2 := ap2 (x1 := x1) r0 
  rw [e1] at e2
  refine cL e2 rfl rfl (ak (TR.clo af.t r0) (ak rfl bc)) (mV rfl (xT rfl rfl (xT rfl rfl (mV rfl (mV rfl (nR (lD r0 rfl rfl rfl (mV rfl ?_))))))))
  obtain ⟨a0, f1, z⟩ := bq z
  obtain ⟨h8, h3, g7, f3, c8, c2, b9⟩ := co1 (x1 := x1) r0 
  rw [f1] at c8 c2 b9
  refine cL f3 rfl rfl (ak (TR.clo af.t r0) (ak rfl bc)) (mV rfl (xT rfl rfl (xT rfl rfl (xT rfl rfl (mV rfl (mV rfl (mV rfl (nR ?_))))))))
  refine lD r0 rfl rfl rfl (mV rfl ?_)
  obtain ⟨a1, d2, z⟩ := bq z
  obtain ⟨g9, h5, h6, g1, c7, a7, b2⟩ := cl3 (x1 := x1) r0 
  rw [d2] at c7 a7 b2
  refine cL g1 rfl rfl (ak (TR.clo af.t r0) (ak rfl bc)) (mV rfl (xT rfl rfl (xT rfl rfl (xT rfl rfl (mV rfl (mV rfl (mV rfl (nR ?_))))))))
  refine lD r0 rfl rfl rfl (mV rfl ?_)
  obtain ⟨a2, d3, z⟩ := bq z
  obtain ⟨h0, h7, h1, f6, b6, b8, c0⟩ := cl2 (x1 := x1) r0 (by first | exact bu7 (by assumption) (And.left (by assumption)) | exact bu7 (by assumption) (by assumption))
  rw [d3] at b6 b8 c0
  refine cL f6 rfl rfl (ak (TR.clo af.t r0) (ak rfl bc)) (mV rfl (xT rfl rfl (xT rfl rfl (xT rfl rfl (mV rfl (mV rfl (mV rfl (nR ?_))))))))
  refine lD r0 rfl rfl rfl (mV rfl ?_)
  obtain ⟨a3, d5, z⟩ := bq z
  obtain ⟨h9, g6, g8, g4, c1, a9, b7⟩ := co7 (x1 := x1) r0 (by first | exact bu7 (by assumption) (And.left (by assumption)) | exact bu7 (by assumption) (by assumption))
  rw [d5] at c1 a9 b7
  refine cL g4 rfl rfl (ak (TR.clo af.t r0) (ak rfl bc)) (mV rfl (xT rfl rfl (xT rfl rfl (xT rfl rfl (mV rfl (mV rfl (mV rfl (nS ?_))))))))
  refine aq (sR (mV rfl (mV rfl (bN ig rfl rfl (mV rfl ?_)))))
  refine bw 4 (d := 80) (v := vb ((!decide (a5.1 = a6.1)) || (!decide (a5.2 = a6.2)))) ?_ ?_
  ·intro S Q r
   cases d8 : (!decide (a5.1 = a6.1))
   ·intro k
    have b1 := d8
    try simp only [qa] at b1
    refine ai rfl rfl (av rfl) (ai rfl rfl (av rfl) (ai rfl rfl (bv rfl rfl ig) ?_))
    exact gK rfl rfl rfl rfl rfl k
   ·exact gN 3 rfl rfl rfl rfl rfl rfl
  refine mV rfl ?_
  refine bw 8 (d := 89) (v := vb (((!decide (a5.1 = a6.1)) || (!decide (a5.2 = a6.2))) || (!decide ((kp x0 x2) = (ld x0 x2))))) ?_ ?_
  ·intro S Q r
   cases c9 : ((!decide (a5.1 = a6.1)) || (!decide (a5.2 = a6.2)))
   ·intro k
    have a8 := c9
    try simp only [qa] at a8
    refine ai rfl rfl (ca rfl (TR.cnt af.t r0) (TR.agg af.t r0)) (ai rfl rfl (ca rfl (TR.cnt bb.t r2) (TR.agg bb.t r2)) ?_)
    have g3 := cp8  r0 r2 
    refine jm rfl rfl (nw rfl rfl (ak (TR.clo af.t r0) (ak (TR.clo bb.t r2) bc)) g3) (ai rfl rfl (ca rfl (TR.cnt af.t r0) (TR.agg af.t r0)) (ai rfl rfl (ca rfl (TR.cnt bb.t r2) (TR.agg bb.t r2)) ?_))
    have f5 := cn1  r0 r2 
    refine jm rfl rfl (nw rfl rfl (ak (TR.clo af.t r0) (ak (TR.clo bb.t r2) bc)) f5) (ai rfl rfl (bv rfl rfl ig) ?_)
    exact gK rfl rfl rfl rfl rfl k
   ·exact gN 7 rfl rfl rfl rfl rfl rfl
  refine nS ?_
  refine bm z rfl ?_ ?_ <;> clear z <;> intro c z <;> try simp only [qa] at c
  ·refine sR (mB rfl (nS ?_))
   exact rR z rfl rfl rfl
  ·refine ax (am (sR (mV rfl (mV rfl ?_))))
   obtain ⟨a4, e5, z⟩ := bq z
   have e4 := bh3  c8 c7 
   rw [e5] at e4
   refine cL e4 rfl rfl (ak (TR.clo (tSl aa.t) c8) (ak (TR.clo (tSl aa.t) c7) bc)) (mV rfl ?_)
   refine bw 4 (d := 97) (v := vb (a4 && (bt a0.2.1 a1.2.1))) ?_ ?_
   ·intro S Q r
    cases e0 : a4
    ·exact gN 3 rfl rfl rfl rfl rfl rfl
    ·intro k
     have c3 := e0
     try simp only [qa] at c3
     refine ai rfl rfl (av rfl) (ai rfl rfl (av rfl) ?_)
     have f4 := af7  c2 a7 
     refine jm rfl rfl (nw rfl rfl (ak (TR.clo (tSl tI) c2) (ak (TR.clo (tSl tI) a7) bc)) f4) ?_
     exact gK rfl rfl rfl rfl rfl k
   refine mV rfl ?_
   refine bw 4 (d := 102) (v := vb ((a4 && (bt a0.2.1 a1.2.1)) && (bt a0.2.2 a1.2.2))) ?_ ?_
   ·intro S Q r
    cases d1 : (a4 && (bt a0.2.1 a1.2.1))
    ·exact gN 3 rfl rfl rfl rfl rfl rfl
    ·intro k
     have b3 := d1
     try simp only [qa] at b3
     refine ai rfl rfl (av rfl) (ai rfl rfl (av rfl) ?_)
     have g5 := af7  b9 b2 
     refine jm rfl rfl (nw rfl rfl (ak (TR.clo (tSl tI) b9) (ak (TR.clo (tSl tI) b2) bc)) g5) ?_
     exact gK rfl rfl rfl rfl rfl k
   refine mV rfl ?_
   refine bw 4 (d := 107) (v := vb (((a4 && (bt a0.2.1 a1.2.1)) && (bt a0.2.2 a1.2.2)) && (dv a2.1 a3.1))) ?_ ?_
   ·intro S Q r
    cases d4 : ((a4 && (bt a0.2.1 a1.2.1)) && (bt a0.2.2 a1.2.2))
    ·exact gN 3 rfl rfl rfl rfl rfl rfl
    ·intro k
     have b4 := d4
     try simp only [qa] at b4
     refine ai rfl rfl (av rfl) (ai rfl rfl (av rfl) ?_)
     have g2 := bh3  b6 c1 
     refine jm rfl rfl (nw rfl rfl (ak (TR.clo (tSl aa.t) b6) (ak (TR.clo (tSl aa.t) c1) bc)) g2) ?_
     exact gK rfl rfl rfl rfl rfl k
   refine mV rfl ?_
   refine bw 4 (d := 112) (v := vb ((((a4 && (bt a0.2.1 a1.2.1)) && (bt a0.2.2 a1.2.2)) && (dv a2.1 a3.1)) && (bt a2.2.1 a3.2.1))) ?_ ?_
   ·intro S Q r
    cases e3 : (((a4 && (bt a0.2.1 a1.2.1)) && (bt a0.2.2 a1.2.2)) && (dv a2.1 a3.1))
    ·exact gN 3 rfl rfl rfl rfl rfl rfl
    ·intro k
     have c5 := e3
     try simp only [qa] at c5
     refine ai rfl rfl (av rfl) (ai rfl rfl (av rfl) ?_)
     have f7 := af7  b8 a9 
     refine jm rfl rfl (nw rfl rfl (ak (TR.clo (tSl tI) b8) (ak (TR.clo (tSl tI) a9) bc)) f7) ?_
     exact gK rfl rfl rfl rfl rfl k
   refine mV rfl ?_
   refine bw 4 (d := 117) (v := vb (((((a4 && (bt a0.2.1 a1.2.1)) && (bt a0.2.2 a1.2.2)) && (dv a2.1 a3.1)) && (bt a2.2.1 a3.2.1)) && (bt a2.2.2 a3.2.2))) ?_ ?_
   ·intro S Q r
    cases e8 : ((((a4 && (bt a0.2.1 a1.2.1)) && (bt a0.2.2 a1.2.2)) && (dv a2.1 a3.1)) && (bt a2.2.1 a3.2.1))
    ·exact gN 3 rfl rfl rfl rfl rfl rfl
    ·intro k
     have c6 := e8
     try simp only [qa] at c6
     refine ai rfl rfl (av rfl) (ai rfl rfl (av rfl) ?_)
     have g0 := af7  c0 b7 
     refine jm rfl rfl (nw rfl rfl (ak (TR.clo (tSl tI) c0) (ak (TR.clo (tSl tI) b7) bc)) g0) ?_
     exact gK rfl rfl rfl rfl rfl k
   refine mV rfl ?_
   refine bw 2 (d := 120) (v := vb ((((((a4 && (bt a0.2.1 a1.2.1)) && (bt a0.2.2 a1.2.2)) && (dv a2.1 a3.1)) && (bt a2.2.1 a3.2.1)) && (bt a2.2.2 a3.2.2)) && (oq))) ?_ ?_
   ·intro S Q r
    cases d6 : (((((a4 && (bt a0.2.1 a1.2.1)) && (bt a0.2.2 a1.2.2)) && (dv a2.1 a3.1)) && (bt a2.2.1 a3.2.1)) && (bt a2.2.2 a3.2.2))
    ·exact gN 1 rfl rfl rfl rfl rfl rfl
    ·intro k
     have c4 := d6
     try simp only [qa] at c4
     have f9 := bg3   
     refine jm rfl rfl (nw rfl rfl bc f9) ?_
     exact gK rfl rfl rfl rfl rfl k
   refine mV rfl (nS ?_)
   exact rR z rfl rfl rfl

end Go.Proofs.YtmonnlkagniolaaGreat
