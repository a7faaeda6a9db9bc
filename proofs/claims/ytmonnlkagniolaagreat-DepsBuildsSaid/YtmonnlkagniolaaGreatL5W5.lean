/-
 The code of each function does what its plain program says.
-/
import Derived.Test.YtmonnlkagniolaaGreatL5W4
set_option linter.unusedVariables false
set_option linter.unusedSimpArgs false
set_option maxRecDepth 100000
namespace Go.Proofs.YtmonnlkagniolaaGreat
open Go Go.Pb Go.RowKit
def RF16 (res : (List Int)) (r : PV) : Prop := (tSl tI).R res r
theorem xz {S : List Fr} {res : (List Int)} {x0 : ae} {x1 : ba} {e1 : bw × Bool} {e7 e9 f4 f1 f3 f0 f2 e8 g0 h7 : PV} {e6 e3 e4 e5 : Nat} (hA : AB x0) (hc : x1.Cond.length ≤ 1000) (h6 : (decide (x1.Table = (-1))) = false) (j4 : gq x0 x1 = e1) (j3 : e1.1.Keys.length ≤ 24 ∧ e1.1.Actions.length ≤ 24) (i0 : (!e1.2) = false) (i4 : (tSl fb.t).R e1.1.Keys h7) {K0 : ak → (List Int)}
  (j6 : ∀ {zE103 : ak} {a5 a2 a0 a3 a7 a6 a4 a1 a9 : PV} {b5 : List PV} (b3 : (tSl bz.t).R zE103.p.Headers a5) (b0 : (tSl az.t).R zE103.p.Metadata a2) (a8 : (tSl cq.t).R zE103.p.Registers a0) (b2 : (tSl bm.t).R zE103.p.Actions a3) (b6 : (tSl bw.t).R zE103.p.Tables a7) (b7 : (tSl bt.t).R zE103.p.States a6) (b4 : (tSl aw.t).R zE103.p.Control a4) (b1 : (tSl tI).R zE103.p.Deparser a1) (c3 : All2 tI.R zE103.cells b5) (c2 : isL a9 = true) (b9 : zE103.cells.length ≤ 4611686018427387904) (b8 : Wri a9 b5) (j8 : zE103.cells.length ≤ 24) {h : Heap} (M0 : Mem h [⟨a9, 3, 1, b5⟩, ⟨.op e4 e5 0, 59, 6, [g0]⟩, ⟨.op e6 e3 0, 118, 10, [.agg [vs zE103.p.Name, a5, a2, a0, a3, a7, a6, a4, a1, a9]]⟩]), K0 zE103 = res → PX Tryz.prog 0 S (QR Tryz.prog [(4, none)] (RF16 res)) [(2, .fp (.agg [vs x0.Name, e7, e9, f4, f1, f3, f0, f2, e8])), (5, .op e6 e3 0), (6, .op e4 e5 0)] h) :
  ∀ {m : Nat} {d7 : Int} {zE103 : ak} {a5 a2 a0 a3 a7 a6 a4 a1 a9 : PV} {b5 : List PV} (b3 : (tSl bz.t).R zE103.p.Headers a5) (b0 : (tSl az.t).R zE103.p.Metadata a2) (a8 : (tSl cq.t).R zE103.p.Registers a0) (b2 : (tSl bm.t).R zE103.p.Actions a3) (b6 : (tSl bw.t).R zE103.p.Tables a7) (b7 : (tSl bt.t).R zE103.p.States a6) (b4 : (tSl aw.t).R zE103.p.Control a4) (b1 : (tSl tI).R zE103.p.Deparser a1) (c3 : All2 tI.R zE103.cells b5) (c2 : isL a9 = true) (b9 : zE103.cells.length ≤ 4611686018427387904) (b8 : Wri a9 b5) (j5 : m = Int.toNat ((e1.1.Keys.length : Int) - d7)) (h8 : 0 ≤ d7) (g4 : (zE103.cells.length : Int) ≤ d7) (g5 : d7 ≤ 24) {h : Heap} (M0 : Mem h [⟨a9, 3, 1, b5⟩, ⟨.op e4 e5 0, 59, 6, [g0]⟩, ⟨.op e6 e3 0, 118, 10, [.agg [vs zE103.p.Name, a5, a2, a0, a3, a7, a6, a4, a1, a9]]⟩]), lu e1 K0 m d7 zE103 = res → RC Tryz.prog (.loop cv5) S (QR Tryz.prog [(4, none)] (RF16 res)) [(39, vi d7), (38, vi (e1.1.Keys.length : Int)), (37, h7), (6, .op e4 e5 0), (5, .op e6 e3 0), (2, .fp (.agg [vs x0.Name, e7, e9, f4, f1, f3, f0, f2, e8]))] h := by
 have hc' := hc
 try simp only [qa] at hc'
 have h0 := h6
 try simp only [qa] at h0
 have h4 := i0
 try simp only [qa] at h4
 intro m
 induction m with
 | zero =>
  intro d7 zE103 a5 a2 a0 a3 a7 a6 a4 a1 a9 b5 b3 b0 a8 b2 b6 b7 b4 b1 c3 c2 b9 b8 j5 h8 g4 g5 h M0 z
  rw [lu] at z
  refine bv (sR (bN cn rfl rfl (nS (am ?_))))
  refine bp rfl ?_ ?_ <;> intro c <;> try simp only [qa] at c
  ·omega
  refine dg (dq (dc ?_))
  exact wP (j6 (zE103 := ({ p := zE103.p, cells := zE103.cells } : ak)) b3 b0 a8 b2 b6 b7 b4 b1 c3 c2 b9 b8 (by omega) (Mem.sub M0 (.cons_cons _ (.cons_cons _ (.cons_cons _ .slnil)))) z) rfl
 | succ m ih =>
  intro d7 zE103 a5 a2 a0 a3 a7 a6 a4 a1 a9 b5 b3 b0 a8 b2 b6 b7 b4 b1 c3 c2 b9 b8 j5 h8 g4 g5 h M0 z
  rw [lu] at z
  refine bv (sR (bN cn rfl rfl (nS (am ?_))))
  refine bp rfl ?_ ?_ <;> intro c <;> try simp only [qa] at c
  rotate_left
  ·omega
  refine ax (ap (am (bf (sR ?_))))
  obtain ⟨g3, i9, h3⟩ := de (i := d7) i4 (by omega) (by omega)
  refine af (bd rfl rfl i9) (lD h3 rfl rfl rfl ?_)
  refine fa (x := .agg [vi 0, vi 0, vi 0]) M0 rfl rfl (fun g9 h1 j7 i8 => ?_)
  refine ek (k := 0) (v := g3) i8 rfl rfl rfl (TR.cnt fb.t h3) (fun h5 g2 => ?_)
  replace g2 : Mem h5 [⟨.op g9 h1 0, 126, 3, [g3]⟩, ⟨a9, 3, 1, b5⟩, ⟨.op e4 e5 0, 59, 6, [g0]⟩, ⟨.op e6 e3 0, 118, 10, [.agg [vs zE103.p.Name, a5, a2, a0, a3, a7, a6, a4, a1, a9]]⟩] := g2
  refine nS (fc (cw (mV rfl (cx (cw (af (bg rfl) (cx (cw ?_))))))))
  obtain ⟨i2, i6, i3⟩ := fb.g_Field h3
  refine af (cg (k := 0) g2 rfl rfl i6) (cx (cw (af (v := .fs true [i2]) (gb rfl (all_cons (TR.cnt aa.t i3) ji)) ?_)))
  have i7 : (tSl aa.t).R ([(ix e1.1.Keys d7).Field] : List aa) (.fs true [i2]) := pd ⟨i3, trivial⟩ (by simp)
  refine cx ?_
  have j1 : Mem h5 [⟨.op e6 e3 0, 118, 10, [.agg [vs zE103.p.Name, a5, a2, a0, a3, a7, a6, a4, a1, a9]]⟩, ⟨a9, 3, 1, b5⟩, ⟨.op g9 h1 0, 126, 3, [g3]⟩, ⟨.op e4 e5 0, 59, 6, [g0]⟩] := (Mem.front (k := 3) (Mem.front (k := 1) g2 rfl) rfl)
  obtain ⟨h2, g7, z⟩ := br z
  obtain ⟨j2, i5, h9, g8⟩ := av5 (x0 := ({ p := zE103.p, cells := zE103.cells } : ak)) (x1 := ([(ix e1.1.Keys d7).Field] : List aa)) (x2 := ([] : List Int)) (x3 := ([] : List Int)) i7 ft ft b3 b0 a8 b2 b6 b7 b4 b1 c3 c2 b9 b8 j1 (by (((try dsimp only); (try simp only [List.length_append, List.length_cons, List.length_nil]); omega)))
  rw [g7] at g8
  obtain ⟨d8, c9, c6, d4, d9, e0, d3, d0, e2, f9, j0, c8, c7, c4, d1, d5, d6, d2, c5, f6, f7, f8, f5, g1⟩ := g8
  replace g1 := g1.symm; subst g1
  refine gu rfl rfl h9 ?_
  have g6 := ah4 g7; try simp only [List.length_cons, List.length_nil] at g6; try dsimp only at g6
  refine kn (cy (ap (av (bN dp rfl rfl (mV rfl (bn ?_))))))
  have i1 : Mem i5 [⟨e2, 3, 1, f9⟩, ⟨.op e4 e5 0, 59, 6, [g0]⟩, ⟨.op e6 e3 0, 118, 10, [.agg [vs h2.p.Name, d8, c9, c6, d4, d9, e0, d3, d0, e2]]⟩, ⟨.op g9 h1 0, 126, 3, [g3]⟩] := (Mem.front (k := 2) (Mem.front (k := 3) (Mem.front (k := 0) j0 rfl) rfl) rfl)
  refine cv ?_
  have s := da i4
  have o : wr (d7 + 1) = d7 + 1 := dj (by omega) (by omega)
  erw [o]
  exact wC (ih (zE103 := ({ p := h2.p, cells := h2.cells } : ak)) c8 c7 c4 d1 d5 d6 d2 c5 f6 f7 f8 f5 (by omega) (by omega) (by omega) (by omega) (Mem.sub i1 (.cons_cons _ (.cons_cons _ (.cons_cons _ (.cons _ .slnil))))) z) rfl

theorem yv {S : List Fr} {res : (List Int)} {x0 : ae} {x1 : ba} {f1 : bw × Bool} {b7 : ak} {g2 g4 g9 g6 g8 g5 g7 g3 c8 c6 c5 c9 d2 d5 d0 c7 e7 : PV} {f2 : List PV} {j6 : PV} {h1 h0 : Nat} (hA : AB x0) (hc : x1.Cond.length ≤ 1000) (j4 : (decide (x1.Table = (-1))) = false) (l2 : gq x0 x1 = f1) (l0 : f1.1.Keys.length ≤ 24 ∧ f1.1.Actions.length ≤ 24) (j9 : (!f1.2) = false) (i8 : ae.t.R x0 (.agg [vs x0.Name, g2, g4, g9, g6, g8, g5, g7, g3])) (f8 : (tSl bz.t).R b7.p.Headers c8) (f4 : (tSl az.t).R b7.p.Metadata c6) (f3 : (tSl cq.t).R b7.p.Registers c5) (f7 : (tSl bm.t).R b7.p.Actions c9) (g1 : (tSl bw.t).R b7.p.Tables d2) (g0 : (tSl bt.t).R b7.p.States d5) (f9 : (tSl aw.t).R b7.p.Control d0) (f5 : (tSl tI).R b7.p.Deparser c7) (i0 : isL e7 = true) (i1 : b7.cells.length ≤ 4611686018427387904) (h9 : Wri e7 f2) (k4 : b7.cells.length ≤ 24) (j5 : (tSl tI).R f1.1.Actions j6) {K2 : ak → (List Int)}
  (l4 : ∀ {zE103 : ak} {a5 a2 a0 a3 a7 a6 a4 a1 b5 : PV} {b8 : List PV} (b2 : (tSl bz.t).R zE103.p.Headers a5) (a9 : (tSl az.t).R zE103.p.Metadata a2) (a8 : (tSl cq.t).R zE103.p.Registers a0) (b1 : (tSl bm.t).R zE103.p.Actions a3) (b4 : (tSl bw.t).R zE103.p.Tables a7) (b6 : (tSl bt.t).R zE103.p.States a6) (b3 : (tSl aw.t).R zE103.p.Control a4) (b0 : (tSl tI).R zE103.p.Deparser a1) (c4 : All2 tI.R zE103.cells b8) (c3 : isL b5 = true) (c2 : zE103.cells.length ≤ 4611686018427387904) (b9 : Wri b5 b8) (l8 : zE103.cells.length ≤ 960000) {h : Heap} (M0 : Mem h [⟨b5, 3, 1, b8⟩, ⟨.op h1 h0 0, 118, 10, [.agg [vs zE103.p.Name, a5, a2, a0, a3, a7, a6, a4, a1, b5]]⟩]), K2 zE103 = res → PX Tryz.prog 2 S (QR Tryz.prog [(4, none)] (RF16 res)) [(5, .op h1 h0 0)] h) :
  ∀ {m : Nat} {f0 : Int} {zE103 : ak} {a5 a2 a0 a3 a7 a6 a4 a1 b5 : PV} {b8 : List PV} (b2 : (tSl bz.t).R zE103.p.Headers a5) (a9 : (tSl az.t).R zE103.p.Metadata a2) (a8 : (tSl cq.t).R zE103.p.Registers a0) (b1 : (tSl bm.t).R zE103.p.Actions a3) (b4 : (tSl bw.t).R zE103.p.Tables a7) (b6 : (tSl bt.t).R zE103.p.States a6) (b3 : (tSl aw.t).R zE103.p.Control a4) (b0 : (tSl tI).R zE103.p.Deparser a1) (c4 : All2 tI.R zE103.cells b8) (c3 : isL b5 = true) (c2 : zE103.cells.length ≤ 4611686018427387904) (b9 : Wri b5 b8) (k9 : m = Int.toNat ((f1.1.Actions.length : Int) - f0)) (k0 : 0 ≤ f0) (i7 : (zE103.cells.length : Int) ≤ 24 + 39000 * f0) (i6 : f0 ≤ 24) {h : Heap} (M0 : Mem h [⟨b5, 3, 1, b8⟩, ⟨.op h1 h0 0, 118, 10, [.agg [vs zE103.p.Name, a5, a2, a0, a3, a7, a6, a4, a1, b5]]⟩]), kg x0 f1 K2 m f0 zE103 = res → RC Tryz.prog (.loop cz8) S (QR Tryz.prog [(4, none)] (RF16 res)) [(52, vi f0), (51, vi (f1.1.Actions.length : Int)), (50, j6), (5, .op h1 h0 0), (2, .fp (.agg [vs x0.Name, g2, g4, g9, g6, g8, g5, g7, g3]))] h := by
 have hc' := hc
 try simp only [qa] at hc'
 have i9 := j4
 try simp only [qa] at i9
 have j0 := j9
 try simp only [qa] at j0
 intro m
 induction m with
 | zero =>
  intro f0 zE103 a5 a2 a0 a3 a7 a6 a4 a1 b5 b8 b2 a9 a8 b1 b4 b6 b3 b0 c4 c3 c2 b9 k9 k0 i7 i6 h M0 z
  rw [kg] at z
  refine bv (sR (bN cn rfl rfl (nS (am ?_))))
  refine bp rfl ?_ ?_ <;> intro c <;> try simp only [qa] at c
  ·omega
  refine dg (dq (dc ?_))
  exact wP (l4 (zE103 := ({ p := zE103.p, cells := zE103.cells } : ak)) b2 a9 a8 b1 b4 b6 b3 b0 c4 c3 c2 b9 (by omega) (Mem.sub M0 (.cons_cons _ (.cons_cons _ .slnil))) z) rfl
 | succ m ih =>
  intro f0 zE103 a5 a2 a0 a3 a7 a6 a4 a1 b5 b8 b2 a9 a8 b1 b4 b6 b3 b0 c4 c3 c2 b9 k9 k0 i7 i6 h M0 z
  rw [kg] at z
  refine bv (sR (bN cn rfl rfl (nS (am ?_))))
  refine bp rfl ?_ ?_ <;> intro c <;> try simp only [qa] at c
  rotate_left
  ·omega
  refine ax (ap (am (bf (sR (af (bd rfl rfl (slI j5 (by omega) (by omega))) (lR rfl rfl rfl (mV rfl (nS ?_))))))))
  refine fc (cw (mV rfl (cx (cw (lD i8 rfl rfl rfl (cx (cw (mV rfl ?_))))))))
  refine cx (cw ?_)
  obtain ⟨h2, i4, z⟩ := br z
  obtain ⟨l7, l5, l6, k8, j3, j7, k3⟩ := dg1 (x1 := (ix f1.1.Actions f0)) i8 
  rw [i4] at j3 j7 k3
  have l3 : h2.1.length ≤ 13000 ∧ h2.2.1.length ≤ 13000 ∧ h2.2.2.length ≤ 13000 := yg i4
  refine cL k8 rfl rfl (aj (TR.clo ae.t i8) (aj rfl bh)) (cx (cw (xT rfl rfl (cx (cw (xT rfl rfl (cx (cw ?_))))))))
  refine xT rfl rfl (cx ?_)
  have k7 : Mem h [⟨.op h1 h0 0, 118, 10, [.agg [vs zE103.p.Name, a5, a2, a0, a3, a7, a6, a4, a1, b5]]⟩, ⟨b5, 3, 1, b8⟩] := (Mem.front (k := 1) (Mem.front (k := 0) M0 rfl) rfl)
  obtain ⟨j1, i5, z⟩ := br z
  obtain ⟨l1, k5, j8, i2⟩ := av5 (x0 := ({ p := zE103.p, cells := zE103.cells } : ak)) (x1 := h2.1) (x2 := h2.2.1) (x3 := h2.2.2) j3 j7 k3 b2 a9 a8 b1 b4 b6 b3 b0 c4 c3 c2 b9 k7 (by omega)
  rw [i5] at i2
  obtain ⟨e4, d8, d3, e5, e9, e8, e2, d9, f6, h4, k6, e0, d4, d1, d7, e6, e3, e1, d6, h6, h3, h5, h7, h8⟩ := i2
  replace h8 := h8.symm; subst h8
  refine gu rfl rfl j8 ?_
  have i3 := ah4 i5; try simp only [List.length_cons, List.length_nil] at i3; try dsimp only at i3
  refine kn (cy (ap (av (bN dp rfl rfl (mV rfl (bn ?_))))))
  have j2 : Mem k5 [⟨f6, 3, 1, h4⟩, ⟨.op h1 h0 0, 118, 10, [.agg [vs j1.p.Name, e4, d8, d3, e5, e9, e8, e2, d9, f6]]⟩] := (Mem.front (k := 1) (Mem.front (k := 0) k6 rfl) rfl)
  refine cv ?_
  have s := da j5
  have o : wr (f0 + 1) = f0 + 1 := dj (by omega) (by omega)
  erw [o]
  exact wC (ih (zE103 := ({ p := j1.p, cells := j1.cells } : ak)) e0 d4 d1 d7 e6 e3 e1 d6 h6 h3 h5 h7 (by omega) (by omega) (by omega) (by omega) (Mem.sub j2 (.cons_cons _ (.cons_cons _ .slnil))) z) rfl

theorem dm7 {x0 : ae} {x1 : ba} {v0 v1 : PV} (r0 : ae.t.R x0 v0) (r1 : ba.t.R x1 v1) (hA : AB x0) (hc : x1.Cond.length ≤ 1000) : ∃ r, FnR Tryz.prog 16 [v0, v1] r ∧ (tSl tI).R (md x0 x1) r := by
 refine fnT (R := RF16) di2 rfl fun res z => ?_
 unfold md at z
 refine sR (af (dw rfl (TR.cnt ae.t r0)) (af (dw rfl (TR.cnt ba.t r1)) (af (v := nilS) (ay rfl) (nR (lD r0 rfl rfl rfl ?_)))))
 obtain ⟨a0, a2, a8, a4, a7, a3, a6, a1, q4, e2, f3, e6, e5, d9, f2, e9, f0⟩ := r0
 subst q4
 refine af (v := .agg [vs x0.Name, a0, a2, a8, a4, a7, a3, a6, a1, nilS]) (mr (cs := [vs x0.Name, a0, a2, a8, a4, a7, a3, a6, a1, nilS]) rfl rfl) ?_
 refine au5 (x := .agg [vs x0.Name, a0, a2, a8, a4, a7, a3, a6, a1, nilS]) (Mem.nil ⟨0, []⟩) rfl rfl (fun j7 j4 o7 m5 => ?_)
 refine mV rfl (nS (am (sR (fL rfl (ba.g_Table r1) rfl rfl (bN (dt (b := -1)) rfl rfl (nS ?_))))))
 refine cd z rfl ?_ ?_ <;> clear z <;> intro i5 z <;> have l4 := i5 <;> try simp only [qa] at l4
 ·refine am (aj1 (mV rfl (gL (ba.g_Cond r1) rfl rfl rfl fun s6 l9 => ?_)))
  obtain ⟨m7, k4, z⟩ := br z
  obtain ⟨s2, p1, m1⟩ := ca8  l9 (by assumption)
  rw [k4] at m1
  have q9 : m7.length ≤ x1.Cond.length := by rw [← k4]; exact ry _
  refine cL p1 rfl rfl (aj (TR.clo (tSl ah.t) l9) bh) (gL (ba.g_Cond r1) rfl rfl rfl fun s7 l8 => ?_)
  obtain ⟨n0, k6, z⟩ := br z
  obtain ⟨r6, q3, n1⟩ := cf8  l8 (by assumption)
  rw [k6] at n1
  have q7 : n0.length ≤ x1.Cond.length := by rw [← k6]; exact rd _
  refine cL q3 rfl rfl (aj (TR.clo (tSl ah.t) l8) bh) ?_
  refine bn (ba5 ?_)
  have p9 := ou (sz := 1) (es := []) m5 3 (.inl ⟨none, rfl, rfl⟩) (by simp)
  have o6 : Mem o7 [⟨.op j7 j4 0, 118, 10, [.agg [vs x0.Name, a0, a2, a8, a4, a7, a3, a6, a1, nilS]]⟩, ⟨nilS, 3, 1, ([] : List PV)⟩] := (Mem.front (k := 1) (Mem.front (k := 0) p9 rfl) rfl)
  obtain ⟨l3, l2, z⟩ := br z
  obtain ⟨q8, o8, n3, l0⟩ := av5 (x0 := ({ p := x0, cells := ([] : List Int) } : ak)) (x1 := m7) (x2 := n0) (x3 := ([] : List Int)) m1 n1 ft e2 f3 e6 e5 d9 f2 e9 f0 (show All2 tI.R ([] : List Int) [] from trivial) rfl (by simp) (.inl rfl) o6 (by (((try dsimp only); (try simp only [List.length_append, List.length_cons, List.length_nil]); omega)))
  rw [l2] at l0
  obtain ⟨f9, e8, d4, f6, g2, g1, f4, e0, h3, i3, p3, e7, d5, c7, e1, f7, f5, e3, d7, i4, i0, i1, i2, i9⟩ := l0
  replace i9 := i9.symm; subst i9
  refine gu rfl rfl n3 ?_
  have k9 := ah4 l2; try simp only [List.length_cons, List.length_nil] at k9; try dsimp only at k9
  refine kn (ap (am (fc (cw (mV rfl (cx ?_))))))
  have p4 : Mem o8 [⟨.op j7 j4 0, 118, 10, [.agg [vs l3.p.Name, f9, e8, d4, f6, g2, g1, f4, e0, h3]]⟩, ⟨h3, 3, 1, i3⟩] := (Mem.front (k := 1) (Mem.front (k := 1) p3 rfl) rfl)
  obtain ⟨r5, m8, z⟩ := br z
  obtain ⟨r3, r4, m9, k8⟩ := be9 (x0 := ({ p := l3.p, cells := l3.cells } : ak)) e7 d5 c7 e1 f7 f5 e3 d7 i4 i0 i1 i2 p4 (by omega)
  rw [m8] at k8
  obtain ⟨n6, o0, p2, j9, j2, j1, n4, i8⟩ := k8
  replace i8 := i8.symm; subst i8
  refine gu rfl rfl m9 (cw (mV rfl (cx (kn (ap ?_)))))
  obtain ⟨r7, p5, q2⟩ := qc (P := Tryz.prog) (k := 0) (t := tI) p2 rfl j2 j9 (Nat.le_trans j1 (by decide))
  subst z
  exact gi (.tmp rfl .nil) p5 q2
 ·refine ax (ap (sR (lR rfl rfl rfl (lD r1 rfl rfl rfl ?_))))
  obtain ⟨l7, h9, z⟩ := br z
  obtain ⟨m3, m0, j3⟩ := bz0  (show ae.t.R x0 (.agg [vs x0.Name, a0, a2, a8, a4, a7, a3, a6, a1]) from ⟨a0, a2, a8, a4, a7, a3, a6, a1, rfl, e2, f3, e6, e5, d9, f2, e9, f0⟩) r1 
  rw [h9] at m0 j3
  have k5 : l7.1.Keys.length ≤ 24 ∧ l7.1.Actions.length ≤ 24 := af3 h9 hA
  refine cL m0 rfl rfl (aj (TR.clo ae.t (show ae.t.R x0 (.agg [vs x0.Name, a0, a2, a8, a4, a7, a3, a6, a1]) from ⟨a0, a2, a8, a4, a7, a3, a6, a1, rfl, e2, f3, e6, e5, d9, f2, e9, f0⟩)) (aj (TR.clo ba.t r1) bh)) (mV rfl (xT rfl rfl (xT rfl rfl ?_)))
  refine fa (x := .agg [vs [], nilS, nilS, vi 0, nilS, vi 0]) m5 rfl rfl (fun o4 o5 r8 p7 => ?_)
  refine ek (k := 0) (v := m3) p7 rfl rfl rfl (TR.cnt bw.t j3) (fun q6 k0 => ?_)
  replace k0 : Mem q6 [⟨.op o4 o5 0, 59, 6, [m3]⟩, ⟨.op j7 j4 0, 118, 10, [.agg [vs x0.Name, a0, a2, a8, a4, a7, a3, a6, a1, nilS]]⟩] := k0
  refine mV rfl (nS (am (sR (mV rfl (af (ju rfl) (nS ?_))))))
  refine cd z rfl ?_ ?_ <;> clear z <;> intro i7 z <;> have l5 := i7 <;> try simp only [qa] at l5
  ·refine sR (af (v := nilS) (ay rfl) (nS ?_))
   exact rR z rfl (TR.clo (tSl tI) ft) ft
  ·refine ax (ap (am (sR (af (bg rfl) ?_))))
   obtain ⟨r9, p8, n2⟩ := bw.g_Keys j3
   refine af (cg (k := 0) k0 rfl rfl p8) (af (cp rfl (ca n2 Tryz.underlying57 _)) (mI rfl (nS (bf ?_))))
   have o1 := ou (sz := 1) (es := []) k0 3 (.inl ⟨none, rfl, rfl⟩) (by simp)
   have o3 : ae.t.R x0 (.agg [vs x0.Name, a0, a2, a8, a4, a7, a3, a6, a1]) := ⟨a0, a2, a8, a4, a7, a3, a6, a1, rfl, e2, f3, e6, e5, d9, f2, e9, f0⟩
   refine wC (xz hA hc i5 h9 k5 i7 n2 ?_  (zE103 := ({ p := x0, cells := ([] : List Int) } : ak)) e2 f3 e6 e5 d9 f2 e9 f0 aL rfl (by simp) (.inl rfl) rfl (by omega) (by (((try dsimp only); (try simp only [List.length_append, List.length_cons, List.length_nil]); omega))) (by omega) (Mem.sub o1 (.cons_cons _ (.cons_cons _ (.cons_cons _ .slnil)))) z) rfl
   ·intro g3 h4 h1 h0 h5 h7 h8 h6 h2 k7 j0 b2 a9 a5 b1 b5 b4 b3 b0 g6 e4 f1 d8 j6 s4 m2 z
    refine dy (ap (am (sR (af (bg rfl) ?_))))
    obtain ⟨s0, o9, m6⟩ := bw.g_Actions j3
    refine af (cg (k := 1) m2 rfl rfl o9) (af (cp rfl (ca m6 Tryz.underlying29 _)) (mI rfl (nS (bf ?_))))
    refine wC (yv hA hc i5 h9 k5 i7 o3 b2 a9 a5 b1 b5 b4 b3 b0 e4 f1 d8 j6 m6 ?_  (zE103 := ({ p := g3.p, cells := g3.cells } : ak)) b2 a9 a5 b1 b5 b4 b3 b0 g6 e4 f1 d8 rfl (by omega) (by omega) (by omega) (Mem.sub m2 (.cons_cons _ (.cons _ (.cons_cons _ .slnil)))) z) rfl
    ·intro f8 d1 c2 b9 d2 d3 d6 c9 c3 g0 g5 c5 b8 b6 c6 c8 d0 c4 b7 g4 g9 g8 g7 n5 o2 q1 z
     refine dy (ap (am (fc (cw (mV rfl (cx ?_))))))
     have p0 : Mem o2 [⟨.op j7 j4 0, 118, 10, [.agg [vs f8.p.Name, d1, c2, b9, d2, d3, d6, c9, c3, g0]]⟩, ⟨g0, 3, 1, g5⟩] := (Mem.front (k := 1) (Mem.front (k := 0) q1 rfl) rfl)
     obtain ⟨s1, l6, z⟩ := br z
     obtain ⟨r2, s5, m4, l1⟩ := be9 (x0 := ({ p := f8.p, cells := f8.cells } : ak)) c5 b8 b6 c6 c8 d0 c4 b7 g4 g9 g8 g7 p0 (by omega)
     rw [l6] at l1
     obtain ⟨n7, n9, q0, j5, j8, k3, n8, i6⟩ := l1
     replace i6 := i6.symm; subst i6
     refine gu rfl rfl m4 (cw (mV rfl (cx (kn (ap ?_)))))
     obtain ⟨s3, q5, p6⟩ := qc (P := Tryz.prog) (k := 0) (t := tI) q0 rfl j8 j5 (Nat.le_trans k3 (by decide))
     subst z
     exact gi (.tmp rfl .nil) q5 p6

def RF39 (res : (List aa) × (List Int) × (List Int)) (r : PV) : Prop := ∃ c0, ∃ c1, ∃ c2, r = .tup [c0, c1, c2] ∧ (tSl aa.t).R res.1 c0 ∧ (tSl tI).R res.2.1 c1 ∧ (tSl tI).R res.2.2 c2
theorem xe {S : List Fr} {res : (List aa) × (List Int) × (List Int)} {x0 : ae} {x1 : Int} {b0 : (List au)} {a1 : Int} {d7 c9 : List Int} {e0 : List aa} {c6 c8 : Bool} {v0 g5 : PV} {e9 : List PV} {d9 : PV} {d0 : List PV} {e1 : PV} {f0 : List PV} {d6 d5 : PV} {e2 : List PV} {f4 h1 : PV} {d2 d1 d3 d4 : Nat} (hs : SmH x0) (i1 : jx x0 x1 = b0) (j1 : BO x0 b0) (i6 : b0.length ≤ 12) (h9 : isL d9 = true) (g9 : Wri d9 e9) (h5 : d7.length ≤ 4611686018427387904) (j2 : isL e1 = true) (h7 : Wri e1 d0) (h6 : c9.length ≤ 4611686018427387904) (i3 : isL d6 = true) (h4 : Wri d6 f0) (h2 : e0.length ≤ 4611686018427387904) (j7 : 0 ≤ a1) (i4 : (e0.length : Int) ≤ 1001 * a1) (i5 : (c9.length : Int) ≤ 1001 * a1) (i9 : (d7.length : Int) ≤ 1001 * a1) (i8 : a1 ≤ (b0.length : Int)) (g2 : (decide (a1 < (b0.length : Int))) = true) (g7 : au.t.R (ix b0 a1) d5) (i7 : c6 = (if (decide (((ix b0 a1).Kind) = 1)) = true then (decide (((ix b0 a1).Kind) = 1)) else (decide (((ix b0 a1).Kind) = 4)))) (f7 : c6 = false) (j0 : c8 = (if (decide (((ix b0 a1).Kind) = 2)) = true then (decide (((ix b0 a1).Kind) = 2)) else (decide (((ix b0 a1).Kind) = 3)))) (f9 : c8 = true) (i2 : All2 tI.R ([(ix b0 a1).Header] : List Int) e2) (j3 : Wri f4 (d0 ++ e2)) (i0 : (c9 ++ ([(ix b0 a1).Header] : List Int)).length ≤ 4611686018427387904) (j5 : isL f4 = true) (g8 : (tSl az.t).R ((ix x0.Headers ((ix b0 a1).Header)).Fields) h1) {K3 : (List Int) → (List Int) → (List aa) → ((List aa) × (List Int) × (List Int))}
  (j4 : ∀ {a8 a9 : List Int} {a2 : List aa} {a6 : List PV} {a3 : PV} {a5 : List PV} {a4 : PV} {a0 : List PV} {a7 : PV} (c4 : All2 tI.R a8 a6) (b9 : isL a3 = true) (b3 : Wri a3 a6) (b1 : a8.length ≤ 4611686018427387904) (c5 : All2 tI.R a9 a5) (c3 : isL a4 = true) (b5 : Wri a4 a5) (b4 : a9.length ≤ 4611686018427387904) (b8 : All2 aa.t.R a2 a0) (b7 : isL a7 = true) (b2 : Wri a7 a0) (c2 : a2.length ≤ 4611686018427387904) (j9 : (a2.length : Int) ≤ 1001 * (a1 + 1) ∧ (a9.length : Int) ≤ 1001 * (a1 + 1) ∧ (a8.length : Int) ≤ 1001 * (a1 + 1)) {h : Heap} (M0 : Mem h [⟨.op d3 d4 0, 135, 7, [d5]⟩, ⟨a3, 3, 1, a6⟩, ⟨a4, 3, 1, a5⟩, ⟨a7, 87, 2, a0⟩, ⟨.op d2 d1 0, 157, 3, [.agg [a7, a4, a3]]⟩]), K3 a8 a9 a2 = res → PX Tryz.prog 3 S (QR Tryz.prog [(4, none), (5, none), (6, none)] (RF39 res)) [(2, .fp v0), (7, .op d2 d1 0), (13, g5), (14, vi (b0.length : Int)), (15, vi a1)] h) :
  ∀ {m : Nat} {b6 : Int} {a8 a9 : List Int} {a2 : List aa} {a6 : List PV} {a3 : PV} {a5 : List PV} {a4 : PV} {a0 : List PV} {a7 : PV} (c4 : All2 tI.R a8 a6) (b9 : isL a3 = true) (b3 : Wri a3 a6) (b1 : a8.length ≤ 4611686018427387904) (c5 : All2 tI.R a9 a5) (c3 : isL a4 = true) (b5 : Wri a4 a5) (b4 : a9.length ≤ 4611686018427387904) (b8 : All2 aa.t.R a2 a0) (b7 : isL a7 = true) (b2 : Wri a7 a0) (c2 : a2.length ≤ 4611686018427387904) (h8 : m = Int.toNat ((((ix x0.Headers ((ix b0 a1).Header)).Fields).length : Int) - b6)) (g3 : 0 ≤ b6) (e6 : (a2.length : Int) ≤ 1001 * a1 + b6) (e5 : (a9.length : Int) ≤ 1001 * a1 + 1) (d8 : (a8.length : Int) ≤ 1001 * a1) (e4 : b6 ≤ 1000) {h : Heap} (M0 : Mem h [⟨.op d3 d4 0, 135, 7, [d5]⟩, ⟨a3, 3, 1, a6⟩, ⟨a4, 3, 1, a5⟩, ⟨a7, 87, 2, a0⟩, ⟨.op d2 d1 0, 157, 3, [.agg [a7, a4, a3]]⟩]), ip b0 a1 K3 m b6 a8 a9 a2 = res → RC Tryz.prog (.loop cp2) S (QR Tryz.prog [(4, none), (5, none), (6, none)] (RF39 res)) [(49, vi b6), (48, vi (((ix x0.Headers ((ix b0 a1).Header)).Fields).length : Int)), (15, vi a1), (14, vi (b0.length : Int)), (13, g5), (9, .op d3 d4 0), (7, .op d2 d1 0), (2, .fp v0)] h := by
 have f3 := g2
 try simp only [qa] at f3
 have f1 := f7
 try simp only [qa] at f1
 have f2 := f9
 try simp only [qa] at f2
 intro m
 induction m with
 | zero =>
  intro b6 a8 a9 a2 a6 a3 a5 a4 a0 a7 c4 b9 b3 b1 c5 c3 b5 b4 b8 b7 b2 c2 h8 g3 e6 e5 d8 e4 h M0 z
  rw [ip] at z
  refine bv (sR (bN cn rfl rfl (nS (am ?_))))
  refine bp rfl ?_ ?_ <;> intro c <;> try simp only [qa] at c
  ·omega
  refine dg (dq (dc ?_))
  exact wP (j4 c4 b9 b3 b1 c5 c3 b5 b4 b8 b7 b2 c2 (by omega) (Mem.sub M0 (.cons_cons _ (.cons_cons _ (.cons_cons _ (.cons_cons _ (.cons_cons _ .slnil)))))) z) rfl
 | succ m ih =>
  intro b6 a8 a9 a2 a6 a3 a5 a4 a0 a7 c4 b9 b3 b1 c5 c3 b5 b4 b8 b7 b2 c2 h8 g3 e6 e5 d8 e4 h M0 z
  rw [ip] at z
  refine bv (sR (bN cn rfl rfl (nS (am ?_))))
  refine bp rfl ?_ ?_ <;> intro c <;> try simp only [qa] at c
  rotate_left
  ·omega
  refine ax (ap (am (bf (sR (mV rfl (mV rfl (nS (av ?_))))))))
  refine af (bg rfl) (af (cg (k := 4) M0 rfl rfl (mk1 (gn (k := 3) M0 rfl b7).2)) (af (bg rfl) (af (cg (k := 0) M0 rfl rfl (au.g_Header g7)) (mV rfl (af (v := .agg [vi ((ix b0 a1).Header), vi b6]) (mr (cs := [vi ((ix b0 a1).Header), vi b6]) rfl rfl) (af (v := .fs true [.agg [vi ((ix b0 a1).Header), vi b6]]) (gb rfl (all_cons rfl ji)) ?_))))))
  have h0 : (tSl aa.t).R ([({ Header := (ix b0 a1).Header, Field := b6 } : aa)] : List aa) (.fs true [.agg [vi ((ix b0 a1).Header), vi b6]]) := pd ⟨rfl, trivial⟩ (by simp)
  obtain ⟨c7, g6, e3⟩ := ly (t := aa.t) (h := h) h0
  have f6 : fits (a0.length + c7.length) 16 = true := by rw [All2.length_eq b8, All2.length_eq e3]; (try simp only [List.length_cons, List.length_nil]); exact iq (by omega) (by omega)
  refine jt (k := 3) (es := a0) (news := c7) M0 rfl rfl rfl b7 b2 g6 f6 (fun e7 j6 f5 g1 g4 => ?_)
  have f8 : All2 aa.t.R (a2 ++ ([({ Header := (ix b0 a1).Header, Field := b6 } : aa)] : List aa)) (a0 ++ c7) := All2.app b8 e3
  have g0 : (a2 ++ ([({ Header := (ix b0 a1).Header, Field := b6 } : aa)] : List aa)).length ≤ 4611686018427387904 := by rw [← All2.length_eq f8, List.length_append]; exact gg f6
  refine af (bg rfl) ?_
  refine jh (k := 4) (v := e7) g4 rfl rfl rfl (gn (k := 3) g4 rfl f5).1 rfl (by ((simp only [List.length_cons, List.length_nil]; omega))) (fun h3 e8 => ?_)
  replace e8 : Mem h3 [⟨.op d3 d4 0, 135, 7, [d5]⟩, ⟨a3, 3, 1, a6⟩, ⟨a4, 3, 1, a5⟩, ⟨e7, 87, 2, (a0 ++ c7)⟩, ⟨.op d2 d1 0, 157, 3, [.agg [e7, a4, a3]]⟩] := e8
  refine bn (cy (ap (av (bN dp rfl rfl (mV rfl (bn (cv ?_)))))))
  have s := da g8
  have o : wr (b6 + 1) = b6 + 1 := dj (by omega) (by omega)
  erw [o]
  exact wC (ih  c4 b9 b3 b1 c5 c3 b5 b4 f8 f5 g1 g0 (by omega) (by omega) (by ((simp only [List.length_append, List.length_cons, List.length_nil]; omega))) (by omega) (by omega) (by ((have hj := jot (by assumption) (by assumption); have hk := bo_h (l := b0) (k := a1) (by assumption) (by omega) (by omega) (by omega); have j8 := hs _ hk.1 hk.2; omega))) (Mem.sub e8 (.cons_cons _ (.cons_cons _ (.cons_cons _ (.cons_cons _ (.cons_cons _ .slnil)))))) z) rfl

theorem xh {S : List Fr} {res : (List aa) × (List Int) × (List Int)} {x0 : ae} {x1 : Int} {a4 : (List au)} {v0 g2 : PV} {c7 c6 : Nat} (r0 : ae.t.R x0 v0) (hs : SmH x0) (j5 : jx x0 x1 = a4) (g0 : (tSl au.t).R a4 g2) (l8 : BO x0 a4) (k0 : a4.length ≤ 12) {K0 : (List Int) → (List Int) → (List aa) → ((List aa) × (List Int) × (List Int))}
  (n9 : ∀ {a8 b0 : List Int} {a9 : List aa} {a3 : List PV} {a6 : PV} {a1 : List PV} {a7 : PV} {a2 : List PV} {a5 : PV} (c3 : All2 tI.R a8 a3) (b7 : isL a6 = true) (b1 : Wri a6 a3) (b5 : a8.length ≤ 4611686018427387904) (c4 : All2 tI.R b0 a1) (c2 : isL a7 = true) (b3 : Wri a7 a1) (b6 : b0.length ≤ 4611686018427387904) (c5 : All2 aa.t.R a9 a2) (b8 : isL a5 = true) (b2 : Wri a5 a2) (b4 : a9.length ≤ 4611686018427387904) (o8 : a9.length ≤ 13000 ∧ b0.length ≤ 13000 ∧ a8.length ≤ 13000) {h : Heap} (M0 : Mem h [⟨a6, 3, 1, a3⟩, ⟨a7, 3, 1, a1⟩, ⟨a5, 87, 2, a2⟩, ⟨.op c7 c6 0, 157, 3, [.agg [a5, a7, a6]]⟩]), K0 a8 b0 a9 = res → PX Tryz.prog 0 S (QR Tryz.prog [(4, none), (5, none), (6, none)] (RF39 res)) [(7, .op c7 c6 0)] h) :
  ∀ {m : Nat} {a0 : Int} {a8 b0 : List Int} {a9 : List aa} {a3 : List PV} {a6 : PV} {a1 : List PV} {a7 : PV} {a2 : List PV} {a5 : PV} (c3 : All2 tI.R a8 a3) (b7 : isL a6 = true) (b1 : Wri a6 a3) (b5 : a8.length ≤ 4611686018427387904) (c4 : All2 tI.R b0 a1) (c2 : isL a7 = true) (b3 : Wri a7 a1) (b6 : b0.length ≤ 4611686018427387904) (c5 : All2 aa.t.R a9 a2) (b8 : isL a5 = true) (b2 : Wri a5 a2) (b4 : a9.length ≤ 4611686018427387904) (n8 : m = Int.toNat ((a4.length : Int) - a0)) (i0 : 0 ≤ a0) (f0 : (a9.length : Int) ≤ 1001 * a0) (f1 : (b0.length : Int) ≤ 1001 * a0) (f6 : (a8.length : Int) ≤ 1001 * a0) (f3 : a0 ≤ (a4.length : Int)) {h : Heap} (M0 : Mem h [⟨a6, 3, 1, a3⟩, ⟨a7, 3, 1, a1⟩, ⟨a5, 87, 2, a2⟩, ⟨.op c7 c6 0, 157, 3, [.agg [a5, a7, a6]]⟩]), ej x0 a4 K0 m a0 a8 b0 a9 = res → RC Tryz.prog (.loop cp4) S (QR Tryz.prog [(4, none), (5, none), (6, none)] (RF39 res)) [(15, vi a0), (14, vi (a4.length : Int)), (13, g2), (7, .op c7 c6 0), (2, .fp v0)] h := by
 intro m
 induction m with
 | zero =>
  intro a0 a8 b0 a9 a3 a6 a1 a7 a2 a5 c3 b7 b1 b5 c4 c2 b3 b6 c5 b8 b2 b4 n8 i0 f0 f1 f6 f3 h M0 z
  rw [ej] at z
  refine bv (sR (bN cn rfl rfl (nS (am ?_))))
  refine bp rfl ?_ ?_ <;> intro c <;> try simp only [qa] at c
  ·omega
  refine dg (dq (dc ?_))
  exact wP (n9 c3 b7 b1 b5 c4 c2 b3 b6 c5 b8 b2 b4 (by omega) (Mem.sub M0 (.cons_cons _ (.cons_cons _ (.cons_cons _ (.cons_cons _ .slnil))))) z) rfl
 | succ m ih =>
  intro a0 a8 b0 a9 a3 a6 a1 a7 a2 a5 c3 b7 b1 b5 c4 c2 b3 b6 c5 b8 b2 b4 n8 i0 f0 f1 f6 f3 h M0 z
  rw [ej] at z
  refine bv (sR (bN cn rfl rfl (nS (am ?_))))
  refine bp rfl (fun d8 => ?_) (fun d8 => ?_)
  ·have hgo := z
   have i6 := d8
   try simp only [qa] at i6
   refine ax (ap (am (bf (sR ?_))))
   obtain ⟨d5, m6, d2⟩ := de (i := a0) g0 (by omega) (by omega)
   refine af (bd rfl rfl m6) (lD d2 rfl rfl rfl ?_)
   refine fa (x := .agg [vi 0, vi 0, vi 0, vi 0, vi 0, nilS, nilS]) M0 rfl rfl (fun d1 d3 o0 m8 => ?_)
   refine ek (k := 0) (v := d5) m8 rfl rfl rfl (TR.cnt au.t d2) (fun n4 f8 => ?_)
   replace f8 : Mem n4 [⟨.op d1 d3 0, 135, 7, [d5]⟩, ⟨a6, 3, 1, a3⟩, ⟨a7, 3, 1, a1⟩, ⟨a5, 87, 2, a2⟩, ⟨.op c7 c6 0, 157, 3, [.agg [a5, a7, a6]]⟩] := f8
   refine nR (af (bg rfl) (af (cg (k := 0) f8 rfl rfl (au.g_Kind d2)) (nS (bf (am (sR (bN dt rfl rfl (mV rfl ?_))))))))
   refine nS ?_
   obtain ⟨n7, k7, z⟩ := br z
   refine nd (F := fun b S Q => ∀ (c8 : Bool) (g9 : c8 = (if (decide (((ix a4 a0).Kind) = 1)) = true then (decide (((ix a4 a0).Kind) = 1)) else (decide (((ix a4 a0).Kind) = 4)))) (d9 : Heap) (d0 : Mem d9 [⟨.op d1 d3 0, 135, 7, [d5]⟩, ⟨a6, 3, 1, a3⟩, ⟨a7, 3, 1, a1⟩, ⟨a5, 87, 2, a2⟩, ⟨.op c7 c6 0, 157, 3, [.agg [a5, a7, a6]]⟩]), n7 c8 = res → RC Tryz.prog b S Q [(21, vb c8), (20, vi ((ix a4 a0).Kind)), (15, vi a0), (14, vi (a4.length : Int)), (13, g2), (9, .op d1 d3 0), (7, .op c7 c6 0), (2, .fp v0)] d9) ?_ ?_
   ·intro c8 g9 d9 d0 z
    rw [← k7] at z
    refine cd z rfl ?_ ?_ <;> clear z <;> intro g7 z <;> have i3 := g7 <;> try simp only [qa] at i3
    ·refine av (af (bg rfl) (af (cg (k := 4) d0 rfl rfl (mk1 (gn (k := 3) d0 rfl b8).2)) (af (bg rfl) ?_)))
     obtain ⟨k6, m4, j4⟩ := au.g_Dst d2
     refine af (cg (k := 0) d0 rfl rfl m4) (af (v := .fs true [k6]) (gb rfl (all_cons (TR.cnt aa.t j4) ji)) ?_)
     have n2 : (tSl aa.t).R ([(ix a4 a0).Dst] : List aa) (.fs true [k6]) := pd ⟨j4, trivial⟩ (by simp)
     obtain ⟨d6, k5, g8⟩ := ly (t := aa.t) (h := d9) n2
     have j6 : fits (a2.length + d6.length) 16 = true := by rw [All2.length_eq c5, All2.length_eq g8]; (try simp only [List.length_cons, List.length_nil]); exact iq (by omega) (by omega)
     refine jt (k := 3) (es := a2) (news := d6) d0 rfl rfl rfl b8 b2 k5 j6 (fun h6 o3 j2 k4 l3 => ?_)
     have l4 : All2 aa.t.R (a9 ++ ([(ix a4 a0).Dst] : List aa)) (a2 ++ d6) := All2.app c5 g8
     have j1 : (a9 ++ ([(ix a4 a0).Dst] : List aa)).length ≤ 4611686018427387904 := by rw [← All2.length_eq l4, List.length_append]; exact gg j6
     refine af (bg rfl) ?_
     refine jh (k := 4) (v := h6) l3 rfl rfl rfl (gn (k := 3) l3 rfl j2).1 rfl (by ((simp only [List.length_cons, List.length_nil]; omega))) (fun n6 i2 => ?_)
     replace i2 : Mem n6 [⟨.op d1 d3 0, 135, 7, [d5]⟩, ⟨a6, 3, 1, a3⟩, ⟨a7, 3, 1, a1⟩, ⟨h6, 87, 2, (a2 ++ d6)⟩, ⟨.op c7 c6 0, 157, 3, [.agg [h6, a7, a6]]⟩] := i2
     refine bn (cy (cy (ap (av (bN dp rfl rfl (mV rfl (bn (cv ?_))))))))
     have s := da g0
     have o : wr (a0 + 1) = a0 + 1 := dj (by omega) (by omega)
     erw [o]
     exact wC (ih  c3 b7 b1 b5 c4 c2 b3 b6 l4 j2 k4 j1 (by omega) (by omega) (by ((simp only [List.length_append, List.length_cons, List.length_nil]; omega))) (by omega) (by omega) (by omega) (Mem.sub i2 (.cons _ (.cons_cons _ (.cons_cons _ (.cons_cons _ (.cons_cons _ .slnil)))))) z) rfl
    ·refine am (sR (bN dt rfl rfl (mV rfl (nS ?_))))
     obtain ⟨m5, j7, z⟩ := br z
     refine nd (F := fun b S Q => ∀ (c9 : Bool) (h3 : c9 = (if (decide (((ix a4 a0).Kind) = 2)) = true then (decide (((ix a4 a0).Kind) = 2)) else (decide (((ix a4 a0).Kind) = 3)))) (d4 : Heap) (b9 : Mem d4 [⟨.op d1 d3 0, 135, 7, [d5]⟩, ⟨a6, 3, 1, a3⟩, ⟨a7, 3, 1, a1⟩, ⟨a5, 87, 2, a2⟩, ⟨.op c7 c6 0, 157, 3, [.agg [a5, a7, a6]]⟩]), m5 c9 = res → RC Tryz.prog b S Q [(31, vb c9), (20, vi ((ix a4 a0).Kind)), (15, vi a0), (14, vi (a4.length : Int)), (13, g2), (9, .op d1 d3 0), (7, .op c7 c6 0), (2, .fp v0)] d4) ?_ ?_
     ·intro c9 h3 d4 b9 z
      rw [← j7] at z
      refine cd z rfl ?_ ?_ <;> clear z <;> intro h0 z <;> have i5 := h0 <;> try simp only [qa] at i5
      ·refine sR (af (bg rfl) (af (cg (k := 4) b9 rfl rfl (mk1 (gn (k := 2) b9 rfl c2).2)) (af (bg rfl) (af (cg (k := 0) b9 rfl rfl (au.g_Header d2)) (af (v := .fs true [vi ((ix a4 a0).Header)]) (gb rfl (all_cons rfl ji)) ?_)))))
       have m2 : (tSl tI).R ([(ix a4 a0).Header] : List Int) (.fs true [vi ((ix a4 a0).Header)]) := pd ⟨rfl, trivial⟩ (by simp)
       obtain ⟨d7, l6, e9⟩ := ly (t := tI) (h := d4) m2
       have k8 : fits (a1.length + d7.length) 8 = true := by rw [All2.length_eq c4, All2.length_eq e9]; (try simp only [List.length_cons, List.length_nil]); exact iq (by omega) (by omega)
       refine jt (k := 2) (es := a1) (news := d7) b9 rfl rfl rfl c2 b3 l6 k8 (fun h5 o6 h7 h4 k3 => ?_)
       have k9 : All2 tI.R (b0 ++ ([(ix a4 a0).Header] : List Int)) (a1 ++ d7) := All2.app c4 e9
       have g4 : (b0 ++ ([(ix a4 a0).Header] : List Int)).length ≤ 4611686018427387904 := by rw [← All2.length_eq k9, List.length_append]; exact gg k8
       refine af (bg rfl) ?_
       refine jh (k := 4) (v := h5) k3 rfl rfl rfl (gn (k := 2) k3 rfl h7).1 rfl (by ((simp only [List.length_cons, List.length_nil]; omega))) (fun m3 g3 => ?_)
       replace g3 : Mem m3 [⟨.op d1 d3 0, 135, 7, [d5]⟩, ⟨a6, 3, 1, a3⟩, ⟨h5, 3, 1, (a1 ++ d7)⟩, ⟨a5, 87, 2, a2⟩, ⟨.op c7 c6 0, 157, 3, [.agg [a5, h5, a6]]⟩] := g3
       refine nR (gL (ae.g_Headers r0) rfl rfl rfl fun o4 n0 => (af (bg rfl) (af (cg (k := 0) g3 rfl rfl (au.g_Header d2)) ?_)))
       obtain ⟨o5, m9, n3⟩ := de (i := (ix a4 a0).Header) n0 (by ((have hj := jot (by assumption) (by assumption); have hk := bo_h (l := a4) (k := a0) (by assumption) (by omega) (by omega) (by omega); omega))) (by ((have hj := jot (by assumption) (by assumption); have hk := bo_h (l := a4) (k := a0) (by assumption) (by omega) (by omega) (by omega); omega)))
       refine af (bd rfl rfl m9) (gL (bz.g_Fields n3) rfl rfl rfl fun o2 j9 => (af (cp rfl (ca j9 Tryz.underlying23 _)) (mI rfl (nS (bf ?_)))))
       refine wC (xe hs j5 l8 k0 b7 b1 b5 c2 b3 b6 b8 b2 b4 i0 f0 f1 f6 f3 d8 d2 g9 g7 h3 h0 e9 h4 g4 h7 j9 ?_  c3 b7 b1 b5 k9 h7 h4 g4 c5 b8 b2 b4 rfl (by omega) (by omega) (by (((try dsimp only); (try simp only [List.length_append, List.length_cons, List.length_nil]); omega))) (by omega) (by omega) (Mem.sub g3 (.cons_cons _ (.cons_cons _ (.cons_cons _ (.cons_cons _ (.cons_cons _ .slnil)))))) z) rfl
       ·intro h2 g5 h1 i8 l5 i9 l7 i7 j8 f5 f7 e1 e2 e8 f4 e5 e6 f2 g1 e4 e3 m1 o7 n5 z
        refine dy (cy (cy (ap (av (bN dp rfl rfl (mV rfl (bn (cv ?_))))))))
        have s := da g0
        have o : wr (a0 + 1) = a0 + 1 := dj (by omega) (by omega)
        erw [o]
        exact wC (ih  f5 f7 e1 e2 e8 f4 e5 e6 f2 g1 e4 e3 (by omega) (by omega) (by omega) (by omega) (by omega) (by omega) (Mem.sub n5 (.cons _ (.cons_cons _ (.cons_cons _ (.cons_cons _ (.cons_cons _ .slnil)))))) z) rfl
      ·refine sR (bN dt rfl rfl (mV rfl (nS ?_)))
       refine cd z rfl ?_ ?_ <;> clear z <;> intro c z <;> try simp only [qa] at c
       ·refine av (af (bg rfl) (af (cg (k := 4) b9 rfl rfl (mk1 (gn (k := 1) b9 rfl b7).2)) (af (bg rfl) (af (cg (k := 0) b9 rfl rfl (au.g_Register d2)) (af (v := .fs true [vi ((ix a4 a0).Register)]) (gb rfl (all_cons rfl ji)) ?_)))))
        have m7 : (tSl tI).R ([(ix a4 a0).Register] : List Int) (.fs true [vi ((ix a4 a0).Register)]) := pd ⟨rfl, trivial⟩ (by simp)
        obtain ⟨e0, l1, g6⟩ := ly (t := tI) (h := d4) m7
        have l0 : fits (a3.length + e0.length) 8 = true := by rw [All2.length_eq c3, All2.length_eq g6]; (try simp only [List.length_cons, List.length_nil]); exact iq (by omega) (by omega)
        refine jt (k := 1) (es := a3) (news := e0) b9 rfl rfl rfl b7 b1 l1 l0 (fun i4 o1 j0 m0 l2 => ?_)
        have j3 : All2 tI.R (a8 ++ ([(ix a4 a0).Register] : List Int)) (a3 ++ e0) := All2.app c3 g6
        have l9 : (a8 ++ ([(ix a4 a0).Register] : List Int)).length ≤ 4611686018427387904 := by rw [← All2.length_eq j3, List.length_append]; exact gg l0
        refine af (bg rfl) ?_
        refine jh (k := 4) (v := i4) l2 rfl rfl rfl (gn (k := 1) l2 rfl j0).1 rfl (by ((simp only [List.length_cons, List.length_nil]; omega))) (fun n1 h9 => ?_)
        replace h9 : Mem n1 [⟨.op d1 d3 0, 135, 7, [d5]⟩, ⟨i4, 3, 1, (a3 ++ e0)⟩, ⟨a7, 3, 1, a1⟩, ⟨a5, 87, 2, a2⟩, ⟨.op c7 c6 0, 157, 3, [.agg [a5, a7, i4]]⟩] := h9
        refine bn (cy (cy (ap (av (bN dp rfl rfl (mV rfl (bn (cv ?_))))))))
        have s := da g0
        have o : wr (a0 + 1) = a0 + 1 := dj (by omega) (by omega)
        erw [o]
        exact wC (ih  j3 j0 m0 l9 c4 c2 b3 b6 c5 b8 b2 b4 (by omega) (by omega) (by omega) (by omega) (by ((simp only [List.length_append, List.length_cons, List.length_nil]; omega))) (by omega) (Mem.sub h9 (.cons _ (.cons_cons _ (.cons_cons _ (.cons_cons _ (.cons_cons _ .slnil)))))) z) rfl
       ·refine ax (cy (cy (ap (av (bN dp rfl rfl (mV rfl (bn (cv ?_))))))))
        have s := da g0
        have o : wr (a0 + 1) = a0 + 1 := dj (by omega) (by omega)
        erw [o]
        exact wC (ih  c3 b7 b1 b5 c4 c2 b3 b6 c5 b8 b2 b4 (by omega) (by omega) (by omega) (by omega) (by omega) (by omega) (Mem.sub b9 (.cons _ (.cons_cons _ (.cons_cons _ (.cons_cons _ (.cons_cons _ .slnil)))))) z) rfl
     ·intro J
      refine cd z rfl ?_ ?_ <;> clear z <;> intro e7 z <;> have i1 := e7 <;> try simp only [qa] at i1
      ·refine ax ?_
       refine ap (wC (J _ (aq8 e7).symm _ (Mem.sub d0 (.cons_cons _ (.cons_cons _ (.cons_cons _ (.cons_cons _ (.cons_cons _ .slnil)))))) z) rfl)
      ·refine av (bN dt rfl rfl (mV rfl (bn ?_)))
       refine ap (wC (J _ (ao5 e7).symm _ (Mem.sub d0 (.cons_cons _ (.cons_cons _ (.cons_cons _ (.cons_cons _ (.cons_cons _ .slnil)))))) z) rfl)
   ·intro J
    refine cd z rfl ?_ ?_ <;> clear z <;> intro f9 z <;> have h8 := f9 <;> try simp only [qa] at h8
    ·refine ax ?_
     refine ap (wC (J _ (aq8 f9).symm _ (Mem.sub f8 (.cons_cons _ (.cons_cons _ (.cons_cons _ (.cons_cons _ (.cons_cons _ .slnil)))))) z) rfl)
    ·refine av (bN dt rfl rfl (mV rfl (bn ?_)))
     refine ap (wC (J _ (ao5 f9).symm _ (Mem.sub f8 (.cons_cons _ (.cons_cons _ (.cons_cons _ (.cons_cons _ (.cons_cons _ .slnil)))))) z) rfl)
  ·exfalso
   try simp only [qa] at d8
   omega

theorem dr0 {x0 : ae} {x1 : Int} {v0 : PV} (r0 : ae.t.R x0 v0) (hs : SmH x0) : ∃ c0, ∃ c1, ∃ c2, FnR Tryz.prog 39 [v0, vi x1] (.tup [c0, c1, c2]) ∧ (tSl aa.t).R (gm x0 x1).1 c0 ∧ (tSl tI).R (gm x0 x1).2.1 c1 ∧ (tSl tI).R (gm x0 x1).2.2 c2 := by
 obtain ⟨res, z⟩ : ∃ res, gm x0 x1 = res := ⟨_, rfl⟩
 suffices H : RC Tryz.prog cx6 [] (QR Tryz.prog [(4, none), (5, none), (6, none)] (RF39 res)) (argE 0 [v0, vi x1]) ⟨0, []⟩ by
  rw [z]
  obtain ⟨r, h1, c0, c1, c2, rfl, h6, h4, h9⟩ := fnE dj7 (by simp) H
  exact ⟨c0, c1, c2, h1, h6, h4, h9⟩
 unfold gm at z
 refine sR (af (dw rfl (TR.cnt ae.t r0)) (af (v := nilS) (ay rfl) (af (v := nilS) (ay rfl) (af (v := nilS) (ay rfl) (nR ?_)))))
 refine fa (x := .agg [nilS, nilS, nilS]) (Mem.nil ⟨0, []⟩) rfl rfl (fun h0 g9 h5 g8 => ?_)
 refine nS (am (sR (lD r0 rfl rfl rfl (mV rfl ?_))))
 obtain ⟨d8, a3, z⟩ := br z
 obtain ⟨i0, g2, d7⟩ := bj2 (x1 := x1) r0 
 rw [a3] at d7
 have e4 : BO x0 d8 := ui a3
 have e0 : d8.length ≤ 12 := (ui a3).1
 refine cL g2 rfl rfl (aj (TR.clo ae.t r0) (aj rfl bh)) (af (cp rfl (ca d7 Tryz.underlying95 _)) (mI rfl (nS (bf ?_))))
 have g4 := ou (sz := 2) (es := []) g8 87 (.inl ⟨none, rfl, rfl⟩) (by simp)
 have g0 := ou (sz := 1) (es := []) g4 3 (.inl ⟨none, rfl, rfl⟩) (by simp)
 have f6 := ou (sz := 1) (es := []) g0 3 (.inl ⟨none, rfl, rfl⟩) (by simp)
 refine wC (xh r0 hs a3 d7 e4 e0 ?_  aL rfl (.inl rfl) (by decide) aL rfl (.inl rfl) (by decide) aL rfl (.inl rfl) (by decide) rfl (by omega) (by (((try dsimp only); (try simp only [List.length_append, List.length_cons, List.length_nil]); omega))) (by (((try dsimp only); (try simp only [List.length_append, List.length_cons, List.length_nil]); omega))) (by (((try dsimp only); (try simp only [List.length_append, List.length_cons, List.length_nil]); omega))) (by omega) (Mem.sub f6 (.cons_cons _ (.cons_cons _ (.cons_cons _ (.cons_cons _ .slnil))))) z) rfl
 ·intro a5 a9 a7 b5 a1 b3 a0 a4 a2 c5 b6 b4 a6 b9 b8 b1 a8 c4 c3 b0 b2 f0 g6 f7 z
  refine dy (ap (am (fc ?_)))
  have f9 : Mem g6 [⟨.op h0 g9 0, 157, 3, [.agg [a2, a0, a1]]⟩, ⟨a2, 87, 2, a4⟩, ⟨a0, 3, 1, b3⟩, ⟨a1, 3, 1, b5⟩] := (Mem.front (k := 3) (Mem.front (k := 2) (Mem.front (k := 1) (Mem.front (k := 0) f7 rfl) rfl) rfl) rfl)
  obtain ⟨h8, e3, z⟩ := br z
  obtain ⟨h3, h7, e5, d5⟩ := bk3 (x0 := ({ fields := a7, headers := a9, registers := a5 } : cb)) c4 c3 b2 b0 b9 b8 a8 b1 c5 b6 a6 b4 f9 (by (((try dsimp only); (try simp only [List.length_append, List.length_cons, List.length_nil]); omega)))
  rw [e3] at d5
  obtain ⟨e8, f5, e7, e9, e6, f4, d6, d1, d0, d2, f2, d3, c8, c6, f3, c9, d4, c7, f1, b7⟩ := d5
  replace b7 := b7.symm; subst b7
  refine gu rfl rfl e5 (cw (xT rfl rfl (cx (cw (xT rfl rfl (cx (cw (xT rfl rfl ?_))))))))
  refine cx (cw (mV rfl (cx (cw (mV rfl (cx (cw (mV rfl ?_))))))))
  refine cx (kn (ap ?_))
  obtain ⟨g5, d9, f8⟩ := qc (P := Tryz.prog) (k := 0) (t := aa.t) d6 rfl d0 d1 (Nat.le_trans d2 (by decide))
  obtain ⟨g1, e1, h2⟩ := qc (P := Tryz.prog) (k := 1) (t := tI) d6 rfl c8 d3 (Nat.le_trans c6 (by decide))
  obtain ⟨g3, e2, g7⟩ := qc (P := Tryz.prog) (k := 2) (t := tI) d6 rfl d4 c9 (Nat.le_trans c7 (by decide))
  subst z
  exact gi (.tmp rfl (.tmp rfl (.tmp rfl .nil))) (ba4 (tl d9 (tl e1 (tl e2 be4))) (aj d9.1 (aj e1.1 (aj e2.1 bh)))) ⟨g5, g1, g3, rfl, f8, h2, g7⟩

def RF18 (res : (List Int)) (r : PV) : Prop := (tSl tI).R res r
theorem xd {S : List Fr} {res : (List Int)} {x0 : ae} {x1 : ba} {e1 : bw × Bool} {e8 e9 e6 e5 f0 e4 e7 e3 h0 : PV} {f4 f3 : Nat} (hA : AB x0) (i2 : gq x0 x1 = e1) (i5 : e1.1.Keys.length ≤ 24 ∧ e1.1.Actions.length ≤ 24) (g9 : (!e1.2) = false) (h6 : (tSl tI).R e1.1.Actions h0) (g7 : ae.t.R x0 (.agg [vs x0.Name, e8, e9, e6, e5, f0, e4, e7, e3])) {K0 : ak → (List Int)}
  (i7 : ∀ {zE109 : ak} {a3 a1 a0 a5 a6 a7 a4 a2 b4 : PV} {b7 : List PV} (b1 : (tSl bz.t).R zE109.p.Headers a3) (b0 : (tSl az.t).R zE109.p.Metadata a1) (a8 : (tSl cq.t).R zE109.p.Registers a0) (b2 : (tSl bm.t).R zE109.p.Actions a5) (b5 : (tSl bw.t).R zE109.p.Tables a6) (b6 : (tSl bt.t).R zE109.p.States a7) (b3 : (tSl aw.t).R zE109.p.Control a4) (a9 : (tSl tI).R zE109.p.Deparser a2) (b9 : All2 tI.R zE109.cells b7) (c3 : isL b4 = true) (b8 : zE109.cells.length ≤ 4611686018427387904) (c2 : Wri b4 b7) (j1 : zE109.cells.length ≤ 960000) {h : Heap} (M0 : Mem h [⟨b4, 3, 1, b7⟩, ⟨.op f4 f3 0, 118, 10, [.agg [vs zE109.p.Name, a3, a1, a0, a5, a6, a7, a4, a2, b4]]⟩]), K0 zE109 = res → PX Tryz.prog 0 S (QR Tryz.prog [(4, none)] (RF18 res)) [(7, .op f4 f3 0)] h) :
  ∀ {m : Nat} {e0 : Int} {zE109 : ak} {a3 a1 a0 a5 a6 a7 a4 a2 b4 : PV} {b7 : List PV} (b1 : (tSl bz.t).R zE109.p.Headers a3) (b0 : (tSl az.t).R zE109.p.Metadata a1) (a8 : (tSl cq.t).R zE109.p.Registers a0) (b2 : (tSl bm.t).R zE109.p.Actions a5) (b5 : (tSl bw.t).R zE109.p.Tables a6) (b6 : (tSl bt.t).R zE109.p.States a7) (b3 : (tSl aw.t).R zE109.p.Control a4) (a9 : (tSl tI).R zE109.p.Deparser a2) (b9 : All2 tI.R zE109.cells b7) (c3 : isL b4 = true) (b8 : zE109.cells.length ≤ 4611686018427387904) (c2 : Wri b4 b7) (i4 : m = Int.toNat ((e1.1.Actions.length : Int) - e0)) (h2 : 0 ≤ e0) (g3 : (zE109.cells.length : Int) ≤ 39000 * e0) (g4 : e0 ≤ 24) {h : Heap} (M0 : Mem h [⟨b4, 3, 1, b7⟩, ⟨.op f4 f3 0, 118, 10, [.agg [vs zE109.p.Name, a3, a1, a0, a5, a6, a7, a4, a2, b4]]⟩]), ks x0 e1 K0 m e0 zE109 = res → RC Tryz.prog (.loop ci0) S (QR Tryz.prog [(4, none)] (RF18 res)) [(24, vi e0), (23, vi (e1.1.Actions.length : Int)), (22, h0), (7, .op f4 f3 0), (2, .fp (.agg [vs x0.Name, e8, e9, e6, e5, f0, e4, e7, e3]))] h := by
 have g6 := g9
 try simp only [qa] at g6
 intro m
 induction m with
 | zero =>
  intro e0 zE109 a3 a1 a0 a5 a6 a7 a4 a2 b4 b7 b1 b0 a8 b2 b5 b6 b3 a9 b9 c3 b8 c2 i4 h2 g3 g4 h M0 z
  rw [ks] at z
  refine bv (sR (bN cn rfl rfl (nS (am ?_))))
  refine bp rfl ?_ ?_ <;> intro c <;> try simp only [qa] at c
  ·omega
  refine dg (dq (dc ?_))
  exact wP (i7 (zE109 := ({ p := zE109.p, cells := zE109.cells } : ak)) b1 b0 a8 b2 b5 b6 b3 a9 b9 c3 b8 c2 (by omega) (Mem.sub M0 (.cons_cons _ (.cons_cons _ .slnil))) z) rfl
 | succ m ih =>
  intro e0 zE109 a3 a1 a0 a5 a6 a7 a4 a2 b4 b7 b1 b0 a8 b2 b5 b6 b3 a9 b9 c3 b8 c2 i4 h2 g3 g4 h M0 z
  rw [ks] at z
  refine bv (sR (bN cn rfl rfl (nS (am ?_))))
  refine bp rfl ?_ ?_ <;> intro c <;> try simp only [qa] at c
  rotate_left
  ·omega
  refine ax (ap (am (bf (sR (af (bd rfl rfl (slI h6 (by omega) (by omega))) (lR rfl rfl rfl (mV rfl (nS ?_))))))))
  refine fc (cw (mV rfl (cx (cw (lD g7 rfl rfl rfl (cx (cw (mV rfl ?_))))))))
  refine cx (cw ?_)
  obtain ⟨f1, g0, z⟩ := br z
  obtain ⟨i8, i9, j0, h8, h3, h1, h5⟩ := dr0 (x1 := (ix e1.1.Actions e0)) g7 (by exact hA.1)
  rw [g0] at h3 h1 h5
  have i3 : f1.1.length ≤ 13000 ∧ f1.2.1.length ≤ 13000 ∧ f1.2.2.length ≤ 13000 := vk hA.1 g0
  refine cL h8 rfl rfl (aj (TR.clo ae.t g7) (aj rfl bh)) (cx (cw (xT rfl rfl (cx (cw (xT rfl rfl (cx (cw ?_))))))))
  refine xT rfl rfl (cx ?_)
  have h9 : Mem h [⟨.op f4 f3 0, 118, 10, [.agg [vs zE109.p.Name, a3, a1, a0, a5, a6, a7, a4, a2, b4]]⟩, ⟨b4, 3, 1, b7⟩] := (Mem.front (k := 1) (Mem.front (k := 0) M0 rfl) rfl)
  obtain ⟨g8, g5, z⟩ := br z
  obtain ⟨i6, i0, h7, g1⟩ := av5 (x0 := ({ p := zE109.p, cells := zE109.cells } : ak)) (x1 := f1.1) (x2 := f1.2.1) (x3 := f1.2.2) h3 h1 h5 b1 b0 a8 b2 b5 b6 b3 a9 b9 c3 b8 c2 h9 (by omega)
  rw [g5] at g1
  obtain ⟨d5, c8, c6, d6, d8, d9, d3, d2, e2, f6, i1, d0, c7, c4, d1, d7, d4, c9, c5, f5, f7, f8, f2, f9⟩ := g1
  replace f9 := f9.symm; subst f9
  refine gu rfl rfl h7 ?_
  have g2 := ah4 g5; try simp only [List.length_cons, List.length_nil] at g2; try dsimp only at g2
  refine kn (cy (ap (av (bN dp rfl rfl (mV rfl (bn ?_))))))
  have h4 : Mem i0 [⟨e2, 3, 1, f6⟩, ⟨.op f4 f3 0, 118, 10, [.agg [vs g8.p.Name, d5, c8, c6, d6, d8, d9, d3, d2, e2]]⟩] := (Mem.front (k := 1) (Mem.front (k := 0) i1 rfl) rfl)
  refine cv ?_
  have s := da h6
  have o : wr (e0 + 1) = e0 + 1 := dj (by omega) (by omega)
  erw [o]
  exact wC (ih (zE109 := ({ p := g8.p, cells := g8.cells } : ak)) d0 c7 c4 d1 d7 d4 c9 c5 f5 f7 f8 f2 (by omega) (by omega) (by omega) (by omega) (Mem.sub h4 (.cons_cons _ (.cons_cons _ .slnil))) z) rfl

theorem dg7 {x0 : ae} {x1 : ba} {v0 v1 : PV} (r0 : ae.t.R x0 v0) (r1 : ba.t.R x1 v1) (hA : AB x0) : ∃ r, FnR Tryz.prog 18 [v0, v1] r ∧ (tSl tI).R (kd x0 x1) r := by
 refine fnT (R := RF18) dn4 rfl fun res z => ?_
 unfold kd at z
 refine sR (af (dw rfl (TR.cnt ae.t r0)) (af (dw rfl (TR.cnt ba.t r1)) (af (v := nilS) (ay rfl) (nR (lD r0 rfl rfl rfl (lD r1 rfl rfl rfl ?_))))))
 obtain ⟨f7, e2, z⟩ := br z
 obtain ⟨f1, f4, e9⟩ := bz0  r0 r1 
 rw [e2] at f4 e9
 have f5 : f7.1.Keys.length ≤ 24 ∧ f7.1.Actions.length ≤ 24 := af3 e2 hA
 refine cL f4 rfl rfl (aj (TR.clo ae.t r0) (aj (TR.clo ba.t r1) bh)) (mV rfl (xT rfl rfl (xT rfl rfl ?_)))
 refine fa (x := .agg [vs [], nilS, nilS, vi 0, nilS, vi 0]) (Mem.nil ⟨0, []⟩) rfl rfl (fun h2 h7 i1 h8 => ?_)
 refine ek (k := 0) (v := f1) h8 rfl rfl rfl (TR.cnt bw.t e9) (fun h4 f0 => ?_)
 replace f0 : Mem h4 [⟨.op h2 h7 0, 59, 6, [f1]⟩] := f0
 refine mV rfl (nS (am (sR (mV rfl (af (ju rfl) (nS ?_))))))
 refine cd z rfl ?_ ?_ <;> clear z <;> intro e7 z <;> have e8 := e7 <;> try simp only [qa] at e8
 ·refine sR (af (v := nilS) (ay rfl) (nS ?_))
  exact rR z rfl (TR.clo (tSl tI) ft) ft
 ·refine ax (ap (sR (lD r0 rfl rfl rfl ?_)))
  obtain ⟨c3, c4, b9, b8, c5, b7, c2, b6, g3, d5, d3, e0, d7, d4, d9, d8, d6⟩ := r0
  subst g3
  refine af (v := .agg [vs x0.Name, c3, c4, b9, b8, c5, b7, c2, b6, nilS]) (mr (cs := [vs x0.Name, c3, c4, b9, b8, c5, b7, c2, b6, nilS]) rfl rfl) ?_
  refine au5 (x := .agg [vs x0.Name, c3, c4, b9, b8, c5, b7, c2, b6, nilS]) f0 rfl rfl (fun h3 g9 i4 f3 => ?_)
  refine mV rfl (nS (am (sR (af (bg rfl) ?_))))
  obtain ⟨i0, h1, f8⟩ := bw.g_Actions e9
  refine af (cg (k := 1) f3 rfl rfl h1) (af (cp rfl (ca f8 Tryz.underlying29 _)) (mI rfl (nS (bf ?_))))
  have g6 := ou (sz := 1) (es := []) f3 3 (.inl ⟨none, rfl, rfl⟩) (by simp)
  have g4 : ae.t.R x0 (.agg [vs x0.Name, c3, c4, b9, b8, c5, b7, c2, b6]) := ⟨c3, c4, b9, b8, c5, b7, c2, b6, rfl, d5, d3, e0, d7, d4, d9, d8, d6⟩
  refine wC (xd hA e2 f5 e7 f8 g4 ?_  (zE109 := ({ p := x0, cells := ([] : List Int) } : ak)) d5 d3 e0 d7 d4 d9 d8 d6 aL rfl (by simp) (.inl rfl) rfl (by omega) (by (((try dsimp only); (try simp only [List.length_append, List.length_cons, List.length_nil]); omega))) (by omega) (Mem.sub g6 (.cons_cons _ (.cons_cons _ (.cons _ .slnil)))) z) rfl
  ·intro c6 a9 a6 a2 b2 b4 b5 b0 a8 c7 c8 a4 a3 a0 a7 b1 b3 a5 a1 d1 c9 d2 d0 g2 g5 h0 z
   refine dy (ap (am (fc (cw (mV rfl (cx ?_))))))
   have g7 : Mem g5 [⟨.op h3 g9 0, 118, 10, [.agg [vs c6.p.Name, a9, a6, a2, b2, b4, b5, b0, a8, c7]]⟩, ⟨c7, 3, 1, c8⟩] := (Mem.front (k := 1) (Mem.front (k := 0) h0 rfl) rfl)
   obtain ⟨i5, f2, z⟩ := br z
   obtain ⟨h9, i3, f6, e6⟩ := be9 (x0 := ({ p := c6.p, cells := c6.cells } : ak)) a4 a3 a0 a7 b1 b3 a5 a1 d1 c9 d2 d0 g7 (by omega)
   rw [f2] at e6
   obtain ⟨g1, f9, h5, e5, e4, e3, g0, e1⟩ := e6
   replace e1 := e1.symm; subst e1
   refine gu rfl rfl f6 (cw (mV rfl (cx (kn (ap ?_)))))
   obtain ⟨i2, g8, h6⟩ := qc (P := Tryz.prog) (k := 0) (t := tI) h5 rfl e4 e5 (Nat.le_trans e3 (by decide))
   subst z
   exact gi (.tmp rfl .nil) g8 h6

end Go.Proofs.YtmonnlkagniolaaGreat
