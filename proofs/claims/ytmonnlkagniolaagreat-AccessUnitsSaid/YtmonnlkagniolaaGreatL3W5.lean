/-
 The code of each function does what its plain program says.
-/
import Derived.Test.YtmonnlkagniolaaGreatL3W4
set_option linter.unusedVariables false
set_option linter.unusedSimpArgs false
set_option maxRecDepth 100000
namespace Go.Proofs.YtmonnlkagniolaaGreat
open Go Go.Pb Go.RowKit
def RF16 (res : (List Int)) (r : PV) : Prop := (tSl tI).R res r
theorem xf {S : List Fr} {res : (List Int)} {x0 : ab} {x1 : ct} {e0 : bh × Bool} {f2 e8 e9 e7 e6 f3 f0 f1 f9 h4 : PV} {e3 e5 e4 e2 : Nat} (hA : AB x0) (hc : x1.Cond.length ≤ 1000) (h5 : (decide (x1.Table = (-1))) = false) (j3 : fy x0 x1 = e0) (j4 : e0.1.Keys.length ≤ 24 ∧ e0.1.Actions.length ≤ 24) (i3 : (!e0.2) = false) (h8 : (tSl ee.t).R e0.1.Keys h4) {K0 : ai → (List Int)}
  (j6 : ∀ {zE103 : ai} {a4 a1 a0 a5 a7 a6 a3 a2 b1 : PV} {b7 : List PV} (b2 : (tSl bg.t).R zE103.p.Headers a4) (b0 : (tSl ay.t).R zE103.p.Metadata a1) (a8 : (tSl cg.t).R zE103.p.Registers a0) (b4 : (tSl bc.t).R zE103.p.Actions a5) (b6 : (tSl bh.t).R zE103.p.Tables a7) (b5 : (tSl bm.t).R zE103.p.States a6) (b3 : (tSl aj.t).R zE103.p.Control a3) (a9 : (tSl tI).R zE103.p.Deparser a2) (b8 : All2 tI.R zE103.cells b7) (c2 : isL b1 = true) (b9 : zE103.cells.length ≤ 4611686018427387904) (c1 : Wri b1 b7) (j7 : zE103.cells.length ≤ 24) {h : Heap} (M0 : Mem h [⟨b1, 3, 1, b7⟩, ⟨.op e4 e2 0, 59, 6, [f9]⟩, ⟨.op e3 e5 0, 118, 10, [.agg [vs zE103.p.Name, a4, a1, a0, a5, a7, a6, a3, a2, b1]]⟩]), K0 zE103 = res → PX Tryz.prog 0 S (QR Tryz.prog [(4, none)] (RF16 res)) [(2, .fp (.agg [vs x0.Name, f2, e8, e9, e7, e6, f3, f0, f1])), (5, .op e3 e5 0), (6, .op e4 e2 0)] h) :
  ∀ {m : Nat} {d7 : Int} {zE103 : ai} {a4 a1 a0 a5 a7 a6 a3 a2 b1 : PV} {b7 : List PV} (b2 : (tSl bg.t).R zE103.p.Headers a4) (b0 : (tSl ay.t).R zE103.p.Metadata a1) (a8 : (tSl cg.t).R zE103.p.Registers a0) (b4 : (tSl bc.t).R zE103.p.Actions a5) (b6 : (tSl bh.t).R zE103.p.Tables a7) (b5 : (tSl bm.t).R zE103.p.States a6) (b3 : (tSl aj.t).R zE103.p.Control a3) (a9 : (tSl tI).R zE103.p.Deparser a2) (b8 : All2 tI.R zE103.cells b7) (c2 : isL b1 = true) (b9 : zE103.cells.length ≤ 4611686018427387904) (c1 : Wri b1 b7) (j2 : m = Int.toNat ((e0.1.Keys.length : Int) - d7)) (i0 : 0 ≤ d7) (g3 : (zE103.cells.length : Int) ≤ d7) (g6 : d7 ≤ 24) {h : Heap} (M0 : Mem h [⟨b1, 3, 1, b7⟩, ⟨.op e4 e2 0, 59, 6, [f9]⟩, ⟨.op e3 e5 0, 118, 10, [.agg [vs zE103.p.Name, a4, a1, a0, a5, a7, a6, a3, a2, b1]]⟩]), kj e0 K0 m d7 zE103 = res → RC Tryz.prog (.loop cc0) S (QR Tryz.prog [(4, none)] (RF16 res)) [(39, vi d7), (38, vi (e0.1.Keys.length : Int)), (37, h4), (6, .op e4 e2 0), (5, .op e3 e5 0), (2, .fp (.agg [vs x0.Name, f2, e8, e9, e7, e6, f3, f0, f1]))] h := by
 have hc' := hc
 try simp only [qa, qaD] at hc'
 have h2 := h5
 try simp only [qa, qaD] at h2
 have g8 := i3
 try simp only [qa, qaD] at g8
 intro m
 induction m with
 | zero =>
  intro d7 zE103 a4 a1 a0 a5 a7 a6 a3 a2 b1 b7 b2 b0 a8 b4 b6 b5 b3 a9 b8 c2 b9 c1 j2 i0 g3 g6 h M0 hres
  rw [kj] at hres
  refine cj (sR (bN cn rfl rfl (nS (ap ?_))))
  refine cd rfl ?_ ?_ <;> intro c <;> try simp only [qa, qaD] at c
  ·omega
  refine dl (eh (de ?_))
  exact wP (j6 (zE103 := ({ p := zE103.p, cells := zE103.cells } : ai)) b2 b0 a8 b4 b6 b5 b3 a9 b8 c2 b9 c1 (by omega) (Mem.sub M0 (.cons_cons _ (.cons_cons _ (.cons_cons _ .slnil)))) hres) rfl
 | succ m ih =>
  intro d7 zE103 a4 a1 a0 a5 a7 a6 a3 a2 b1 b7 b2 b0 a8 b4 b6 b5 b3 a9 b8 c2 b9 c1 j2 i0 g3 g6 h M0 hres
  rw [kj] at hres
  refine cj (sR (bN cn rfl rfl (nS (ap ?_))))
  refine cd rfl ?_ ?_ <;> intro c <;> try simp only [qa, qaD] at c
  rotate_left
  ·omega
  refine az (au (ap (bf (sR ?_))))
  obtain ⟨g2, i7, h0⟩ := dh (i := d7) h8 (by omega) (by omega)
  refine af (bn rfl rfl i7) (lD h0 rfl rfl rfl ?_)
  refine ek (x := .agg [vi 0, vi 0, vi 0]) M0 rfl rfl (fun h3 g9 j5 i8 => ?_)
  refine dy (k := 0) (v := g2) i8 rfl rfl rfl (TR.cnt ee.t h0) (fun i2 g1 => ?_)
  replace g1 : Mem i2 [⟨.op h3 g9 0, 126, 3, [g2]⟩, ⟨b1, 3, 1, b7⟩, ⟨.op e4 e2 0, 59, 6, [f9]⟩, ⟨.op e3 e5 0, 118, 10, [.agg [vs zE103.p.Name, a4, a1, a0, a5, a7, a6, a3, a2, b1]]⟩] := g1
  refine nS (ep (co (mV rfl (cp (co (af (ba rfl) (cp (co ?_))))))))
  obtain ⟨h9, i5, h7⟩ := ee.g_Field h0
  refine af (bt (k := 0) g1 rfl rfl i5) (cp (co (af (v := .fs true [h9]) (fk rfl (all_cons (TR.cnt aa.t h7) iv)) ?_)))
  have i4 : (tSl aa.t).R ([(ix e0.1.Keys d7).Field] : List aa) (.fs true [h9]) := nk ⟨h7, trivial⟩ (by simp)
  refine cp ?_
  have i9 : Mem i2 [⟨.op e3 e5 0, 118, 10, [.agg [vs zE103.p.Name, a4, a1, a0, a5, a7, a6, a3, a2, b1]]⟩, ⟨b1, 3, 1, b7⟩, ⟨.op h3 g9 0, 126, 3, [g2]⟩, ⟨.op e4 e2 0, 59, 6, [f9]⟩] := (Mem.front (k := 3) (Mem.front (k := 1) g1 rfl) rfl)
  obtain ⟨h1, g4, hres⟩ := bp hres
  obtain ⟨j1, j0, i1, g5⟩ := ao8 (x0 := ({ p := zE103.p, cells := zE103.cells } : ai)) (x1 := ([(ix e0.1.Keys d7).Field] : List aa)) (x2 := ([] : List Int)) (x3 := ([] : List Int)) i4 fj fj b2 b0 a8 b4 b6 b5 b3 a9 b8 c2 b9 c1 i9 (by first | omega | ((try dsimp only); (try simp only [List.length_append, List.length_cons, List.length_nil]); omega) | simp)
  rw [g4] at g5
  obtain ⟨d5, c7, c4, d6, d9, d8, d2, c8, e1, f8, i6, d1, c5, c3, d0, d3, d4, c9, c6, f4, f6, f5, f7, g0⟩ := g5
  replace g0 := g0.symm; subst g0
  refine fx rfl rfl i1 ?_
  have g7 := ac0 g4; try simp only [List.length_cons, List.length_nil] at g7; try dsimp only at g7
  refine ju (cy (au (aw (bN dp rfl rfl (mV rfl (br ?_))))))
  have h6 : Mem j0 [⟨e1, 3, 1, f8⟩, ⟨.op e4 e2 0, 59, 6, [f9]⟩, ⟨.op e3 e5 0, 118, 10, [.agg [vs h1.p.Name, d5, c7, c4, d6, d9, d8, d2, c8, e1]]⟩, ⟨.op h3 g9 0, 126, 3, [g2]⟩] := (Mem.front (k := 2) (Mem.front (k := 3) (Mem.front (k := 0) i6 rfl) rfl) rfl)
  refine cx ?_
  have hbd := dc h8
  have hinc : wr (d7 + 1) = d7 + 1 := cv (by omega) (by omega)
  erw [hinc]
  exact wC (ih (zE103 := ({ p := h1.p, cells := h1.cells } : ai)) d1 c5 c3 d0 d3 d4 c9 c6 f4 f6 f5 f7 (by omega) (by omega) (by first | omega | ((try dsimp only); (try simp only [List.length_append, List.length_cons, List.length_nil]); omega) | simp) (by first | omega | ((try dsimp only); (try simp only [List.length_append, List.length_cons, List.length_nil]); omega) | simp) (Mem.sub h6 (.cons_cons _ (.cons_cons _ (.cons_cons _ (.cons _ .slnil))))) hres) rfl

theorem vt {S : List Fr} {res : (List Int)} {x0 : ab} {x1 : ct} {f1 : bh × Bool} {b7 : ai} {g7 g3 g4 g2 g1 g8 g5 g6 c8 c5 c4 c9 d4 d5 c7 c6 e6 : PV} {f0 : List PV} {j4 : PV} {h0 h5 : Nat} (hA : AB x0) (hc : x1.Cond.length ≤ 1000) (j1 : (decide (x1.Table = (-1))) = false) (l0 : fy x0 x1 = f1) (l1 : f1.1.Keys.length ≤ 24 ∧ f1.1.Actions.length ≤ 24) (k0 : (!f1.2) = false) (j0 : ab.t.R x0 (.agg [vs x0.Name, g7, g3, g4, g2, g1, g8, g5, g6])) (f6 : (tSl bg.t).R b7.p.Headers c8) (f4 : (tSl ay.t).R b7.p.Metadata c5) (f2 : (tSl cg.t).R b7.p.Registers c4) (f8 : (tSl bc.t).R b7.p.Actions c9) (g0 : (tSl bh.t).R b7.p.Tables d4) (f9 : (tSl bm.t).R b7.p.States d5) (f5 : (tSl aj.t).R b7.p.Control c7) (f3 : (tSl tI).R b7.p.Deparser c6) (h9 : isL e6 = true) (i0 : b7.cells.length ≤ 4611686018427387904) (h8 : Wri e6 f0) (k3 : b7.cells.length ≤ 24) (j3 : (tSl tI).R f1.1.Actions j4) {K2 : ai → (List Int)}
  (l3 : ∀ {zE103 : ai} {a4 a1 a0 a5 a7 a6 a3 a2 b6 : PV} {b8 : List PV} (b1 : (tSl bg.t).R zE103.p.Headers a4) (b0 : (tSl ay.t).R zE103.p.Metadata a1) (a8 : (tSl cg.t).R zE103.p.Registers a0) (b3 : (tSl bc.t).R zE103.p.Actions a5) (b5 : (tSl bh.t).R zE103.p.Tables a7) (b4 : (tSl bm.t).R zE103.p.States a6) (b2 : (tSl aj.t).R zE103.p.Control a3) (a9 : (tSl tI).R zE103.p.Deparser a2) (b9 : All2 tI.R zE103.cells b8) (c3 : isL b6 = true) (c1 : zE103.cells.length ≤ 4611686018427387904) (c2 : Wri b6 b8) (l7 : zE103.cells.length ≤ 960000) {h : Heap} (M0 : Mem h [⟨b6, 3, 1, b8⟩, ⟨.op h0 h5 0, 118, 10, [.agg [vs zE103.p.Name, a4, a1, a0, a5, a7, a6, a3, a2, b6]]⟩]), K2 zE103 = res → PX Tryz.prog 2 S (QR Tryz.prog [(4, none)] (RF16 res)) [(5, .op h0 h5 0)] h) :
  ∀ {m : Nat} {e9 : Int} {zE103 : ai} {a4 a1 a0 a5 a7 a6 a3 a2 b6 : PV} {b8 : List PV} (b1 : (tSl bg.t).R zE103.p.Headers a4) (b0 : (tSl ay.t).R zE103.p.Metadata a1) (a8 : (tSl cg.t).R zE103.p.Registers a0) (b3 : (tSl bc.t).R zE103.p.Actions a5) (b5 : (tSl bh.t).R zE103.p.Tables a7) (b4 : (tSl bm.t).R zE103.p.States a6) (b2 : (tSl aj.t).R zE103.p.Control a3) (a9 : (tSl tI).R zE103.p.Deparser a2) (b9 : All2 tI.R zE103.cells b8) (c3 : isL b6 = true) (c1 : zE103.cells.length ≤ 4611686018427387904) (c2 : Wri b6 b8) (k8 : m = Int.toNat ((f1.1.Actions.length : Int) - e9)) (j7 : 0 ≤ e9) (i2 : (zE103.cells.length : Int) ≤ 24 + 39000 * e9) (i6 : e9 ≤ 24) {h : Heap} (M0 : Mem h [⟨b6, 3, 1, b8⟩, ⟨.op h0 h5 0, 118, 10, [.agg [vs zE103.p.Name, a4, a1, a0, a5, a7, a6, a3, a2, b6]]⟩]), jg x0 f1 K2 m e9 zE103 = res → RC Tryz.prog (.loop co5) S (QR Tryz.prog [(4, none)] (RF16 res)) [(52, vi e9), (51, vi (f1.1.Actions.length : Int)), (50, j4), (5, .op h0 h5 0), (2, .fp (.agg [vs x0.Name, g7, g3, g4, g2, g1, g8, g5, g6]))] h := by
 have hc' := hc
 try simp only [qa, qaD] at hc'
 have i8 := j1
 try simp only [qa, qaD] at i8
 have i7 := k0
 try simp only [qa, qaD] at i7
 intro m
 induction m with
 | zero =>
  intro e9 zE103 a4 a1 a0 a5 a7 a6 a3 a2 b6 b8 b1 b0 a8 b3 b5 b4 b2 a9 b9 c3 c1 c2 k8 j7 i2 i6 h M0 hres
  rw [jg] at hres
  refine cj (sR (bN cn rfl rfl (nS (ap ?_))))
  refine cd rfl ?_ ?_ <;> intro c <;> try simp only [qa, qaD] at c
  ·omega
  refine dl (eh (de ?_))
  exact wP (l3 (zE103 := ({ p := zE103.p, cells := zE103.cells } : ai)) b1 b0 a8 b3 b5 b4 b2 a9 b9 c3 c1 c2 (by omega) (Mem.sub M0 (.cons_cons _ (.cons_cons _ .slnil))) hres) rfl
 | succ m ih =>
  intro e9 zE103 a4 a1 a0 a5 a7 a6 a3 a2 b6 b8 b1 b0 a8 b3 b5 b4 b2 a9 b9 c3 c1 c2 k8 j7 i2 i6 h M0 hres
  rw [jg] at hres
  refine cj (sR (bN cn rfl rfl (nS (ap ?_))))
  refine cd rfl ?_ ?_ <;> intro c <;> try simp only [qa, qaD] at c
  rotate_left
  ·omega
  refine az (au (ap (bf (sR (af (bn rfl rfl (slI j3 (by omega) (by omega))) (lR rfl rfl rfl (mV rfl (nS ?_))))))))
  refine ep (co (mV rfl (cp (co (lD j0 rfl rfl rfl (cp (co (mV rfl ?_))))))))
  refine cp (co ?_)
  obtain ⟨h4, i5, hres⟩ := bp hres
  obtain ⟨l4, l6, l5, k5, j9, j8, j5⟩ := cw5 (x1 := (ix f1.1.Actions e9)) j0 
  rw [i5] at j9 j8 j5
  have k9 : h4.1.length ≤ 13000 ∧ h4.2.1.length ≤ 13000 ∧ h4.2.2.length ≤ 13000 := wu i5
  refine cL k5 rfl rfl (ak (TR.clo ab.t j0) (ak rfl bd)) (cp (co (xT rfl rfl (cp (co (xT rfl rfl (cp (co ?_))))))))
  refine xT rfl rfl (cp ?_)
  have k7 : Mem h [⟨.op h0 h5 0, 118, 10, [.agg [vs zE103.p.Name, a4, a1, a0, a5, a7, a6, a3, a2, b6]]⟩, ⟨b6, 3, 1, b8⟩] := (Mem.front (k := 1) (Mem.front (k := 0) M0 rfl) rfl)
  obtain ⟨i9, i4, hres⟩ := bp hres
  obtain ⟨l2, k6, j2, i3⟩ := ao8 (x0 := ({ p := zE103.p, cells := zE103.cells } : ai)) (x1 := h4.1) (x2 := h4.2.1) (x3 := h4.2.2) j9 j8 j5 b1 b0 a8 b3 b5 b4 b2 a9 b9 c3 c1 c2 k7 (by first | omega | ((try dsimp only); (try simp only [List.length_append, List.length_cons, List.length_nil]); omega) | simp)
  rw [i4] at i3
  obtain ⟨e3, d7, d3, e1, e8, e7, e5, d6, f7, h2, k4, e0, d2, d0, d9, e2, e4, d8, d1, h6, h1, g9, h3, h7⟩ := i3
  replace h7 := h7.symm; subst h7
  refine fx rfl rfl j2 ?_
  have i1 := ac0 i4; try simp only [List.length_cons, List.length_nil] at i1; try dsimp only at i1
  refine ju (cy (au (aw (bN dp rfl rfl (mV rfl (br ?_))))))
  have j6 : Mem k6 [⟨f7, 3, 1, h2⟩, ⟨.op h0 h5 0, 118, 10, [.agg [vs i9.p.Name, e3, d7, d3, e1, e8, e7, e5, d6, f7]]⟩] := (Mem.front (k := 1) (Mem.front (k := 0) k4 rfl) rfl)
  refine cx ?_
  have hbd := dc j3
  have hinc : wr (e9 + 1) = e9 + 1 := cv (by omega) (by omega)
  erw [hinc]
  exact wC (ih (zE103 := ({ p := i9.p, cells := i9.cells } : ai)) e0 d2 d0 d9 e2 e4 d8 d1 h6 h1 g9 h3 (by omega) (by omega) (by first | omega | ((try dsimp only); (try simp only [List.length_append, List.length_cons, List.length_nil]); omega) | simp) (by first | omega | ((try dsimp only); (try simp only [List.length_append, List.length_cons, List.length_nil]); omega) | simp) (Mem.sub j6 (.cons_cons _ (.cons_cons _ .slnil))) hres) rfl

theorem da9 {x0 : ab} {x1 : ct} {v0 v1 : PV} (r0 : ab.t.R x0 v0) (r1 : ct.t.R x1 v1) (hA : AB x0) (hc : x1.Cond.length ≤ 1000) : ∃ r, FnR Tryz.prog 16 [v0, v1] r ∧ (tSl tI).R (pw x0 x1) r := by
 refine fnT (R := RF16) bw8 rfl fun res hres => ?_
 unfold pw at hres
 refine sR (af (dn rfl (TR.cnt ab.t r0)) (af (dn rfl (TR.cnt ct.t r1)) (af (v := nilS) (ax rfl) (nR (lD r0 rfl rfl rfl ?_)))))
 obtain ⟨a7, a2, a3, a1, a0, a8, a5, a6, q2, e5, d8, e3, e7, f0, e8, f2, e2⟩ := r0
 subst q2
 refine af (v := .agg [vs x0.Name, a7, a2, a3, a1, a0, a8, a5, a6, nilS]) (lr (cs := [vs x0.Name, a7, a2, a3, a1, a0, a8, a5, a6, nilS]) rfl rfl) ?_
 refine ak8 (x := .agg [vs x0.Name, a7, a2, a3, a1, a0, a8, a5, a6, nilS]) (Mem.nil ⟨0, []⟩) rfl rfl (fun j3 k0 o8 n2 => ?_)
 refine mV rfl (nS (ap (sR (fL rfl (ct.g_Table r1) rfl rfl (bN (dj (b := -1)) rfl rfl (nS ?_))))))
 refine bz hres rfl ?_ ?_ <;> clear hres <;> intro i4 hres <;> have l4 := i4 <;> try simp only [qa, qaD] at l4
 ·refine ap (ad1 (mV rfl (gL (ct.g_Cond r1) rfl rfl rfl fun r6 n0 => ?_)))
  obtain ⟨m8, k8, hres⟩ := bp hres
  obtain ⟨s3, o9, l7⟩ := br6  n0 (by first | assumption | omega | (rw [cv (by omega) (by omega)]; omega))
  rw [k8] at l7
  have q6 : m8.length ≤ x1.Cond.length := by rw [← k8]; exact pz _
  refine cL o9 rfl rfl (ak (TR.clo (tSl ae.t) n0) bd) (gL (ct.g_Cond r1) rfl rfl rfl fun s2 m1 => ?_)
  obtain ⟨n1, k4, hres⟩ := bp hres
  obtain ⟨r7, o2, l5⟩ := br3  m1 (by first | assumption | omega | (rw [cv (by omega) (by omega)]; omega))
  rw [k4] at l5
  have q7 : n1.length ≤ x1.Cond.length := by rw [← k4]; exact po _
  refine cL o2 rfl rfl (ak (TR.clo (tSl ae.t) m1) bd) ?_
  refine br (at0 ?_)
  have o0 := nz (sz := 1) (es := []) n2 3 (.inl ⟨none, rfl, rfl⟩) (by simp)
  have p3 : Mem o8 [⟨.op j3 k0 0, 118, 10, [.agg [vs x0.Name, a7, a2, a3, a1, a0, a8, a5, a6, nilS]]⟩, ⟨nilS, 3, 1, ([] : List PV)⟩] := (Mem.front (k := 1) (Mem.front (k := 0) o0 rfl) rfl)
  obtain ⟨l3, k5, hres⟩ := bp hres
  obtain ⟨r2, o3, l8, k6⟩ := ao8 (x0 := ({ p := x0, cells := ([] : List Int) } : ai)) (x1 := m8) (x2 := n1) (x3 := ([] : List Int)) l7 l5 fj e5 d8 e3 e7 f0 e8 f2 e2 (show All2 tI.R ([] : List Int) [] from trivial) rfl (by first | decide | simp) (.inl rfl) p3 (by first | omega | ((try dsimp only); (try simp only [List.length_append, List.length_cons, List.length_nil]); omega) | simp)
  rw [k5] at k6
  obtain ⟨f7, e4, d4, f6, g1, g0, f8, e9, h0, i0, p5, e0, d3, c8, d7, f3, f4, d9, d5, i1, i2, i3, h9, i7⟩ := k6
  replace i7 := i7.symm; subst i7
  refine fx rfl rfl l8 ?_
  have k9 := ac0 k5; try simp only [List.length_cons, List.length_nil] at k9; try dsimp only at k9
  refine ju (au (ap (ep (co (mV rfl (cp ?_))))))
  have q1 : Mem o3 [⟨.op j3 k0 0, 118, 10, [.agg [vs l3.p.Name, f7, e4, d4, f6, g1, g0, f8, e9, h0]]⟩, ⟨h0, 3, 1, i0⟩] := (Mem.front (k := 1) (Mem.front (k := 1) p5 rfl) rfl)
  obtain ⟨r8, m6, hres⟩ := bp hres
  obtain ⟨q9, s4, l6, k7⟩ := aw3 (x0 := ({ p := l3.p, cells := l3.cells } : ai)) e0 d3 c8 d7 f3 f4 d9 d5 i1 i2 i3 h9 q1 (by first | omega | ((try dsimp only); (try simp only [List.length_append, List.length_cons, List.length_nil]); omega) | simp)
  rw [m6] at k7
  obtain ⟨n9, n7, p6, j5, j9, j8, n5, i6⟩ := k7
  replace i6 := i6.symm; subst i6
  refine fx rfl rfl l6 (co (mV rfl (cp (ju (au ?_)))))
  obtain ⟨s0, p7, q4⟩ := ov (P := Tryz.prog) (k := 0) (t := tI) p6 rfl j9 j5 (Nat.le_trans j8 (by decide))
  subst hres
  exact fw (.tmp rfl .nil) p7 q4
 ·refine az (au (sR (lR rfl rfl rfl (lD r1 rfl rfl rfl ?_))))
  obtain ⟨m4, h8, hres⟩ := bp hres
  obtain ⟨m0, m7, j2⟩ := bt6  (show ab.t.R x0 (.agg [vs x0.Name, a7, a2, a3, a1, a0, a8, a5, a6]) from ⟨a7, a2, a3, a1, a0, a8, a5, a6, rfl, e5, d8, e3, e7, f0, e8, f2, e2⟩) r1 
  rw [h8] at m7 j2
  have l1 : m4.1.Keys.length ≤ 24 ∧ m4.1.Actions.length ≤ 24 := aa2 h8 hA
  refine cL m7 rfl rfl (ak (TR.clo ab.t (show ab.t.R x0 (.agg [vs x0.Name, a7, a2, a3, a1, a0, a8, a5, a6]) from ⟨a7, a2, a3, a1, a0, a8, a5, a6, rfl, e5, d8, e3, e7, f0, e8, f2, e2⟩)) (ak (TR.clo ct.t r1) bd)) (mV rfl (xT rfl rfl (xT rfl rfl ?_)))
  refine ek (x := .agg [vs [], nilS, nilS, vi 0, nilS, vi 0]) n2 rfl rfl (fun p9 o1 r3 q5 => ?_)
  refine dy (k := 0) (v := m0) q5 rfl rfl rfl (TR.cnt bh.t j2) (fun o6 j0 => ?_)
  replace j0 : Mem o6 [⟨.op p9 o1 0, 59, 6, [m0]⟩, ⟨.op j3 k0 0, 118, 10, [.agg [vs x0.Name, a7, a2, a3, a1, a0, a8, a5, a6, nilS]]⟩] := j0
  refine mV rfl (nS (ap (sR (mV rfl (af (kp rfl) (nS ?_))))))
  refine bz hres rfl ?_ ?_ <;> clear hres <;> intro i8 hres <;> have l2 := i8 <;> try simp only [qa, qaD] at l2
  ·refine sR (af (v := nilS) (ax rfl) (nS ?_))
   exact rR hres rfl (TR.clo (tSl tI) fj) fj
  ·refine az (au (ap (sR (af (ba rfl) ?_))))
   obtain ⟨r4, p8, m5⟩ := bh.g_Keys j2
   refine af (bt (k := 0) j0 rfl rfl p8) (af (cq rfl (ci m5 Tryz.underlying57 _)) (mI rfl (nS (bf ?_))))
   have p0 := nz (sz := 1) (es := []) j0 3 (.inl ⟨none, rfl, rfl⟩) (by simp)
   have q3 : ab.t.R x0 (.agg [vs x0.Name, a7, a2, a3, a1, a0, a8, a5, a6]) := ⟨a7, a2, a3, a1, a0, a8, a5, a6, rfl, e5, d8, e3, e7, f0, e8, f2, e2⟩
   refine wC (xf hA hc i4 h8 l1 i8 m5 ?_  (zE103 := ({ p := x0, cells := ([] : List Int) } : ai)) e5 d8 e3 e7 f0 e8 f2 e2 aL rfl (by first | decide | simp) (.inl rfl) rfl (by omega) (by first | omega | ((try dsimp only); (try simp only [List.length_append, List.length_cons, List.length_nil]); omega) | simp) (by first | omega | ((try dsimp only); (try simp only [List.length_append, List.length_cons, List.length_nil]); omega) | simp) (Mem.sub p0 (.cons_cons _ (.cons_cons _ (.cons_cons _ .slnil)))) hres) rfl
   ·intro g2 h4 h1 g9 h5 h6 h7 h3 h2 k3 j6 b2 b0 a4 b3 b5 b4 b1 a9 g6 e6 f1 e1 i9 r5 l9 hres
    refine em (au (ap (sR (af (ba rfl) ?_))))
    obtain ⟨r9, p4, m2⟩ := bh.g_Actions j2
    refine af (bt (k := 1) l9 rfl rfl p4) (af (cq rfl (ci m2 Tryz.underlying29 _)) (mI rfl (nS (bf ?_))))
    refine wC (vt hA hc i4 h8 l1 i8 q3 b2 b0 a4 b3 b5 b4 b1 a9 e6 f1 e1 i9 m2 ?_  (zE103 := ({ p := g2.p, cells := g2.cells } : ai)) b2 b0 a4 b3 b5 b4 b1 a9 g6 e6 f1 e1 rfl (by omega) (by first | omega | ((try dsimp only); (try simp only [List.length_append, List.length_cons, List.length_nil]); omega) | simp) (by first | omega | ((try dsimp only); (try simp only [List.length_append, List.length_cons, List.length_nil]); omega) | simp) (Mem.sub l9 (.cons_cons _ (.cons _ (.cons_cons _ .slnil)))) hres) rfl
    ·intro f5 c6 c1 b9 c9 d6 d2 c7 c2 f9 g8 c4 b7 b6 c5 d0 d1 c3 b8 g7 g5 g3 g4 n6 p2 o5 hres
     refine em (au (ap (ep (co (mV rfl (cp ?_))))))
     have q0 : Mem p2 [⟨.op j3 k0 0, 118, 10, [.agg [vs f5.p.Name, c6, c1, b9, c9, d6, d2, c7, c2, f9]]⟩, ⟨f9, 3, 1, g8⟩] := (Mem.front (k := 1) (Mem.front (k := 0) o5 rfl) rfl)
     obtain ⟨s5, m9, hres⟩ := bp hres
     obtain ⟨q8, s6, m3, l0⟩ := aw3 (x0 := ({ p := f5.p, cells := f5.cells } : ai)) c4 b7 b6 c5 d0 d1 c3 b8 g7 g5 g3 g4 q0 (by first | omega | ((try dsimp only); (try simp only [List.length_append, List.length_cons, List.length_nil]); omega) | simp)
     rw [m9] at l0
     obtain ⟨n3, n4, o4, j7, j4, j1, n8, i5⟩ := l0
     replace i5 := i5.symm; subst i5
     refine fx rfl rfl m3 (co (mV rfl (cp (ju (au ?_)))))
     obtain ⟨s1, o7, p1⟩ := ov (P := Tryz.prog) (k := 0) (t := tI) o4 rfl j4 j7 (Nat.le_trans j1 (by decide))
     subst hres
     exact fw (.tmp rfl .nil) o7 p1

def RF180 (res : Bool) (r : PV) : Prop := r = vb res
theorem cp8 {x0 : aa} {x1 : aa} {v0 v1 : PV} (r0 : aa.t.R x0 v0) (r1 : aa.t.R x1 v1) : FnR Tryz.prog 180 [v0, v1] (vb (ip x0 x1)) := by
 refine fnS (R := RF180) ce7 (fun _ h => h) rfl fun res hres => ?_
 unfold ip at hres
 refine sR (af (dn rfl (TR.cnt aa.t r0)) (af (dn rfl (TR.cnt aa.t r1)) (mB rfl (nR (fL rfl (aa.g_Header r0) rfl rfl (fL rfl (aa.g_Header r1) rfl rfl (bN cn rfl rfl (mV rfl ?_))))))))
 refine ca 13 (d := 23) (v := vb ((decide (x0.Header < x1.Header)) || ((decide (x0.Header = x1.Header)) && (decide (x0.Field < x1.Field))))) ?_ ?_
 ·intro S Q r
  cases a3 : (decide (x0.Header < x1.Header))
  ·intro k
   have a1 := a3
   try simp only [qa, qaD] at a1
   refine ah rfl rfl (bw rfl (aa.g_Header r0)) (ah rfl rfl (bv rfl rfl rfl) (ah rfl rfl (bw rfl (aa.g_Header r1)) (ah rfl rfl (bv rfl rfl rfl) (ah rfl rfl (cb rfl rfl dj) (ah rfl rfl (ax rfl) ?_)))))
   refine ca 6 (d := 22) (v := vb ((decide (x0.Header = x1.Header)) && (decide (x0.Field < x1.Field)))) ?_ ?_
   ·intro S Q r
    cases a2 : (decide (x0.Header = x1.Header))
    ·intro k
     refine ij rfl rfl (ij rfl rfl (ij rfl rfl (ij rfl rfl (ij rfl rfl (ah (v := vb false) rfl rfl (nr rfl rfl rfl rfl) ?_)))))
     exact wD k rfl
    ·intro k
     have a0 := a2
     try simp only [qa, qaD] at a0
     refine ah rfl rfl (bw rfl (aa.g_Field r0)) (ah rfl rfl (bv rfl rfl rfl) (ah rfl rfl (bw rfl (aa.g_Field r1)) (ah rfl rfl (bv rfl rfl rfl) (ah rfl rfl (cb rfl rfl cn) (ah (v := vb (decide (x0.Field < x1.Field))) rfl rfl (nr rfl rfl rfl rfl) ?_)))))
     exact wD k rfl
   exact gK rfl rfl rfl rfl rfl k
  ·exact gN 12 rfl rfl rfl rfl rfl rfl
 refine mV rfl (nS ?_)
 exact rR hres rfl rfl rfl

def RF113 (res : (List aa)) (r : PV) : Prop := (tSl aa.t).R res r
theorem tx {S : List Fr} {res : (List aa)} {x0 : List aa} {x1 : aa} {v0 v1 : PV} (r0 : (tSl aa.t).R x0 v0) (r1 : aa.t.R x1 v1) (hb : x0.length ≤ 100000) {K0 : Bool → (List aa) → (List aa)}
  (h8 : ∀ {b2 : Bool} {zE102 : List aa} {a0 : List PV} {a1 : PV} (a2 : All2 aa.t.R zE102 a0) (a5 : isL a1 = true) (a3 : Wri a1 a0) (a7 : zE102.length ≤ 4611686018427387904) (i0 : zE102.length ≤ 200000) {h : Heap} (M0 : Mem h [⟨a1, 87, 2, a0⟩]), K0 b2 zE102 = res → PX Tryz.prog 0 S (QR Tryz.prog [(4, none)] (RF113 res)) [(3, .fp v1), (5, a1), (6, vb b2)] h) :
  ∀ {m : Nat} {b2 : Bool} {a4 : Int} {zE102 : List aa} {a0 : List PV} {a1 : PV} (a2 : All2 aa.t.R zE102 a0) (a5 : isL a1 = true) (a3 : Wri a1 a0) (a7 : zE102.length ≤ 4611686018427387904) (g8 : m = Int.toNat ((x0.length : Int) - a4)) (e5 : 0 ≤ a4) (b3 : (zE102.length : Int) ≤ 2 * a4) (b5 : a4 ≤ (x0.length : Int)) {h : Heap} (M0 : Mem h [⟨a1, 87, 2, a0⟩]), fe x0 x1 K0 m b2 a4 zE102 = res → RC Tryz.prog (.loop bo6) S (QR Tryz.prog [(4, none)] (RF113 res)) [(7, vi a4), (6, vb b2), (5, a1), (3, .fp v1), (0, v0)] h := by
 have hb' := hb
 try simp only [qa, qaD] at hb'
 intro m
 induction m with
 | zero =>
  intro b2 a4 zE102 a0 a1 a2 a5 a3 a7 g8 e5 b3 b5 h M0 hres
  rw [fe] at hres
  refine cj (ap (sR (mV rfl (mV rfl (af (cq rfl (ci r0 Tryz.underlying75 _)) (bN cn rfl rfl (nS ?_)))))))
  refine cd rfl ?_ ?_ <;> intro c <;> try simp only [qa, qaD] at c
  ·omega
  refine dl (eh (de ?_))
  exact wP (h8 a2 a5 a3 a7 (by omega) (Mem.sub M0 (.cons_cons _ .slnil)) hres) rfl
 | succ m ih =>
  intro b2 a4 zE102 a0 a1 a2 a5 a3 a7 g8 e5 b3 b5 h M0 hres
  rw [fe] at hres
  refine cj (ap (sR (mV rfl (mV rfl (af (cq rfl (ci r0 Tryz.underlying75 _)) (bN cn rfl rfl (nS ?_)))))))
  refine cd rfl ?_ ?_ <;> intro c <;> try simp only [qa, qaD] at c
  rotate_left
  ·omega
  refine az (au (ap (bf (ap (sR (mV rfl (af (kp rfl) (mV rfl ?_))))))))
  refine ca 8 (d := 24) (v := vb ((!b2) && (!(ip (ix x0 a4) x1)))) ?_ ?_
  ·intro S Q r
   cases e6 : (!b2)
   ·exact gN 7 rfl rfl rfl rfl rfl rfl
   ·intro k
    have c1 := e6
    try simp only [qa, qaD] at c1
    refine ah rfl rfl (ax rfl) (ah rfl rfl (ax rfl) ?_)
    obtain ⟨h4, f1, b1⟩ := dh (i := a4) r0 (by omega) (by omega)
    refine ah rfl rfl (bn rfl rfl f1) (ah rfl rfl (bv rfl (TR.cnt aa.t b1) (TR.agg aa.t b1)) (ah rfl rfl (bv rfl (TR.cnt aa.t r1) (TR.agg aa.t r1)) ?_))
    have g1 := cp8  b1 r1 
    refine mn rfl rfl (rp rfl rfl (ak (TR.clo aa.t b1) (ak (TR.clo aa.t r1) bd)) g1) (ah rfl rfl (kp rfl) ?_)
    exact gK rfl rfl rfl rfl rfl k
  refine nS ?_
  refine bz hres rfl ?_ ?_ <;> clear hres <;> intro c hres <;> try simp only [qa, qaD] at c
  ·refine sR (mB rfl (nR (mV rfl (mV rfl ?_))))
   obtain ⟨h7, g0, c6⟩ := dh (i := a4) r0 (by omega) (by omega)
   refine af (bn rfl rfl g0) (lD c6 rfl rfl rfl (lD r1 rfl rfl rfl (bN (aa.neq_87 c6 r1) rfl rfl (nS ?_))))
   refine bz hres rfl ?_ ?_ <;> clear hres <;> intro c hres <;> try simp only [qa, qaD] at c
   ·refine aw (mV rfl (lD r1 rfl rfl rfl (af (v := .fs true [v1]) (fk rfl (all_cons (TR.cnt aa.t r1) iv)) ?_)))
    have f7 : (tSl aa.t).R ([x1] : List aa) (.fs true [v1]) := nk ⟨r1, trivial⟩ (by simp)
    obtain ⟨a6, d8, b8⟩ := lc (t := aa.t) (h := h) f7
    have e2 : fits (a0.length + a6.length) 16 = true := by rw [All2.length_eq a2, All2.length_eq b8]; (try simp only [List.length_cons, List.length_nil]); exact jb (by first | omega | (simp only [List.length_append, List.length_cons, List.length_nil]; omega)) (by first | omega | (simp only [List.length_append, List.length_cons, List.length_nil]; omega))
    refine jd (k := 0) (es := a0) (news := a6) M0 rfl rfl rfl a5 a3 d8 e2 (fun h1 g7 f0 c9 e9 => ?_)
    have b9 : All2 aa.t.R (zE102 ++ ([x1] : List aa)) (a0 ++ a6) := All2.app a2 b8
    have g9 : (zE102 ++ ([x1] : List aa)).length ≤ 4611686018427387904 := by rw [← All2.length_eq b9, List.length_append]; exact gz e2
    refine mV rfl (nS (aw (mV rfl (mV rfl (mV rfl ?_)))))
    obtain ⟨e7, f4, c4⟩ := dh (i := a4) r0 (by omega) (by omega)
    refine af (bn rfl rfl f4) (lD c4 rfl rfl rfl (af (v := .fs true [e7]) (fk rfl (all_cons (TR.cnt aa.t c4) iv)) ?_))
    have f6 : (tSl aa.t).R ([(ix x0 a4)] : List aa) (.fs true [e7]) := nk ⟨c4, trivial⟩ (by simp)
    obtain ⟨a8, c7, b7⟩ := lc (t := aa.t) (h := g7) f6
    have e1 : fits ((a0 ++ a6).length + a8.length) 16 = true := by rw [All2.length_eq b9, All2.length_eq b7]; (try simp only [List.length_cons, List.length_nil]); exact jb (by first | omega | (simp only [List.length_append, List.length_cons, List.length_nil]; omega)) (by first | omega | (simp only [List.length_append, List.length_cons, List.length_nil]; omega))
    refine jd (k := 0) (es := (a0 ++ a6)) (news := a8) e9 rfl rfl rfl f0 c9 c7 e1 (fun h3 h9 g2 e4 g3 => ?_)
    have e3 : All2 aa.t.R ((zE102 ++ ([x1] : List aa)) ++ ([(ix x0 a4)] : List aa)) ((a0 ++ a6) ++ a8) := All2.app b9 b7
    have e8 : ((zE102 ++ ([x1] : List aa)) ++ ([(ix x0 a4)] : List aa)).length ≤ 4611686018427387904 := by rw [← All2.length_eq e3, List.length_append]; exact gz e1
    refine mV rfl (br (cy (au (aw (mV rfl (bN dp rfl rfl (mV rfl (br ?_))))))))
    refine cx ?_
    have hbd := dc r0
    have hinc : wr (a4 + 1) = a4 + 1 := cv (by omega) (by omega)
    erw [hinc]
    exact wC (ih  e3 g2 e4 e8 (by omega) (by omega) (by first | omega | (simp only [List.length_append, List.length_cons, List.length_nil]; omega)) (by first | omega | (simp only [List.length_append, List.length_cons, List.length_nil]; omega)) (Mem.sub g3 (.cons_cons _ .slnil)) hres) rfl
   ·refine az (au (aw (mV rfl (mV rfl (mV rfl ?_)))))
    obtain ⟨e0, f5, c2⟩ := dh (i := a4) r0 (by omega) (by omega)
    refine af (bn rfl rfl f5) (lD c2 rfl rfl rfl (af (v := .fs true [e0]) (fk rfl (all_cons (TR.cnt aa.t c2) iv)) ?_))
    have f8 : (tSl aa.t).R ([(ix x0 a4)] : List aa) (.fs true [e0]) := nk ⟨c2, trivial⟩ (by simp)
    obtain ⟨b0, d2, b4⟩ := lc (t := aa.t) (h := h) f8
    have d3 : fits (a0.length + b0.length) 16 = true := by rw [All2.length_eq a2, All2.length_eq b4]; (try simp only [List.length_cons, List.length_nil]); exact jb (by first | omega | (simp only [List.length_append, List.length_cons, List.length_nil]; omega)) (by first | omega | (simp only [List.length_append, List.length_cons, List.length_nil]; omega))
    refine jd (k := 0) (es := a0) (news := b0) M0 rfl rfl rfl a5 a3 d2 d3 (fun h6 h0 f9 d9 g4 => ?_)
    have d1 : All2 aa.t.R (zE102 ++ ([(ix x0 a4)] : List aa)) (a0 ++ b0) := All2.app a2 b4
    have d7 : (zE102 ++ ([(ix x0 a4)] : List aa)).length ≤ 4611686018427387904 := by rw [← All2.length_eq d1, List.length_append]; exact gz d3
    refine mV rfl (br (cy (au (aw (mV rfl (bN dp rfl rfl (mV rfl (br ?_))))))))
    refine cx ?_
    have hbd := dc r0
    have hinc : wr (a4 + 1) = a4 + 1 := cv (by omega) (by omega)
    erw [hinc]
    exact wC (ih  d1 f9 d9 d7 (by omega) (by omega) (by first | omega | (simp only [List.length_append, List.length_cons, List.length_nil]; omega)) (by first | omega | (simp only [List.length_append, List.length_cons, List.length_nil]; omega)) (Mem.sub g4 (.cons_cons _ .slnil)) hres) rfl
  ·refine az (au (aw (mV rfl (mV rfl (mV rfl ?_)))))
   obtain ⟨c5, g5, c3⟩ := dh (i := a4) r0 (by omega) (by omega)
   refine af (bn rfl rfl g5) (lD c3 rfl rfl rfl (af (v := .fs true [c5]) (fk rfl (all_cons (TR.cnt aa.t c3) iv)) ?_))
   have f3 : (tSl aa.t).R ([(ix x0 a4)] : List aa) (.fs true [c5]) := nk ⟨c3, trivial⟩ (by simp)
   obtain ⟨a9, d5, b6⟩ := lc (t := aa.t) (h := h) f3
   have d6 : fits (a0.length + a9.length) 16 = true := by rw [All2.length_eq a2, All2.length_eq b6]; (try simp only [List.length_cons, List.length_nil]); exact jb (by first | omega | (simp only [List.length_append, List.length_cons, List.length_nil]; omega)) (by first | omega | (simp only [List.length_append, List.length_cons, List.length_nil]; omega))
   refine jd (k := 0) (es := a0) (news := a9) M0 rfl rfl rfl a5 a3 d5 d6 (fun h5 h2 f2 d0 g6 => ?_)
   have d4 : All2 aa.t.R (zE102 ++ ([(ix x0 a4)] : List aa)) (a0 ++ a9) := All2.app a2 b6
   have c8 : (zE102 ++ ([(ix x0 a4)] : List aa)).length ≤ 4611686018427387904 := by rw [← All2.length_eq d4, List.length_append]; exact gz d6
   refine mV rfl (br (cy (au (aw (mV rfl (bN dp rfl rfl (mV rfl (br ?_))))))))
   refine cx ?_
   have hbd := dc r0
   have hinc : wr (a4 + 1) = a4 + 1 := cv (by omega) (by omega)
   erw [hinc]
   exact wC (ih  d4 f2 d0 c8 (by omega) (by omega) (by first | omega | (simp only [List.length_append, List.length_cons, List.length_nil]; omega)) (by first | omega | (simp only [List.length_append, List.length_cons, List.length_nil]; omega)) (Mem.sub g6 (.cons_cons _ .slnil)) hres) rfl

theorem ac2 {x0 : List aa} {x1 : aa} {v0 v1 : PV} (r0 : (tSl aa.t).R x0 v0) (r1 : aa.t.R x1 v1) (hb : x0.length ≤ 100000) : ∃ r, FnR Tryz.prog 113 [v0, v1] r ∧ (tSl aa.t).R (jf x0 x1) r := by
 refine fnT (R := RF113) ci0 rfl fun res hres => ?_
 unfold jf at hres
 refine sR (af (dn rfl (TR.cnt aa.t r1)) (af (v := nilS) (ax rfl) (nR (af (v := nilS) (ax rfl) (nR (mB rfl (nS (ap ?_))))))))
 refine sR (mI rfl (nS (bf ?_)))
 have b7 := nz (sz := 2) (es := []) (Mem.nil ⟨0, []⟩) 87 (.inl ⟨none, rfl, rfl⟩) (by simp)
 refine wC (tx r0 r1 hb ?_  aL rfl (.inl rfl) (by first | decide | simp) rfl (by omega) (by first | omega | simp) (by first | omega | simp) (Mem.sub b7 (.cons_cons _ .slnil)) hres) rfl
 ·intro b8 a2 a0 b2 a1 a3 a4 a5 b4 c5 b3 hres
  refine em (au (ap (sR (mV rfl (af (kp rfl) (nS ?_))))))
  refine bz hres rfl ?_ ?_ <;> clear hres <;> intro c hres <;> try simp only [qa, qaD] at c
  ·refine aw (mV rfl (lD r1 rfl rfl rfl (af (v := .fs true [v1]) (fk rfl (all_cons (TR.cnt aa.t r1) iv)) ?_)))
   have b9 : (tSl aa.t).R ([x1] : List aa) (.fs true [v1]) := nk ⟨r1, trivial⟩ (by simp)
   obtain ⟨a6, a8, a7⟩ := lc (t := aa.t) (h := c5) b9
   have b1 : fits (a0.length + a6.length) 16 = true := by rw [All2.length_eq a1, All2.length_eq a7]; (try simp only [List.length_cons, List.length_nil]); exact jb (by first | omega | (simp only [List.length_append, List.length_cons, List.length_nil]; omega)) (by first | omega | (simp only [List.length_append, List.length_cons, List.length_nil]; omega))
   refine jd (k := 0) (es := a0) (news := a6) b3 rfl rfl rfl a3 a4 a8 b1 (fun c8 c9 c3 c6 b6 => ?_)
   have a9 : All2 aa.t.R (a2 ++ ([x1] : List aa)) (a0 ++ a6) := All2.app a1 a7
   have b0 : (a2 ++ ([x1] : List aa)).length ≤ 4611686018427387904 := by rw [← All2.length_eq a9, List.length_append]; exact gz b1
   refine mV rfl (nR (mV rfl (mV rfl (nS ?_))))
   obtain ⟨c7, c4, c1⟩ := ov (P := Tryz.prog) (k := 0) (t := aa.t) b6 rfl c3 a9 (Nat.le_trans b0 (by decide))
   subst hres
   exact fw (.tmp rfl .nil) c4 c1
  ·refine az (au (sR (mV rfl (mV rfl (nS ?_)))))
   obtain ⟨d0, c2, b5⟩ := ov (P := Tryz.prog) (k := 0) (t := aa.t) b3 rfl a3 a1 (Nat.le_trans a5 (by decide))
   subst hres
   exact fw (.tmp rfl .nil) c2 b5

def RF71 (res : (List aa)) (r : PV) : Prop := (tSl aa.t).R res r
theorem wb {S : List Fr} {res : (List aa)} {x0 : List ae} {v0 : PV} (r0 : (tSl ae.t).R x0 v0) (hb : x0.length ≤ 1000) {K0 : (List aa) → (List aa)}
  (b7 : ∀ {a3 : List aa} {a4 : PV} (a5 : (tSl aa.t).R a3 a4), K0 a3 = res → PX Tryz.prog 0 S (QR Tryz.prog [(2, none)] (RF71 res)) [(3, a4)] ⟨0, []⟩) :
  ∀ {m : Nat} {a3 : List aa} {a0 : Int} {a4 : PV} (a5 : (tSl aa.t).R a3 a4) (b6 : m = Int.toNat ((x0.length : Int) - a0)) (a7 : 0 ≤ a0) (a1 : (a3.length : Int) ≤ a0), ji x0 K0 m a3 a0 = res → RC Tryz.prog (.loop cd3) S (QR Tryz.prog [(2, none)] (RF71 res)) [(4, vi a0), (3, a4), (0, v0)] ⟨0, []⟩ := by
 have hb' := hb
 try simp only [qa, qaD] at hb'
 intro m
 induction m with
 | zero =>
  intro a3 a0 a4 a5 b6 a7 a1 hres
  rw [ji] at hres
  refine cj (ap (sR (mV rfl (mV rfl (af (cq rfl (ci r0 Tryz.underlying32 _)) (bN cn rfl rfl (nS ?_)))))))
  refine cd rfl ?_ ?_ <;> intro c <;> try simp only [qa, qaD] at c
  ·omega
  refine dl (eh (de ?_))
  exact wP (b7 a5 hres) rfl
 | succ m ih =>
  intro a3 a0 a4 a5 b6 a7 a1 hres
  rw [ji] at hres
  refine cj (ap (sR (mV rfl (mV rfl (af (cq rfl (ci r0 Tryz.underlying32 _)) (bN cn rfl rfl (nS ?_)))))))
  refine cd rfl ?_ ?_ <;> intro c <;> try simp only [qa, qaD] at c
  rotate_left
  ·omega
  refine az (au (ap (bf (sR (mV rfl (mV rfl ?_))))))
  obtain ⟨b8, a8, b1⟩ := dh (i := a0) r0 (by omega) (by omega)
  refine af (bn rfl rfl a8) (fL rfl (ae.g_Op b1) rfl rfl (bN dj rfl rfl (nS ?_)))
  refine bz hres rfl ?_ ?_ <;> clear hres <;> intro c hres <;> try simp only [qa, qaD] at c
  ·refine aw (mV rfl (mV rfl (mV rfl ?_)))
   obtain ⟨c3, b3, a9⟩ := dh (i := a0) r0 (by omega) (by omega)
   refine af (bn rfl rfl b3) (fL rfl (ae.g_N a9) rfl rfl (mV rfl (mV rfl ?_)))
   obtain ⟨b9, b2, b0⟩ := dh (i := a0) r0 (by omega) (by omega)
   refine af (bn rfl rfl b2) (fL rfl (ae.g_W b0) rfl rfl (af (v := .agg [vi ((ix x0 a0).N), vi ((ix x0 a0).W)]) (lr (cs := [vi ((ix x0 a0).N), vi ((ix x0 a0).W)]) rfl rfl) ?_))
   obtain ⟨c2, a2, hres⟩ := bp hres
   obtain ⟨c1, b4, a6⟩ := ac2  a5 (show aa.t.R ({ Header := (ix x0 a0).N, Field := (ix x0 a0).W } : aa) (.agg [vi ((ix x0 a0).N), vi ((ix x0 a0).W)]) from rfl) (by first | assumption | omega | (rw [cv (by omega) (by omega)]; omega))
   rw [a2] at a6
   have b5 := AddField_len a2
   refine cL b4 rfl rfl (ak (TR.clo (tSl aa.t) a5) (ak (TR.clo aa.t (show aa.t.R ({ Header := (ix x0 a0).N, Field := (ix x0 a0).W } : aa) (.agg [vi ((ix x0 a0).N), vi ((ix x0 a0).W)]) from rfl)) bd)) (mV rfl (br (cy (au (aw (mV rfl (bN dp rfl rfl (mV rfl ?_))))))))
   refine br (cx ?_)
   have hbd := dc r0
   have hinc : wr (a0 + 1) = a0 + 1 := cv (by omega) (by omega)
   erw [hinc]
   exact wC (ih  a6 (by omega) (by omega) (by first | omega | (simp; done) | (simp only [List.length_append, List.length_cons, List.length_nil, List.length_set]; omega)) hres) rfl
  ·refine az (cy (au (aw (mV rfl (bN dp rfl rfl (mV rfl (br (cx ?_))))))))
   have hbd := dc r0
   have hinc : wr (a0 + 1) = a0 + 1 := cv (by omega) (by omega)
   erw [hinc]
   exact wC (ih  a5 (by omega) (by omega) (by first | omega | (simp; done) | (simp only [List.length_append, List.length_cons, List.length_nil, List.length_set]; omega)) hres) rfl

theorem bx7 {x0 : List ae} {v0 : PV} (r0 : (tSl ae.t).R x0 v0) (hb : x0.length ≤ 1000) : ∃ r, FnR Tryz.prog 71 [v0] r ∧ (tSl aa.t).R (lw x0) r := by
 refine fnT (R := RF71) cz9 rfl fun res hres => ?_
 unfold lw at hres
 refine sR (af (v := nilS) (ax rfl) (nR (af (v := nilS) (ax rfl) (nS (ap (sR (mI rfl (nS ?_))))))))
 refine bf ?_
 refine wC (wb r0 hb ?_  fj rfl (by omega) (by simp) hres) rfl
 ·intro a1 a2 a0 hres
  refine em (au (sR (mV rfl (mV rfl (nS ?_)))))
  exact rR hres rfl (TR.clo (tSl aa.t) a0) a0

def RF112 (res : (List Int)) (r : PV) : Prop := (tSl tI).R res r
theorem vo {S : List Fr} {res : (List Int)} {x0 : List Int} {x1 : Int} {v0 : PV} (r0 : (tSl tI).R x0 v0) (hb : x0.length ≤ 100000) {K0 : Bool → (List Int) → (List Int)}
  (g1 : ∀ {b1 : Bool} {zE102 : List Int} {a0 : List PV} {a1 : PV} (a2 : All2 tI.R zE102 a0) (a5 : isL a1 = true) (a3 : Wri a1 a0) (a7 : zE102.length ≤ 4611686018427387904) (g4 : zE102.length ≤ 200000) {h : Heap} (M0 : Mem h [⟨a1, 3, 1, a0⟩]), K0 b1 zE102 = res → PX Tryz.prog 0 S (QR Tryz.prog [(4, none)] (RF112 res)) [(1, vi x1), (5, a1), (6, vb b1)] h) :
  ∀ {m : Nat} {b1 : Bool} {a4 : Int} {zE102 : List Int} {a0 : List PV} {a1 : PV} (a2 : All2 tI.R zE102 a0) (a5 : isL a1 = true) (a3 : Wri a1 a0) (a7 : zE102.length ≤ 4611686018427387904) (f5 : m = Int.toNat ((x0.length : Int) - a4)) (d5 : 0 ≤ a4) (b2 : (zE102.length : Int) ≤ 2 * a4) (b3 : a4 ≤ (x0.length : Int)) {h : Heap} (M0 : Mem h [⟨a1, 3, 1, a0⟩]), ga x0 x1 K0 m b1 a4 zE102 = res → RC Tryz.prog (.loop bt1) S (QR Tryz.prog [(4, none)] (RF112 res)) [(7, vi a4), (6, vb b1), (5, a1), (1, vi x1), (0, v0)] h := by
 have hb' := hb
 try simp only [qa, qaD] at hb'
 intro m
 induction m with
 | zero =>
  intro b1 a4 zE102 a0 a1 a2 a5 a3 a7 f5 d5 b2 b3 h M0 hres
  rw [ga] at hres
  refine cj (ap (sR (mV rfl (mV rfl (af (cq rfl (ci r0 Tryz.underlying29 _)) (bN cn rfl rfl (nS ?_)))))))
  refine cd rfl ?_ ?_ <;> intro c <;> try simp only [qa, qaD] at c
  ·omega
  refine dl (eh (de ?_))
  exact wP (g1 a2 a5 a3 a7 (by omega) (Mem.sub M0 (.cons_cons _ .slnil)) hres) rfl
 | succ m ih =>
  intro b1 a4 zE102 a0 a1 a2 a5 a3 a7 f5 d5 b2 b3 h M0 hres
  rw [ga] at hres
  refine cj (ap (sR (mV rfl (mV rfl (af (cq rfl (ci r0 Tryz.underlying29 _)) (bN cn rfl rfl (nS ?_)))))))
  refine cd rfl ?_ ?_ <;> intro c <;> try simp only [qa, qaD] at c
  rotate_left
  ·omega
  refine az (au (ap (bf (ap (sR (mV rfl (af (kp rfl) (mV rfl ?_))))))))
  refine ca 7 (d := 23) (v := vb ((!b1) && (decide (x1 ≤ (ix x0 a4))))) ?_ ?_
  ·intro S Q r
   cases d9 : (!b1)
   ·exact gN 6 rfl rfl rfl rfl rfl rfl
   ·intro k
    have b8 := d9
    try simp only [qa, qaD] at b8
    refine ah rfl rfl (ax rfl) (ah rfl rfl (ax rfl) (ah rfl rfl (bn rfl rfl (slI r0 (by omega) (by omega))) (ah rfl rfl (bv rfl rfl rfl) (ah rfl rfl (ax rfl) (ah rfl rfl (cb rfl rfl kt) ?_)))))
    exact gK rfl rfl rfl rfl rfl k
  refine nS ?_
  refine bz hres rfl ?_ ?_ <;> clear hres <;> intro c hres <;> try simp only [qa, qaD] at c
  ·refine sR (mB rfl (nR (mV rfl (mV rfl (af (bn rfl rfl (slI r0 (by omega) (by omega))) (lR rfl rfl rfl (mV rfl (bN ks rfl rfl ?_))))))))
   refine nS ?_
   refine bz hres rfl ?_ ?_ <;> clear hres <;> intro c hres <;> try simp only [qa, qaD] at c
   ·refine aw (mV rfl (mV rfl (af (v := .fs true [vi x1]) (fk rfl (all_cons rfl iv)) ?_)))
    have e6 : (tSl tI).R ([x1] : List Int) (.fs true [vi x1]) := nk ⟨rfl, trivial⟩ (by simp)
    obtain ⟨a6, d7, b6⟩ := lc (t := tI) (h := h) e6
    have c1 : fits (a0.length + a6.length) 8 = true := by rw [All2.length_eq a2, All2.length_eq b6]; (try simp only [List.length_cons, List.length_nil]); exact jb (by first | omega | (simp only [List.length_append, List.length_cons, List.length_nil]; omega)) (by first | omega | (simp only [List.length_append, List.length_cons, List.length_nil]; omega))
    refine jd (k := 0) (es := a0) (news := a6) M0 rfl rfl rfl a5 a3 d7 c1 (fun f9 e5 e3 c5 e7 => ?_)
    have b9 : All2 tI.R (zE102 ++ ([x1] : List Int)) (a0 ++ a6) := All2.app a2 b6
    have f4 : (zE102 ++ ([x1] : List Int)).length ≤ 4611686018427387904 := by rw [← All2.length_eq b9, List.length_append]; exact gz c1
    refine mV rfl (nS (aw (mV rfl (mV rfl (mV rfl (af (bn rfl rfl (slI r0 (by omega) (by omega))) (lR rfl rfl rfl (af (v := .fs true [vi (ix x0 a4)]) (fk rfl (all_cons rfl iv)) ?_))))))))
    have e1 : (tSl tI).R ([(ix x0 a4)] : List Int) (.fs true [vi (ix x0 a4)]) := nk ⟨rfl, trivial⟩ (by simp)
    obtain ⟨b0, c4, b7⟩ := lc (t := tI) (h := e5) e1
    have d8 : fits ((a0 ++ a6).length + b0.length) 8 = true := by rw [All2.length_eq b9, All2.length_eq b7]; (try simp only [List.length_cons, List.length_nil]); exact jb (by first | omega | (simp only [List.length_append, List.length_cons, List.length_nil]; omega)) (by first | omega | (simp only [List.length_append, List.length_cons, List.length_nil]; omega))
    refine jd (k := 0) (es := (a0 ++ a6)) (news := b0) e7 rfl rfl rfl e3 c5 c4 d8 (fun f7 g0 e8 c6 e9 => ?_)
    have c7 : All2 tI.R ((zE102 ++ ([x1] : List Int)) ++ ([(ix x0 a4)] : List Int)) ((a0 ++ a6) ++ b0) := All2.app b9 b7
    have c3 : ((zE102 ++ ([x1] : List Int)) ++ ([(ix x0 a4)] : List Int)).length ≤ 4611686018427387904 := by rw [← All2.length_eq c7, List.length_append]; exact gz d8
    refine mV rfl (br (cy (au (aw (mV rfl (bN dp rfl rfl (mV rfl (br ?_))))))))
    refine cx ?_
    have hbd := dc r0
    have hinc : wr (a4 + 1) = a4 + 1 := cv (by omega) (by omega)
    erw [hinc]
    exact wC (ih  c7 e8 c6 c3 (by omega) (by omega) (by first | omega | (simp only [List.length_append, List.length_cons, List.length_nil]; omega)) (by first | omega | (simp only [List.length_append, List.length_cons, List.length_nil]; omega)) (Mem.sub e9 (.cons_cons _ .slnil)) hres) rfl
   ·refine az (au (aw (mV rfl (mV rfl (mV rfl (af (bn rfl rfl (slI r0 (by omega) (by omega))) (lR rfl rfl rfl (af (v := .fs true [vi (ix x0 a4)]) (fk rfl (all_cons rfl iv)) ?_))))))))
    have f0 : (tSl tI).R ([(ix x0 a4)] : List Int) (.fs true [vi (ix x0 a4)]) := nk ⟨rfl, trivial⟩ (by simp)
    obtain ⟨a8, d6, b4⟩ := lc (t := tI) (h := h) f0
    have d1 : fits (a0.length + a8.length) 8 = true := by rw [All2.length_eq a2, All2.length_eq b4]; (try simp only [List.length_cons, List.length_nil]); exact jb (by first | omega | (simp only [List.length_append, List.length_cons, List.length_nil]; omega)) (by first | omega | (simp only [List.length_append, List.length_cons, List.length_nil]; omega))
    refine jd (k := 0) (es := a0) (news := a8) M0 rfl rfl rfl a5 a3 d6 d1 (fun f8 g3 e2 d0 e4 => ?_)
    have c8 : All2 tI.R (zE102 ++ ([(ix x0 a4)] : List Int)) (a0 ++ a8) := All2.app a2 b4
    have c9 : (zE102 ++ ([(ix x0 a4)] : List Int)).length ≤ 4611686018427387904 := by rw [← All2.length_eq c8, List.length_append]; exact gz d1
    refine mV rfl (br (cy (au (aw (mV rfl (bN dp rfl rfl (mV rfl (br ?_))))))))
    refine cx ?_
    have hbd := dc r0
    have hinc : wr (a4 + 1) = a4 + 1 := cv (by omega) (by omega)
    erw [hinc]
    exact wC (ih  c8 e2 d0 c9 (by omega) (by omega) (by first | omega | (simp only [List.length_append, List.length_cons, List.length_nil]; omega)) (by first | omega | (simp only [List.length_append, List.length_cons, List.length_nil]; omega)) (Mem.sub e4 (.cons_cons _ .slnil)) hres) rfl
  ·refine az (au (aw (mV rfl (mV rfl (mV rfl (af (bn rfl rfl (slI r0 (by omega) (by omega))) (lR rfl rfl rfl (af (v := .fs true [vi (ix x0 a4)]) (fk rfl (all_cons rfl iv)) ?_))))))))
   have f1 : (tSl tI).R ([(ix x0 a4)] : List Int) (.fs true [vi (ix x0 a4)]) := nk ⟨rfl, trivial⟩ (by simp)
   obtain ⟨a9, c2, b5⟩ := lc (t := tI) (h := h) f1
   have d2 : fits (a0.length + a9.length) 8 = true := by rw [All2.length_eq a2, All2.length_eq b5]; (try simp only [List.length_cons, List.length_nil]); exact jb (by first | omega | (simp only [List.length_append, List.length_cons, List.length_nil]; omega)) (by first | omega | (simp only [List.length_append, List.length_cons, List.length_nil]; omega))
   refine jd (k := 0) (es := a0) (news := a9) M0 rfl rfl rfl a5 a3 c2 d2 (fun f6 g2 f2 d4 f3 => ?_)
   have d3 : All2 tI.R (zE102 ++ ([(ix x0 a4)] : List Int)) (a0 ++ a9) := All2.app a2 b5
   have e0 : (zE102 ++ ([(ix x0 a4)] : List Int)).length ≤ 4611686018427387904 := by rw [← All2.length_eq d3, List.length_append]; exact gz d2
   refine mV rfl (br (cy (au (aw (mV rfl (bN dp rfl rfl (mV rfl (br ?_))))))))
   refine cx ?_
   have hbd := dc r0
   have hinc : wr (a4 + 1) = a4 + 1 := cv (by omega) (by omega)
   erw [hinc]
   exact wC (ih  d3 f2 d4 e0 (by omega) (by omega) (by first | omega | (simp only [List.length_append, List.length_cons, List.length_nil]; omega)) (by first | omega | (simp only [List.length_append, List.length_cons, List.length_nil]; omega)) (Mem.sub f3 (.cons_cons _ .slnil)) hres) rfl

theorem sr {x0 : List Int} {x1 : Int} {v0 : PV} (r0 : (tSl tI).R x0 v0) (hb : x0.length ≤ 100000) : ∃ r, FnR Tryz.prog 112 [v0, vi x1] r ∧ (tSl tI).R (gb x0 x1) r := by
 refine fnT (R := RF112) ci6 rfl fun res hres => ?_
 unfold gb at hres
 refine sR (af (v := nilS) (ax rfl) (nR (af (v := nilS) (ax rfl) (nR (mB rfl (nS (ap (sR ?_))))))))
 refine mI rfl (nS (bf ?_))
 have b8 := nz (sz := 1) (es := []) (Mem.nil ⟨0, []⟩) 3 (.inl ⟨none, rfl, rfl⟩) (by simp)
 refine wC (vo r0 hb ?_  aL rfl (.inl rfl) (by first | decide | simp) rfl (by omega) (by first | omega | simp) (by first | omega | simp) (Mem.sub b8 (.cons_cons _ .slnil)) hres) rfl
 ·intro c3 a2 a0 b2 a1 a3 a5 a4 b4 c4 b3 hres
  refine em (au (ap (sR (mV rfl (af (kp rfl) (nS ?_))))))
  refine bz hres rfl ?_ ?_ <;> clear hres <;> intro c hres <;> try simp only [qa, qaD] at c
  ·refine aw (mV rfl (mV rfl (af (v := .fs true [vi x1]) (fk rfl (all_cons rfl iv)) ?_)))
   have b9 : (tSl tI).R ([x1] : List Int) (.fs true [vi x1]) := nk ⟨rfl, trivial⟩ (by simp)
   obtain ⟨a6, a8, a7⟩ := lc (t := tI) (h := c4) b9
   have b0 : fits (a0.length + a6.length) 8 = true := by rw [All2.length_eq a1, All2.length_eq a7]; (try simp only [List.length_cons, List.length_nil]); exact jb (by first | omega | (simp only [List.length_append, List.length_cons, List.length_nil]; omega)) (by first | omega | (simp only [List.length_append, List.length_cons, List.length_nil]; omega))
   refine jd (k := 0) (es := a0) (news := a6) b3 rfl rfl rfl a3 a5 a8 b0 (fun d0 c9 b6 c6 c2 => ?_)
   have a9 : All2 tI.R (a2 ++ ([x1] : List Int)) (a0 ++ a6) := All2.app a1 a7
   have b1 : (a2 ++ ([x1] : List Int)).length ≤ 4611686018427387904 := by rw [← All2.length_eq a9, List.length_append]; exact gz b0
   refine mV rfl (nR (mV rfl (mV rfl (nS ?_))))
   obtain ⟨c7, b7, c1⟩ := ov (P := Tryz.prog) (k := 0) (t := tI) c2 rfl b6 a9 (Nat.le_trans b1 (by decide))
   subst hres
   exact fw (.tmp rfl .nil) b7 c1
  ·refine az (au (sR (mV rfl (mV rfl (nS ?_)))))
   obtain ⟨c8, c5, b5⟩ := ov (P := Tryz.prog) (k := 0) (t := tI) b3 rfl a3 a1 (Nat.le_trans a4 (by decide))
   subst hres
   exact fw (.tmp rfl .nil) c5 b5

def RF72 (res : (List Int)) (r : PV) : Prop := (tSl tI).R res r
theorem vd {S : List Fr} {res : (List Int)} {x0 : List ae} {v0 : PV} (r0 : (tSl ae.t).R x0 v0) (hb : x0.length ≤ 1000) {K0 : (List Int) → (List Int)}
  (b6 : ∀ {a3 : List Int} {a4 : PV} (a5 : (tSl tI).R a3 a4), K0 a3 = res → PX Tryz.prog 0 S (QR Tryz.prog [(2, none)] (RF72 res)) [(3, a4)] ⟨0, []⟩) :
  ∀ {m : Nat} {a3 : List Int} {a0 : Int} {a4 : PV} (a5 : (tSl tI).R a3 a4) (b4 : m = Int.toNat ((x0.length : Int) - a0)) (a7 : 0 ≤ a0) (a1 : (a3.length : Int) ≤ a0), iw x0 K0 m a3 a0 = res → RC Tryz.prog (.loop cp6) S (QR Tryz.prog [(2, none)] (RF72 res)) [(4, vi a0), (3, a4), (0, v0)] ⟨0, []⟩ := by
 have hb' := hb
 try simp only [qa, qaD] at hb'
 intro m
 induction m with
 | zero =>
  intro a3 a0 a4 a5 b4 a7 a1 hres
  rw [iw] at hres
  refine cj (ap (sR (mV rfl (mV rfl (af (cq rfl (ci r0 Tryz.underlying32 _)) (bN cn rfl rfl (nS ?_)))))))
  refine cd rfl ?_ ?_ <;> intro c <;> try simp only [qa, qaD] at c
  ·omega
  refine dl (eh (de ?_))
  exact wP (b6 a5 hres) rfl
 | succ m ih =>
  intro a3 a0 a4 a5 b4 a7 a1 hres
  rw [iw] at hres
  refine cj (ap (sR (mV rfl (mV rfl (af (cq rfl (ci r0 Tryz.underlying32 _)) (bN cn rfl rfl (nS ?_)))))))
  refine cd rfl ?_ ?_ <;> intro c <;> try simp only [qa, qaD] at c
  rotate_left
  ·omega
  refine az (au (ap (bf (sR (mV rfl (mV rfl ?_))))))
  obtain ⟨b7, a8, b1⟩ := dh (i := a0) r0 (by omega) (by omega)
  refine af (bn rfl rfl a8) (fL rfl (ae.g_Op b1) rfl rfl (bN dj rfl rfl (nS ?_)))
  refine bz hres rfl ?_ ?_ <;> clear hres <;> intro c hres <;> try simp only [qa, qaD] at c
  ·refine aw (mV rfl (mV rfl (mV rfl ?_)))
   obtain ⟨b9, b2, a9⟩ := dh (i := a0) r0 (by omega) (by omega)
   refine af (bn rfl rfl b2) (fL rfl (ae.g_N a9) rfl rfl ?_)
   obtain ⟨b8, a2, hres⟩ := bp hres
   obtain ⟨b5, b0, a6⟩ := sr (x1 := (ix x0 a0).N) a5 (by first | assumption | omega | (rw [cv (by omega) (by omega)]; omega))
   rw [a2] at a6
   have b3 := AddInt_len a2
   refine cL b0 rfl rfl (ak (TR.clo (tSl tI) a5) (ak rfl bd)) (mV rfl (br (cy (au (aw (mV rfl (bN dp rfl rfl (mV rfl ?_))))))))
   refine br (cx ?_)
   have hbd := dc r0
   have hinc : wr (a0 + 1) = a0 + 1 := cv (by omega) (by omega)
   erw [hinc]
   exact wC (ih  a6 (by omega) (by omega) (by first | omega | (simp; done) | (simp only [List.length_append, List.length_cons, List.length_nil, List.length_set]; omega)) hres) rfl
  ·refine az (cy (au (aw (mV rfl (bN dp rfl rfl (mV rfl (br (cx ?_))))))))
   have hbd := dc r0
   have hinc : wr (a0 + 1) = a0 + 1 := cv (by omega) (by omega)
   erw [hinc]
   exact wC (ih  a5 (by omega) (by omega) (by first | omega | (simp; done) | (simp only [List.length_append, List.length_cons, List.length_nil, List.length_set]; omega)) hres) rfl

theorem bt3 {x0 : List ae} {v0 : PV} (r0 : (tSl ae.t).R x0 v0) (hb : x0.length ≤ 1000) : ∃ r, FnR Tryz.prog 72 [v0] r ∧ (tSl tI).R (kv x0) r := by
 refine fnT (R := RF72) cy9 rfl fun res hres => ?_
 unfold kv at hres
 refine sR (af (v := nilS) (ax rfl) (nR (af (v := nilS) (ax rfl) (nS (ap (sR (mI rfl (nS ?_))))))))
 refine bf ?_
 refine wC (vd r0 hb ?_  fj rfl (by omega) (by simp) hres) rfl
 ·intro a1 a2 a0 hres
  refine em (au (sR (mV rfl (mV rfl (nS ?_)))))
  exact rR hres rfl (TR.clo (tSl tI) a0) a0

end Go.Proofs.YtmonnlkagniolaaGreat
