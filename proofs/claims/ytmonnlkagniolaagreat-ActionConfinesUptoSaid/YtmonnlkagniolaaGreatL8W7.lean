/-
 The code of each function does what its plain program says.
-/
import Derived.Test.YtmonnlkagniolaaGreatL8W6
set_option linter.unusedVariables false
set_option linter.unusedSimpArgs false
set_option maxRecDepth 100000
namespace Go.Proofs.YtmonnlkagniolaaGreat
open Go Go.Pb Go.RowKit
def RF139 (res : Int) (r : PV) : Prop := r = vi res
theorem cq7 {x0 : aa} {x1 : aa} {v0 v1 : PV} (r0 : aa.t.R x0 v0) (r1 : aa.t.R x1 v1) : FnR Tryz.prog 139 [v0, v1] (vi (jt x0 x1)) := by
 refine fnS (R := RF139) ao2 (fun _ h => h) rfl fun res s => ?_
 unfold jt at s
 refine sR (ae (dm rfl (TR.cnt aa.t r0)) (ae (dm rfl (TR.cnt aa.t r1)) (mI rfl (nR (fL rfl (aa.g_Header r0) rfl rfl (fL rfl (aa.g_Header r1) rfl rfl ?_))))))
 obtain ⟨a0, a7, s⟩ := bt s
 have a8 := ae2 (x0 := x0.Header) (x1 := x1.Header)  
 rw [a7] at a8
 refine cL a8 rfl rfl (ai rfl (ai rfl bf)) (fL rfl (aa.g_Field r0) rfl rfl (fL rfl (aa.g_Field r1) rfl rfl ?_))
 obtain ⟨a1, a4, s⟩ := bt s
 have a5 := ae2 (x0 := x0.Field) (x1 := x1.Field)  
 rw [a4] at a5
 refine cL a5 rfl rfl (ai rfl (ai rfl bf)) (ae (v := .fs true [vi a0, vi a1]) (kt rfl (all_cons rfl (all_cons rfl nn))) ?_)
 have a2 : (tSl tI).R ([a0, a1] : List Int) (.fs true [vi a0, vi a1]) := vj ⟨rfl, ⟨rfl, trivial⟩⟩ (by simp)
 obtain ⟨a9, a6, s⟩ := bt s
 have a3 := be0  a2 
 rw [a6] at a3
 refine cL a3 rfl rfl (ai (TR.clo (tSl tI) a2) bf) (mV rfl (nS ?_))
 exact rR s rfl rfl rfl

def RF179 (res : Int) (r : PV) : Prop := r = vi res
theorem cg5 {x0 : aa} {x1 : aa} {v0 v1 : PV} (r0 : aa.t.R x0 v0) (r1 : aa.t.R x1 v1) : FnR Tryz.prog 179 [v0, v1] (vi (fa x0 x1)) := by
 refine fnS (R := RF179) ar2 (fun _ h => h) rfl fun res s => ?_
 unfold fa at s
 refine sR (ae (dm rfl (TR.cnt aa.t r0)) (ae (dm rfl (TR.cnt aa.t r1)) (mI rfl (nR (fL rfl (aa.g_Header r0) rfl rfl (fL rfl (aa.g_Header r1) rfl rfl ?_))))))
 obtain ⟨a0, a7, s⟩ := bt s
 have a8 := ae2 (x0 := x0.Header) (x1 := x1.Header)  
 rw [a7] at a8
 refine cL a8 rfl rfl (ai rfl (ai rfl bf)) (fL rfl (aa.g_Field r0) rfl rfl (fL rfl (aa.g_Field r1) rfl rfl ?_))
 obtain ⟨a1, a4, s⟩ := bt s
 have a5 := ae2 (x0 := x0.Field) (x1 := x1.Field)  
 rw [a4] at a5
 refine cL a5 rfl rfl (ai rfl (ai rfl bf)) (ae (v := .fs true [vi a0, vi a1]) (kt rfl (all_cons rfl (all_cons rfl nn))) ?_)
 have a2 : (tSl tI).R ([a0, a1] : List Int) (.fs true [vi a0, vi a1]) := vj ⟨rfl, ⟨rfl, trivial⟩⟩ (by simp)
 obtain ⟨a9, a6, s⟩ := bt s
 have a3 := be0  a2 
 rw [a6] at a3
 refine cL a3 rfl rfl (ai (TR.clo (tSl tI) a2) bf) (mV rfl (nS ?_))
 exact rR s rfl rfl rfl

def RF138139 (a0 : PV) (R_ : List Ent) (res : List aa) (r : PV) (h : Heap) : Prop := ∃ es : List PV, Mem h (⟨a0, 87, 2, es⟩ :: R_) ∧ All2 aa.t.R res es ∧ res.length ≤ 4611686018427387904 ∧ Wri a0 es ∧ r = .tup []
theorem cz1 {x0 : List aa} {a0 : PV} {a1 : List PV} {R_ : List Ent} {h_ : Heap} (q : All2 aa.t.R x0 a1) (ne : isL a0 = true) (hl : x0.length ≤ 4611686018427387904) (wi : Wri a0 a1) (M : Mem h_ (⟨a0, 87, 2, a1⟩ :: R_)) (hb : x0.length ≤ 1000000) : ∃ r a2, FnX Tryz.prog 138 [a0, .fn (.func 139) [] []] h_ r a2 ∧ RF138139 a0 R_ (pm x0) r a2 := by
 obtain ⟨r, h2, X, es', M2, q2, w2, hr⟩ := aj6 (t := aa.t) (mk := frmk) (enc := frenc) (cf := jt) ap3.enters (fun x v h => h) (fun x => rfl) (fun x => rfl) (fun x => rfl) (fun x u hu => by simp [frenc] at hu; rcases hu with rfl | rfl <;> rfl) (fun x y => cq7 rfl rfl) (fun blk off cap d w hc hH hb hs => Go.Proofs.Tryz.sortF_calls frenc (fun x => rfl) (fun x u hu => by simp [frenc] at hu; rcases hu with rfl | rfl <;> rfl) jt di4 bu8 139 ao2.enters blk off cap d w hc hH hb hs) (fun p cap w => Go.Proofs.Tryz.sortF_none p cap _ w) q ne hb wi M
 exact ⟨r, h2, X, es', M2, q2, by rw [pm, List.length_mergeSort]; exact hl, w2, hr⟩

def RF138179 (a0 : PV) (R_ : List Ent) (res : List aa) (r : PV) (h : Heap) : Prop := ∃ es : List PV, Mem h (⟨a0, 87, 2, es⟩ :: R_) ∧ All2 aa.t.R res es ∧ res.length ≤ 4611686018427387904 ∧ Wri a0 es ∧ r = .tup []
theorem bb2 {x0 : List aa} {a0 : PV} {a1 : List PV} {R_ : List Ent} {h_ : Heap} (q : All2 aa.t.R x0 a1) (ne : isL a0 = true) (hl : x0.length ≤ 4611686018427387904) (wi : Wri a0 a1) (M : Mem h_ (⟨a0, 87, 2, a1⟩ :: R_)) (hb : x0.length ≤ 1000000) : ∃ r a2, FnX Tryz.prog 138 [a0, .fn (.func 179) [] []] h_ r a2 ∧ RF138179 a0 R_ (kr x0) r a2 := by
 obtain ⟨r, h2, X, es', M2, q2, w2, hr⟩ := aj6 (t := aa.t) (mk := frmk) (enc := frenc) (cf := fa) ap3.enters (fun x v h => h) (fun x => rfl) (fun x => rfl) (fun x => rfl) (fun x u hu => by simp [frenc] at hu; rcases hu with rfl | rfl <;> rfl) (fun x y => cg5 rfl rfl) (fun blk off cap d w hc hH hb hs => Go.Proofs.Tryz.sortF_calls frenc (fun x => rfl) (fun x u hu => by simp [frenc] at hu; rcases hu with rfl | rfl <;> rfl) fa db9 bt5 179 ar2.enters blk off cap d w hc hH hb hs) (fun p cap w => Go.Proofs.Tryz.sortF_none p cap _ w) q ne hb wi M
 exact ⟨r, h2, X, es', M2, q2, by rw [kr, List.length_mergeSort]; exact hl, w2, hr⟩

def RF143 (a0 : PV) (R_ : List Ent) (res : List Int) (r : PV) (h : Heap) : Prop := ∃ es : List PV, Mem h (⟨a0, 3, 1, es⟩ :: R_) ∧ All2 tI.R res es ∧ res.length ≤ 4611686018427387904 ∧ Wri a0 es ∧ r = .tup []
theorem bn4 {x0 : List Int} {a0 : PV} {a1 : List PV} {R_ : List Ent} {h_ : Heap} (q : All2 tI.R x0 a1) (ne : isL a0 = true) (hl : x0.length ≤ 4611686018427387904) (wi : Wri a0 a1) (M : Mem h_ (⟨a0, 3, 1, a1⟩ :: R_)) (hb : x0.length ≤ 1000000) : ∃ r a2, FnX Tryz.prog 143 [a0] h_ r a2 ∧ RF143 a0 R_ (ko x0) r a2 := by
 obtain ⟨r, h2, X, es', M2, q2, w2, hr⟩ := bb5 bd0.enters Go.Proofs.Tryz.sortI_calls Go.Proofs.Tryz.sortI_none q ne hb wi M
 exact ⟨r, h2, X, es', M2, q2, by rw [ko, List.length_mergeSort]; exact hl, w2, hr⟩

theorem cq4 {x0 : List aa} {a0 : PV} {a1 : List PV} {R_ : List Ent} {h_ : Heap} (q : All2 aa.t.R x0 a1) (ne : isL a0 = true) (hl : x0.length ≤ 4611686018427387904) (wi : Wri a0 a1) (M : Mem h_ (⟨a0, 87, 2, a1⟩ :: R_)) : ∃ r a2, FnX Tryz.prog 142 [a0] h_ r a2 ∧ RF142 R_ (io x0) r a2 := bs9 q ne hl wi M

theorem bl3 {x0 : List Int} {a0 : PV} {a1 : List PV} {R_ : List Ent} {h_ : Heap} (q : All2 tI.R x0 a1) (ne : isL a0 = true) (hl : x0.length ≤ 4611686018427387904) (wi : Wri a0 a1) (M : Mem h_ (⟨a0, 3, 1, a1⟩ :: R_)) : ∃ r a2, FnX Tryz.prog 144 [a0] h_ r a2 ∧ RF144 R_ (ku x0) r a2 := cb2 q ne hl wi M

def RF110 (i0_ w0_ : Nat) (R_ : List Ent) (res : (List aa) × (List Int) × (List Int)) (r : PV) (h : Heap) : Prop := ∃ asR0_ : PV, ∃ esR0_ : List PV, ∃ asR1_ : PV, ∃ esR1_ : List PV, ∃ asR2_ : PV, ∃ esR2_ : List PV, Mem h (⟨asR0_, 87, 2, esR0_⟩ :: ⟨asR1_, 3, 1, esR1_⟩ :: ⟨asR2_, 3, 1, esR2_⟩ :: R_) ∧ (All2 aa.t.R res.1 esR0_) ∧ (isL asR0_ = true) ∧ (res.1.length ≤ 4611686018427387904) ∧ (Wri asR0_ esR0_) ∧ (All2 tI.R res.2.1 esR1_) ∧ (isL asR1_ = true) ∧ (res.2.1.length ≤ 4611686018427387904) ∧ (Wri asR1_ esR1_) ∧ (All2 tI.R res.2.2 esR2_) ∧ (isL asR2_ = true) ∧ (res.2.2.length ≤ 4611686018427387904) ∧ (Wri asR2_ esR2_) ∧ r = .tup [asR0_, asR1_, asR2_]
theorem cp8 {x0 : dc} {a5 : PV} {b2 : List PV} {a2 : PV} {a7 : List PV} {a0 : PV} {a6 : List PV} {R_ : List Ent} {h_ : Heap} {i2 i1 : Nat} (f8 : All2 aa.t.R x0.fields b2) (a3 : isL a5 = true) (g4 : x0.fields.length ≤ 4611686018427387904) (g0 : Wri a5 b2) (f9 : All2 tI.R x0.headers a7) (a1 : isL a2 = true) (g3 : x0.headers.length ≤ 4611686018427387904) (g1 : Wri a2 a7) (g5 : All2 tI.R x0.registers a6) (a4 : isL a0 = true) (g2 : x0.registers.length ≤ 4611686018427387904) (g6 : Wri a0 a6) (M_ : Mem h_ (⟨.op i2 i1 0, 157, 3, [.agg [a5, a2, a0]]⟩ :: ⟨a5, 87, 2, b2⟩ :: ⟨a2, 3, 1, a7⟩ :: ⟨a0, 3, 1, a6⟩ :: R_)) (hb : x0.fields.length ≤ 1000000 ∧ x0.headers.length ≤ 1000000 ∧ x0.registers.length ≤ 1000000) : ∃ r k3, FnX Tryz.prog 110 [.op i2 i1 0] h_ r k3 ∧ RF110 i2 i1 R_ (lq x0) r k3 := by
 refine fnXX (R := RF110 i2 i1 R_) ct9 rfl fun res s => ?_
 unfold lq at s
 refine am (fq (cb (ae (v := nilS) (av rfl) (ca (cb (ae (v := nilS) (av rfl) (ca (cb ?_))))))))
 refine ae (v := nilS) (av rfl) (ca ?_)
 refine xk (k := 0) (E' := [(4, nilS), (3, nilS), (2, nilS), (0, .fp (.agg [a5, a2, a0]))]) M_ rfl (cy rfl (cy rfl (cy rfl (ti rfl zb)))) (fun h6 b8 => ?_)
 replace b8 : Mem h6 (⟨a5, 87, 2, b2⟩ :: ⟨a2, 3, 1, a7⟩ :: ⟨a0, 3, 1, a6⟩ :: R_) := b8
 refine kj (aq (am (fq (cb (mV rfl (ca (cb (ae (cx rfl rfl) ?_))))))))
 refine ca (cb (fA rfl (mk1 (ft (k := 0) b8 rfl a3).2) (ca (cb (ae (bv rfl (nu (k := 0) b8 rfl a3) (ft (k := 0) b8 rfl a3).2) (ca ?_))))))
 have j0 : Mem h6 (⟨a5, 87, 2, b2⟩ :: ⟨a2, 3, 1, a7⟩ :: ⟨a0, 3, 1, a6⟩ :: R_) := (Mem.front (k := 0) b8 rfl)
 obtain ⟨j4, h5, s⟩ := bt s
 obtain ⟨k4, j5, i0, f7⟩ := bb2 (x0 := x0.fields) f8 a3 g4 g0 j0 (by first | assumption | omega | (rw [ee (by omega) (by omega)]; omega) | (have hk := rval rfl (And.right (And.left (by assumption))); omega) | (have hk := rval (by assumption) (by assumption); omega) | (have hk := rval (by assumption) (And.left (by assumption)); omega) | (have hk := rval (by assumption) (And.left (And.left (by assumption))); have hz := rslc (by assumption); omega) | (simp; done) | (simp only [List.length_append, List.length_nil, List.length_cons]; omega) | (have hk := (dx (by assumption) (by assumption)).1; omega) | (simp only [List.length_cons, List.length_nil]; omega) | (simp only [List.length_append]; have hk := (dx (by assumption) (by assumption)).1; omega) | (simp only [List.length_append, List.length_nil]; have hk := (dx (by assumption) (by assumption)).1; omega))
 rw [h5] at f7
 obtain ⟨b0, e4, c3, c0, c7, c5⟩ := f7
 replace c5 := c5.symm; subst c5
 refine im rfl rfl i0 (kj (aq (am (fq (cb (mV rfl (ca (cb ?_))))))))
 refine ae (cx rfl rfl) (ca (cb (fA rfl (mk1 (ft (k := 1) e4 rfl a1).2) (ca (cb (ae (bv rfl (nu (k := 1) e4 rfl a1) (ft (k := 1) e4 rfl a1).2) (ca ?_)))))))
 have i5 : Mem j5 (⟨a2, 3, 1, a7⟩ :: ⟨a5, 87, 2, b0⟩ :: ⟨a0, 3, 1, a6⟩ :: R_) := (Mem.front (k := 1) e4 rfl)
 obtain ⟨i3, h7, s⟩ := bt s
 obtain ⟨k5, i9, h1, f5⟩ := bn4 (x0 := x0.headers) f9 a1 g3 g1 i5 (by first | assumption | omega | (rw [ee (by omega) (by omega)]; omega) | (have hk := rval rfl (And.right (And.left (by assumption))); omega) | (have hk := rval (by assumption) (by assumption); omega) | (have hk := rval (by assumption) (And.left (by assumption)); omega) | (have hk := rval (by assumption) (And.left (And.left (by assumption))); have hz := rslc (by assumption); omega) | (simp; done) | (simp only [List.length_append, List.length_nil, List.length_cons]; omega) | (have hk := (dx (by assumption) (by assumption)).1; omega) | (simp only [List.length_cons, List.length_nil]; omega) | (simp only [List.length_append]; have hk := (dx (by assumption) (by assumption)).1; omega) | (simp only [List.length_append, List.length_nil]; have hk := (dx (by assumption) (by assumption)).1; omega))
 rw [h7] at f5
 obtain ⟨b1, e1, c2, c1, d1, d2⟩ := f5
 replace d2 := d2.symm; subst d2
 refine im rfl rfl h1 (kj (aq (am (fq (cb (mV rfl (ca (cb ?_))))))))
 refine ae (cx rfl rfl) (ca (cb (fA rfl (mk1 (ft (k := 2) e1 rfl a4).2) (ca (cb (ae (bv rfl (nu (k := 2) e1 rfl a4) (ft (k := 2) e1 rfl a4).2) (ca ?_)))))))
 have j7 : Mem i9 (⟨a0, 3, 1, a6⟩ :: ⟨a2, 3, 1, b1⟩ :: ⟨a5, 87, 2, b0⟩ :: R_) := (Mem.front (k := 2) e1 rfl)
 obtain ⟨j3, g8, s⟩ := bt s
 obtain ⟨k7, j1, h4, f3⟩ := bn4 (x0 := x0.registers) g5 a4 g2 g6 j7 (by first | assumption | omega | (rw [ee (by omega) (by omega)]; omega) | (have hk := rval rfl (And.right (And.left (by assumption))); omega) | (have hk := rval (by assumption) (by assumption); omega) | (have hk := rval (by assumption) (And.left (by assumption)); omega) | (have hk := rval (by assumption) (And.left (And.left (by assumption))); have hz := rslc (by assumption); omega) | (simp; done) | (simp only [List.length_append, List.length_nil, List.length_cons]; omega) | (have hk := (dx (by assumption) (by assumption)).1; omega) | (simp only [List.length_cons, List.length_nil]; omega) | (simp only [List.length_append]; have hk := (dx (by assumption) (by assumption)).1; omega) | (simp only [List.length_append, List.length_nil]; have hk := (dx (by assumption) (by assumption)).1; omega))
 rw [g8] at f3
 obtain ⟨b3, e2, c8, c9, c6, b9⟩ := f3
 replace b9 := b9.symm; subst b9
 refine im rfl rfl h4 (kj (aq (am (ae8 (ma (mV rfl (ly (ma ?_))))))))
 refine ae (cx rfl rfl) (ly (ma (fA rfl (mk1 (ft (k := 2) e2 rfl a3).2) (ly (ma (ae (bv rfl (nu (k := 2) e2 rfl a3) (ft (k := 2) e2 rfl a3).2) (ly ?_)))))))
 have i4 : Mem j1 (⟨a5, 87, 2, b0⟩ :: ⟨a0, 3, 1, b3⟩ :: ⟨a2, 3, 1, b1⟩ :: R_) := (Mem.front (k := 2) e2 rfl)
 obtain ⟨k9, g7, s⟩ := bt s
 obtain ⟨k0, i8, g9, f6⟩ := cq4 (x0 := j4) c3 a3 c0 c7 i4 
 rw [g7] at f6
 obtain ⟨a8, a9, e9, e8, e6, d9, f1, c4⟩ := f6
 replace c4 := c4.symm; subst c4
 refine wn rfl rfl g9 (ma (mV rfl (ly (ma (ae (cx rfl rfl) (ly (ma (fA rfl (mk1 (ft (k := 2) e9 rfl a1).2) ?_))))))))
 refine ly (ma (ae (bv rfl (nu (k := 2) e9 rfl a1) (ft (k := 2) e9 rfl a1).2) (ly ?_)))
 have j2 : Mem i8 (⟨a2, 3, 1, b1⟩ :: ⟨a8, 87, 2, a9⟩ :: ⟨a0, 3, 1, b3⟩ :: R_) := (Mem.front (k := 2) e9 rfl)
 obtain ⟨k8, h2, s⟩ := bt s
 obtain ⟨k6, i6, h8, f4⟩ := bl3 (x0 := i3) c2 a1 c1 d1 j2 
 rw [h2] at f4
 obtain ⟨b4, b5, d5, d6, e5, e3, d7, d3⟩ := f4
 replace d3 := d3.symm; subst d3
 refine wn rfl rfl h8 (ma (mV rfl (ly (ma (ae (cx rfl rfl) (ly (ma (fA rfl (mk1 (ft (k := 2) d5 rfl a4).2) ?_))))))))
 refine ly (ma (ae (bv rfl (nu (k := 2) d5 rfl a4) (ft (k := 2) d5 rfl a4).2) (ly ?_)))
 have i7 : Mem i6 (⟨a0, 3, 1, b3⟩ :: ⟨b4, 3, 1, b5⟩ :: ⟨a8, 87, 2, a9⟩ :: R_) := (Mem.front (k := 2) d5 rfl)
 obtain ⟨l0, h9, s⟩ := bt s
 obtain ⟨j9, j6, h3, f2⟩ := bl3 (x0 := j3) c8 a4 c9 c6 i7 
 rw [h9] at f2
 obtain ⟨b7, b6, j8, d8, f0, d4, e7, d0⟩ := f2
 replace d0 := d0.symm; subst d0
 refine wn rfl rfl h3 (ma (mV rfl (ly (ma (mV rfl (ly (ma (mV rfl ?_))))))))
 refine ly (bv6 (aq ?_))
 have h0 : Mem j6 (⟨a8, 87, 2, a9⟩ :: ⟨b4, 3, 1, b5⟩ :: ⟨b7, 3, 1, b6⟩ :: R_) := (Mem.front (k := 2) (Mem.front (k := 1) (Mem.front (k := 0) j8 rfl) rfl) rfl)
 subst s
 exact iy (.tmp rfl (.tmp rfl (.tmp rfl .nil))) ⟨a8, a9, b4, b5, b7, b6, Mem.sub h0 (.cons_cons _ (.cons_cons _ (.cons_cons _ (List.Sublist.refl R_)))), e8, e6, d9, f1, d6, e5, e3, d7, d8, f0, d4, e7, rfl⟩

def RF39 (res : (List aa) × (List Int) × (List Int)) (r : PV) : Prop := ∃ c0, ∃ c1, ∃ c2, r = .tup [c0, c1, c2] ∧ (tSl aa.t).R res.1 c0 ∧ (tSl tI).R res.2.1 c1 ∧ (tSl tI).R res.2.2 c2
theorem wx {S : List Fr} {res : (List aa) × (List Int) × (List Int)} {x0 : ab} {x1 : Int} {a5 : (List ak)} {a1 : Int} {e2 c8 : List Int} {e1 : List aa} {c4 c6 : Bool} {v0 f3 : PV} {e6 : List PV} {d4 : PV} {d0 : List PV} {e5 : PV} {f0 : List PV} {e4 d1 : PV} {d7 : List PV} {f7 h5 : PV} {c9 c7 d3 d2 : Nat} (hs : SmH x0) (i8 : jm x0 x1 = a5) (i6 : BO x0 a5) (i7 : a5.length ≤ 12) (h9 : isL d4 = true) (h0 : Wri d4 e6) (h6 : e2.length ≤ 4611686018427387904) (i4 : isL e5 = true) (g8 : Wri e5 d0) (h7 : c8.length ≤ 4611686018427387904) (i5 : isL e4 = true) (g7 : Wri e4 f0) (h2 : e1.length ≤ 4611686018427387904) (j5 : 0 ≤ a1) (i1 : (e1.length : Int) ≤ 1001 * a1) (j1 : (c8.length : Int) ≤ 1001 * a1) (j0 : (e2.length : Int) ≤ 1001 * a1) (j3 : a1 ≤ (a5.length : Int)) (f6 : (decide (a1 < (a5.length : Int))) = true) (h4 : ak.t.R (ix a5 a1) d1) (i9 : c4 = (if (decide (((ix a5 a1).Kind) = 1)) = true then (decide (((ix a5 a1).Kind) = 1)) else (decide (((ix a5 a1).Kind) = 4)))) (g2 : c4 = false) (h8 : c6 = (if (decide (((ix a5 a1).Kind) = 2)) = true then (decide (((ix a5 a1).Kind) = 2)) else (decide (((ix a5 a1).Kind) = 3)))) (f4 : c6 = true) (i2 : All2 tI.R ([(ix a5 a1).Header] : List Int) d7) (i0 : Wri f7 (d0 ++ d7)) (i3 : (c8 ++ ([(ix a5 a1).Header] : List Int)).length ≤ 4611686018427387904) (j4 : isL f7 = true) (g9 : (tSl ax.t).R ((ix x0.Headers ((ix a5 a1).Header)).Fields) h5) {K3 : (List Int) → (List Int) → (List aa) → ((List aa) × (List Int) × (List Int))}
  (j6 : ∀ {a9 a8 : List Int} {a4 : List aa} {a6 : List PV} {a2 : PV} {a7 : List PV} {a3 : PV} {a0 : List PV} {b0 : PV} (c0 : All2 tI.R a9 a6) (c3 : isL a2 = true) (b4 : Wri a2 a6) (b1 : a9.length ≤ 4611686018427387904) (b9 : All2 tI.R a8 a7) (c2 : isL a3 = true) (b3 : Wri a3 a7) (b6 : a8.length ≤ 4611686018427387904) (b7 : All2 aa.t.R a4 a0) (b8 : isL b0 = true) (b2 : Wri b0 a0) (c1 : a4.length ≤ 4611686018427387904) (j8 : (a4.length : Int) ≤ 1001 * (a1 + 1) ∧ (a8.length : Int) ≤ 1001 * (a1 + 1) ∧ (a9.length : Int) ≤ 1001 * (a1 + 1)) {h : Heap} (M0 : Mem h [⟨.op d3 d2 0, 135, 7, [d1]⟩, ⟨a2, 3, 1, a6⟩, ⟨a3, 3, 1, a7⟩, ⟨b0, 87, 2, a0⟩, ⟨.op c9 c7 0, 157, 3, [.agg [b0, a3, a2]]⟩]), K3 a9 a8 a4 = res → PX Tryz.prog 3 S (QR Tryz.prog [(4, none), (5, none), (6, none)] (RF39 res)) [(2, .fp v0), (7, .op c9 c7 0), (13, f3), (14, vi (a5.length : Int)), (15, vi a1)] h) :
  ∀ {m : Nat} {b5 : Int} {a9 a8 : List Int} {a4 : List aa} {a6 : List PV} {a2 : PV} {a7 : List PV} {a3 : PV} {a0 : List PV} {b0 : PV} (c0 : All2 tI.R a9 a6) (c3 : isL a2 = true) (b4 : Wri a2 a6) (b1 : a9.length ≤ 4611686018427387904) (b9 : All2 tI.R a8 a7) (c2 : isL a3 = true) (b3 : Wri a3 a7) (b6 : a8.length ≤ 4611686018427387904) (b7 : All2 aa.t.R a4 a0) (b8 : isL b0 = true) (b2 : Wri b0 a0) (c1 : a4.length ≤ 4611686018427387904) (j2 : m = Int.toNat ((((ix x0.Headers ((ix a5 a1).Header)).Fields).length : Int) - b5)) (g3 : 0 ≤ b5) (d6 : (a4.length : Int) ≤ 1001 * a1 + b5) (d5 : (a8.length : Int) ≤ 1001 * a1 + 1) (e3 : (a9.length : Int) ≤ 1001 * a1) (d8 : b5 ≤ 1000) {h : Heap} (M0 : Mem h [⟨.op d3 d2 0, 135, 7, [d1]⟩, ⟨a2, 3, 1, a6⟩, ⟨a3, 3, 1, a7⟩, ⟨b0, 87, 2, a0⟩, ⟨.op c9 c7 0, 157, 3, [.agg [b0, a3, a2]]⟩]), jl a5 a1 K3 m b5 a9 a8 a4 = res → RC Tryz.prog (.loop cm5) S (QR Tryz.prog [(4, none), (5, none), (6, none)] (RF39 res)) [(49, vi b5), (48, vi (((ix x0.Headers ((ix a5 a1).Header)).Fields).length : Int)), (15, vi a1), (14, vi (a5.length : Int)), (13, f3), (9, .op d3 d2 0), (7, .op c9 c7 0), (2, .fp v0)] h := by
 have e9 := f6
 try simp only [qa] at e9
 have e7 := g2
 try simp only [qa] at e7
 have f2 := f4
 try simp only [qa] at f2
 intro m
 induction m with
 | zero =>
  intro b5 a9 a8 a4 a6 a2 a7 a3 a0 b0 c0 c3 b4 b1 b9 c2 b3 b6 b7 b8 b2 c1 j2 g3 d6 d5 e3 d8 h M0 s
  rw [jl] at s
  refine co (sR (bN cw rfl rfl (nS (am ?_))))
  refine cd rfl ?_ ?_ <;> intro c <;> try simp only [qa] at c
  ·omega
  refine fj (gg (dw ?_))
  exact wP (j6 c0 c3 b4 b1 b9 c2 b3 b6 b7 b8 b2 c1 (by omega) (Mem.sub M0 (.cons_cons _ (.cons_cons _ (.cons_cons _ (.cons_cons _ (.cons_cons _ .slnil)))))) s) rfl
 | succ m ih =>
  intro b5 a9 a8 a4 a6 a2 a7 a3 a0 b0 c0 c3 b4 b1 b9 c2 b3 b6 b7 b8 b2 c1 j2 g3 d6 d5 e3 d8 h M0 s
  rw [jl] at s
  refine co (sR (bN cw rfl rfl (nS (am ?_))))
  refine cd rfl ?_ ?_ <;> intro c <;> try simp only [qa] at c
  rotate_left
  ·omega
  refine az (aq (am (bm (sR (mV rfl (mV rfl (nS (ay ?_))))))))
  refine ae (bz rfl) (ae (dj (k := 4) M0 rfl rfl (mk1 (ft (k := 3) M0 rfl b8).2)) (ae (bz rfl) (ae (dj (k := 0) M0 rfl rfl (ak.g_Header h4)) (mV rfl (ae (v := .agg [vi ((ix a5 a1).Header), vi b5]) (fk (cs := [vi ((ix a5 a1).Header), vi b5]) rfl rfl) (ae (v := .fs true [.agg [vi ((ix a5 a1).Header), vi b5]]) (kt rfl (all_cons rfl nn)) ?_))))))
  have h1 : (tSl aa.t).R ([({ Header := (ix a5 a1).Header, Field := b5 } : aa)] : List aa) (.fs true [.agg [vi ((ix a5 a1).Header), vi b5]]) := vj ⟨rfl, trivial⟩ (by simp)
  obtain ⟨c5, f9, d9⟩ := rt (t := aa.t) (h := h) h1
  have g4 : fits (a0.length + c5.length) 16 = true := by rw [All2.length_eq b7, All2.length_eq d9]; (try simp only [List.length_cons, List.length_nil]); exact pa (by first | omega | (have hj := jot (by assumption) (by assumption); have hk := bo_h (l := a5) (k := a1) (by assumption) (by omega) (by omega) (by omega); have g0 := hs _ hk.1 hk.2; first | omega | (simp only [List.length_append, List.length_cons, List.length_nil]; omega))) (by first | omega | (have hj := jot (by assumption) (by assumption); have hk := bo_h (l := a5) (k := a1) (by assumption) (by omega) (by omega) (by omega); have g0 := hs _ hk.1 hk.2; first | omega | (simp only [List.length_append, List.length_cons, List.length_nil]; omega)))
  refine qo (k := 3) (es := a0) (news := c5) M0 rfl rfl rfl b8 b2 f9 g4 (fun f1 j7 g5 g1 g6 => ?_)
  have f8 : All2 aa.t.R (a4 ++ ([({ Header := (ix a5 a1).Header, Field := b5 } : aa)] : List aa)) (a0 ++ c5) := All2.app b7 d9
  have f5 : (a4 ++ ([({ Header := (ix a5 a1).Header, Field := b5 } : aa)] : List aa)).length ≤ 4611686018427387904 := by rw [← All2.length_eq f8, List.length_append]; exact pg g4
  refine ae (bz rfl) ?_
  refine me (k := 4) (v := f1) g6 rfl rfl rfl (ft (k := 3) g6 rfl g5).1 rfl (by first | decide | (simp only [List.length_cons, List.length_nil]; omega) | simp) (fun h3 e8 => ?_)
  replace e8 : Mem h3 [⟨.op d3 d2 0, 135, 7, [d1]⟩, ⟨a2, 3, 1, a6⟩, ⟨a3, 3, 1, a7⟩, ⟨f1, 87, 2, (a0 ++ c5)⟩, ⟨.op c9 c7 0, 157, 3, [.agg [f1, a3, a2]]⟩] := e8
  refine br (de (aq (ay (bN gv rfl rfl (mV rfl (br (di ?_)))))))
  have hbd := en g9
  have hinc : wr (b5 + 1) = b5 + 1 := ee (by omega) (by omega)
  erw [hinc]
  exact wC (ih  c0 c3 b4 b1 b9 c2 b3 b6 f8 g5 g1 f5 (by omega) (by omega) (by first | omega | (simp only [List.length_append, List.length_cons, List.length_nil]; omega) | (have hj := jot (by assumption) (by assumption); have hk := bo_h (l := a5) (k := a1) (by assumption) (by omega) (by omega) (by omega); have g0 := hs _ hk.1 hk.2; first | omega | (simp only [List.length_append, List.length_cons, List.length_nil]; omega))) (by first | omega | (simp only [List.length_append, List.length_cons, List.length_nil]; omega) | (have hj := jot (by assumption) (by assumption); have hk := bo_h (l := a5) (k := a1) (by assumption) (by omega) (by omega) (by omega); have g0 := hs _ hk.1 hk.2; first | omega | (simp only [List.length_append, List.length_cons, List.length_nil]; omega))) (by first | omega | (simp only [List.length_append, List.length_cons, List.length_nil]; omega) | (have hj := jot (by assumption) (by assumption); have hk := bo_h (l := a5) (k := a1) (by assumption) (by omega) (by omega) (by omega); have g0 := hs _ hk.1 hk.2; first | omega | (simp only [List.length_append, List.length_cons, List.length_nil]; omega))) (by first | omega | (simp only [List.length_append, List.length_cons, List.length_nil]; omega) | (have hj := jot (by assumption) (by assumption); have hk := bo_h (l := a5) (k := a1) (by assumption) (by omega) (by omega) (by omega); have g0 := hs _ hk.1 hk.2; first | omega | (simp only [List.length_append, List.length_cons, List.length_nil]; omega))) (Mem.sub e8 (.cons_cons _ (.cons_cons _ (.cons_cons _ (.cons_cons _ (.cons_cons _ .slnil)))))) s) rfl

theorem wv {S : List Fr} {res : (List aa) × (List Int) × (List Int)} {x0 : ab} {x1 : Int} {a1 : (List ak)} {v0 g1 : PV} {c5 c4 : Nat} (r0 : ab.t.R x0 v0) (hs : SmH x0) (l1 : jm x0 x1 = a1) (f9 : (tSl ak.t).R a1 g1) (k8 : BO x0 a1) (l0 : a1.length ≤ 12) {K0 : (List Int) → (List Int) → (List aa) → ((List aa) × (List Int) × (List Int))}
  (o4 : ∀ {b0 a8 : List Int} {a9 : List aa} {a2 : List PV} {a5 : PV} {a4 : List PV} {a7 : PV} {a3 : List PV} {a6 : PV} (c3 : All2 tI.R b0 a2) (b8 : isL a5 = true) (b3 : Wri a5 a2) (b5 : b0.length ≤ 4611686018427387904) (c2 : All2 tI.R a8 a4) (b9 : isL a7 = true) (b2 : Wri a7 a4) (b6 : a8.length ≤ 4611686018427387904) (c1 : All2 aa.t.R a9 a3) (c0 : isL a6 = true) (b1 : Wri a6 a3) (b4 : a9.length ≤ 4611686018427387904) (o8 : a9.length ≤ 13000 ∧ a8.length ≤ 13000 ∧ b0.length ≤ 13000) {h : Heap} (M0 : Mem h [⟨a5, 3, 1, a2⟩, ⟨a7, 3, 1, a4⟩, ⟨a6, 87, 2, a3⟩, ⟨.op c5 c4 0, 157, 3, [.agg [a6, a7, a5]]⟩]), K0 b0 a8 a9 = res → PX Tryz.prog 0 S (QR Tryz.prog [(4, none), (5, none), (6, none)] (RF39 res)) [(7, .op c5 c4 0)] h) :
  ∀ {m : Nat} {a0 : Int} {b0 a8 : List Int} {a9 : List aa} {a2 : List PV} {a5 : PV} {a4 : List PV} {a7 : PV} {a3 : List PV} {a6 : PV} (c3 : All2 tI.R b0 a2) (b8 : isL a5 = true) (b3 : Wri a5 a2) (b5 : b0.length ≤ 4611686018427387904) (c2 : All2 tI.R a8 a4) (b9 : isL a7 = true) (b2 : Wri a7 a4) (b6 : a8.length ≤ 4611686018427387904) (c1 : All2 aa.t.R a9 a3) (c0 : isL a6 = true) (b1 : Wri a6 a3) (b4 : a9.length ≤ 4611686018427387904) (n8 : m = Int.toNat ((a1.length : Int) - a0)) (h5 : 0 ≤ a0) (f1 : (a9.length : Int) ≤ 1001 * a0) (f5 : (a8.length : Int) ≤ 1001 * a0) (f4 : (b0.length : Int) ≤ 1001 * a0) (f7 : a0 ≤ (a1.length : Int)) {h : Heap} (M0 : Mem h [⟨a5, 3, 1, a2⟩, ⟨a7, 3, 1, a4⟩, ⟨a6, 87, 2, a3⟩, ⟨.op c5 c4 0, 157, 3, [.agg [a6, a7, a5]]⟩]), fx x0 a1 K0 m a0 b0 a8 a9 = res → RC Tryz.prog (.loop cq3) S (QR Tryz.prog [(4, none), (5, none), (6, none)] (RF39 res)) [(15, vi a0), (14, vi (a1.length : Int)), (13, g1), (7, .op c5 c4 0), (2, .fp v0)] h := by
 intro m
 induction m with
 | zero =>
  intro a0 b0 a8 a9 a2 a5 a4 a7 a3 a6 c3 b8 b3 b5 c2 b9 b2 b6 c1 c0 b1 b4 n8 h5 f1 f5 f4 f7 h M0 s
  rw [fx] at s
  refine co (sR (bN cw rfl rfl (nS (am ?_))))
  refine cd rfl ?_ ?_ <;> intro c <;> try simp only [qa] at c
  ·omega
  refine fj (gg (dw ?_))
  exact wP (o4 c3 b8 b3 b5 c2 b9 b2 b6 c1 c0 b1 b4 (by omega) (Mem.sub M0 (.cons_cons _ (.cons_cons _ (.cons_cons _ (.cons_cons _ .slnil))))) s) rfl
 | succ m ih =>
  intro a0 b0 a8 a9 a2 a5 a4 a7 a3 a6 c3 b8 b3 b5 c2 b9 b2 b6 c1 c0 b1 b4 n8 h5 f1 f5 f4 f7 h M0 s
  rw [fx] at s
  refine co (sR (bN cw rfl rfl (nS (am ?_))))
  refine cd rfl (fun d5 => ?_) (fun d5 => ?_)
  ·have hgo := s
   have i0 := d5
   try simp only [qa] at i0
   refine az (aq (am (bm (sR ?_))))
   obtain ⟨d3, n0, d1⟩ := dq (i := a0) f9 (by first | omega | (have hj := jot (by assumption) (by assumption); have hk := bo_h (l := a1) (k := a0) (by assumption) (by omega) (by omega) (by omega); omega)) (by first | omega | (have hj := jot (by assumption) (by assumption); have hk := bo_h (l := a1) (k := a0) (by assumption) (by omega) (by omega) (by omega); omega))
   refine ae (bg rfl rfl n0) (lD d1 rfl rfl rfl ?_)
   refine ej (x := .agg [vi 0, vi 0, vi 0, vi 0, vi 0, nilS, nilS]) M0 rfl rfl (fun d2 d0 n9 m5 => ?_)
   refine ct (k := 0) (v := d3) m5 rfl rfl rfl (TR.cnt ak.t d1) (fun n4 f8 => ?_)
   replace f8 : Mem n4 [⟨.op d2 d0 0, 135, 7, [d3]⟩, ⟨a5, 3, 1, a2⟩, ⟨a7, 3, 1, a4⟩, ⟨a6, 87, 2, a3⟩, ⟨.op c5 c4 0, 157, 3, [.agg [a6, a7, a5]]⟩] := f8
   refine nR (ae (bz rfl) (ae (dj (k := 0) f8 rfl rfl (ak.g_Kind d1)) (nS (bm (am (sR (bN fi rfl rfl (mV rfl ?_))))))))
   refine nS ?_
   obtain ⟨n5, j1, s⟩ := bt s
   refine qc (F := fun b S Q => ∀ (c6 : Bool) (h0 : c6 = (if (decide (((ix a1 a0).Kind) = 1)) = true then (decide (((ix a1 a0).Kind) = 1)) else (decide (((ix a1 a0).Kind) = 4)))) (d7 : Heap) (c8 : Mem d7 [⟨.op d2 d0 0, 135, 7, [d3]⟩, ⟨a5, 3, 1, a2⟩, ⟨a7, 3, 1, a4⟩, ⟨a6, 87, 2, a3⟩, ⟨.op c5 c4 0, 157, 3, [.agg [a6, a7, a5]]⟩]), n5 c6 = res → RC Tryz.prog b S Q [(21, vb c6), (20, vi ((ix a1 a0).Kind)), (15, vi a0), (14, vi (a1.length : Int)), (13, g1), (9, .op d2 d0 0), (7, .op c5 c4 0), (2, .fp v0)] d7) ?_ ?_
   ·intro c6 h0 d7 c8 s
    rw [← j1] at s
    refine cg s rfl ?_ ?_ <;> clear s <;> intro h1 s <;> have h9 := h1 <;> try simp only [qa] at h9
    ·refine ay (ae (bz rfl) (ae (dj (k := 4) c8 rfl rfl (mk1 (ft (k := 3) c8 rfl c0).2)) (ae (bz rfl) ?_)))
     obtain ⟨l2, n6, l4⟩ := ak.g_Dst d1
     refine ae (dj (k := 0) c8 rfl rfl n6) (ae (v := .fs true [l2]) (kt rfl (all_cons (TR.cnt aa.t l4) nn)) ?_)
     have m4 : (tSl aa.t).R ([(ix a1 a0).Dst] : List aa) (.fs true [l2]) := vj ⟨l4, trivial⟩ (by simp)
     obtain ⟨d8, l6, g9⟩ := rt (t := aa.t) (h := d7) m4
     have j8 : fits (a3.length + d8.length) 16 = true := by rw [All2.length_eq c1, All2.length_eq g9]; (try simp only [List.length_cons, List.length_nil]); exact pa (by first | omega | (have hj := jot (by assumption) (by assumption); have hk := bo_h (l := a1) (k := a0) (by assumption) (by omega) (by omega) (by omega); have l3 := hs _ hk.1 hk.2; first | omega | (simp only [List.length_append, List.length_cons, List.length_nil]; omega))) (by first | omega | (have hj := jot (by assumption) (by assumption); have hk := bo_h (l := a1) (k := a0) (by assumption) (by omega) (by omega) (by omega); have l3 := hs _ hk.1 hk.2; first | omega | (simp only [List.length_append, List.length_cons, List.length_nil]; omega)))
     refine qo (k := 3) (es := a3) (news := d8) c8 rfl rfl rfl c0 b1 l6 j8 (fun h6 o2 k0 j2 j6 => ?_)
     have k5 : All2 aa.t.R (a9 ++ ([(ix a1 a0).Dst] : List aa)) (a3 ++ d8) := All2.app c1 g9
     have k9 : (a9 ++ ([(ix a1 a0).Dst] : List aa)).length ≤ 4611686018427387904 := by rw [← All2.length_eq k5, List.length_append]; exact pg j8
     refine ae (bz rfl) ?_
     refine me (k := 4) (v := h6) j6 rfl rfl rfl (ft (k := 3) j6 rfl k0).1 rfl (by first | decide | (simp only [List.length_cons, List.length_nil]; omega) | simp) (fun m9 i2 => ?_)
     replace i2 : Mem m9 [⟨.op d2 d0 0, 135, 7, [d3]⟩, ⟨a5, 3, 1, a2⟩, ⟨a7, 3, 1, a4⟩, ⟨h6, 87, 2, (a3 ++ d8)⟩, ⟨.op c5 c4 0, 157, 3, [.agg [h6, a7, a5]]⟩] := i2
     refine br (de (de (aq (ay (bN gv rfl rfl (mV rfl (br (di ?_))))))))
     have hbd := en f9
     have hinc : wr (a0 + 1) = a0 + 1 := ee (by omega) (by omega)
     erw [hinc]
     exact wC (ih  c3 b8 b3 b5 c2 b9 b2 b6 k5 k0 j2 k9 (by omega) (by omega) (by first | omega | (simp only [List.length_append, List.length_cons, List.length_nil]; omega)) (by first | omega | (simp only [List.length_append, List.length_cons, List.length_nil]; omega)) (by first | omega | (simp only [List.length_append, List.length_cons, List.length_nil]; omega)) (by first | omega | (simp only [List.length_append, List.length_cons, List.length_nil]; omega)) (Mem.sub i2 (.cons _ (.cons_cons _ (.cons_cons _ (.cons_cons _ (.cons_cons _ .slnil)))))) s) rfl
    ·refine am (sR (bN fi rfl rfl (mV rfl (nS ?_))))
     obtain ⟨m8, k7, s⟩ := bt s
     refine qc (F := fun b S Q => ∀ (c7 : Bool) (g5 : c7 = (if (decide (((ix a1 a0).Kind) = 2)) = true then (decide (((ix a1 a0).Kind) = 2)) else (decide (((ix a1 a0).Kind) = 3)))) (c9 : Heap) (b7 : Mem c9 [⟨.op d2 d0 0, 135, 7, [d3]⟩, ⟨a5, 3, 1, a2⟩, ⟨a7, 3, 1, a4⟩, ⟨a6, 87, 2, a3⟩, ⟨.op c5 c4 0, 157, 3, [.agg [a6, a7, a5]]⟩]), m8 c7 = res → RC Tryz.prog b S Q [(31, vb c7), (20, vi ((ix a1 a0).Kind)), (15, vi a0), (14, vi (a1.length : Int)), (13, g1), (9, .op d2 d0 0), (7, .op c5 c4 0), (2, .fp v0)] c9) ?_ ?_
     ·intro c7 g5 c9 b7 s
      rw [← k7] at s
      refine cg s rfl ?_ ?_ <;> clear s <;> intro g3 s <;> have i4 := g3 <;> try simp only [qa] at i4
      ·refine sR (ae (bz rfl) (ae (dj (k := 4) b7 rfl rfl (mk1 (ft (k := 2) b7 rfl b9).2)) (ae (bz rfl) (ae (dj (k := 0) b7 rfl rfl (ak.g_Header d1)) (ae (v := .fs true [vi ((ix a1 a0).Header)]) (kt rfl (all_cons rfl nn)) ?_)))))
       have n1 : (tSl tI).R ([(ix a1 a0).Header] : List Int) (.fs true [vi ((ix a1 a0).Header)]) := vj ⟨rfl, trivial⟩ (by simp)
       obtain ⟨d6, k3, f2⟩ := rt (t := tI) (h := c9) n1
       have l9 : fits (a4.length + d6.length) 8 = true := by rw [All2.length_eq c2, All2.length_eq f2]; (try simp only [List.length_cons, List.length_nil]); exact pa (by first | omega | (have hj := jot (by assumption) (by assumption); have hk := bo_h (l := a1) (k := a0) (by assumption) (by omega) (by omega) (by omega); have l3 := hs _ hk.1 hk.2; first | omega | (simp only [List.length_append, List.length_cons, List.length_nil]; omega))) (by first | omega | (have hj := jot (by assumption) (by assumption); have hk := bo_h (l := a1) (k := a0) (by assumption) (by omega) (by omega) (by omega); have l3 := hs _ hk.1 hk.2; first | omega | (simp only [List.length_append, List.length_cons, List.length_nil]; omega)))
       refine qo (k := 2) (es := a4) (news := d6) b7 rfl rfl rfl b9 b2 k3 l9 (fun h7 o3 h4 g7 k4 => ?_)
       have j5 : All2 tI.R (a8 ++ ([(ix a1 a0).Header] : List Int)) (a4 ++ d6) := All2.app c2 f2
       have g8 : (a8 ++ ([(ix a1 a0).Header] : List Int)).length ≤ 4611686018427387904 := by rw [← All2.length_eq j5, List.length_append]; exact pg l9
       refine ae (bz rfl) ?_
       refine me (k := 4) (v := h7) k4 rfl rfl rfl (ft (k := 2) k4 rfl h4).1 rfl (by first | decide | (simp only [List.length_cons, List.length_nil]; omega) | simp) (fun m7 g2 => ?_)
       replace g2 : Mem m7 [⟨.op d2 d0 0, 135, 7, [d3]⟩, ⟨a5, 3, 1, a2⟩, ⟨h7, 3, 1, (a4 ++ d6)⟩, ⟨a6, 87, 2, a3⟩, ⟨.op c5 c4 0, 157, 3, [.agg [a6, h7, a5]]⟩] := g2
       refine nR (gL (ab.g_Headers r0) rfl rfl rfl fun o6 m3 => (ae (bz rfl) (ae (dj (k := 0) g2 rfl rfl (ak.g_Header d1)) ?_)))
       obtain ⟨o5, m2, n2⟩ := dq (i := (ix a1 a0).Header) m3 (by first | omega | (have hj := jot (by assumption) (by assumption); have hk := bo_h (l := a1) (k := a0) (by assumption) (by omega) (by omega) (by omega); omega)) (by first | omega | (have hj := jot (by assumption) (by assumption); have hk := bo_h (l := a1) (k := a0) (by assumption) (by omega) (by omega) (by omega); omega))
       refine ae (bg rfl rfl m2) (gL (cj.g_Fields n2) rfl rfl rfl fun o7 j9 => (ae (cv rfl (ci j9 Tryz.underlying23 _)) (mI rfl (nS (bm ?_)))))
       refine wC (wx hs l1 k8 l0 b8 b3 b5 b9 b2 b6 c0 b1 b4 h5 f1 f5 f4 f7 d5 d1 h0 h1 g5 g3 f2 g7 g8 h4 j9 ?_  c3 b8 b3 b5 j5 h4 g7 g8 c1 c0 b1 b4 rfl (by omega) (by first | omega | ((try dsimp only); (try simp only [List.length_append, List.length_cons, List.length_nil]); omega) | simp) (by first | omega | ((try dsimp only); (try simp only [List.length_append, List.length_cons, List.length_nil]); omega) | simp) (by first | omega | ((try dsimp only); (try simp only [List.length_append, List.length_cons, List.length_nil]); omega) | simp) (by first | omega | ((try dsimp only); (try simp only [List.length_append, List.length_cons, List.length_nil]); omega) | simp) (Mem.sub g2 (.cons_cons _ (.cons_cons _ (.cons_cons _ (.cons_cons _ (.cons_cons _ .slnil)))))) s) rfl
       ·intro h2 h3 g4 i8 l7 i7 j7 i6 j4 e9 e7 e4 e1 e8 f3 d9 e3 f0 e6 e2 e5 m1 o0 m6 s
        refine gm (de (de (aq (ay (bN gv rfl rfl (mV rfl (br (di ?_))))))))
        have hbd := en f9
        have hinc : wr (a0 + 1) = a0 + 1 := ee (by omega) (by omega)
        erw [hinc]
        exact wC (ih  e9 e7 e4 e1 e8 f3 d9 e3 f0 e6 e2 e5 (by omega) (by omega) (by first | omega | (simp only [List.length_append, List.length_cons, List.length_nil]; omega)) (by first | omega | (simp only [List.length_append, List.length_cons, List.length_nil]; omega)) (by first | omega | (simp only [List.length_append, List.length_cons, List.length_nil]; omega)) (by first | omega | (simp only [List.length_append, List.length_cons, List.length_nil]; omega)) (Mem.sub m6 (.cons _ (.cons_cons _ (.cons_cons _ (.cons_cons _ (.cons_cons _ .slnil)))))) s) rfl
      ·refine sR (bN fi rfl rfl (mV rfl (nS ?_)))
       refine cg s rfl ?_ ?_ <;> clear s <;> intro c s <;> try simp only [qa] at c
       ·refine ay (ae (bz rfl) (ae (dj (k := 4) b7 rfl rfl (mk1 (ft (k := 1) b7 rfl b8).2)) (ae (bz rfl) (ae (dj (k := 0) b7 rfl rfl (ak.g_Register d1)) (ae (v := .fs true [vi ((ix a1 a0).Register)]) (kt rfl (all_cons rfl nn)) ?_)))))
        have n7 : (tSl tI).R ([(ix a1 a0).Register] : List Int) (.fs true [vi ((ix a1 a0).Register)]) := vj ⟨rfl, trivial⟩ (by simp)
        obtain ⟨d4, l8, g6⟩ := rt (t := tI) (h := c9) n7
        have j0 : fits (a2.length + d4.length) 8 = true := by rw [All2.length_eq c3, All2.length_eq g6]; (try simp only [List.length_cons, List.length_nil]); exact pa (by first | omega | (have hj := jot (by assumption) (by assumption); have hk := bo_h (l := a1) (k := a0) (by assumption) (by omega) (by omega) (by omega); have l3 := hs _ hk.1 hk.2; first | omega | (simp only [List.length_append, List.length_cons, List.length_nil]; omega))) (by first | omega | (have hj := jot (by assumption) (by assumption); have hk := bo_h (l := a1) (k := a0) (by assumption) (by omega) (by omega) (by omega); have l3 := hs _ hk.1 hk.2; first | omega | (simp only [List.length_append, List.length_cons, List.length_nil]; omega)))
        refine qo (k := 1) (es := a2) (news := d4) b7 rfl rfl rfl b8 b3 l8 j0 (fun i3 o1 k6 j3 m0 => ?_)
        have l5 : All2 tI.R (b0 ++ ([(ix a1 a0).Register] : List Int)) (a2 ++ d4) := All2.app c3 g6
        have i9 : (b0 ++ ([(ix a1 a0).Register] : List Int)).length ≤ 4611686018427387904 := by rw [← All2.length_eq l5, List.length_append]; exact pg j0
        refine ae (bz rfl) ?_
        refine me (k := 4) (v := i3) m0 rfl rfl rfl (ft (k := 1) m0 rfl k6).1 rfl (by first | decide | (simp only [List.length_cons, List.length_nil]; omega) | simp) (fun n3 h8 => ?_)
        replace h8 : Mem n3 [⟨.op d2 d0 0, 135, 7, [d3]⟩, ⟨i3, 3, 1, (a2 ++ d4)⟩, ⟨a7, 3, 1, a4⟩, ⟨a6, 87, 2, a3⟩, ⟨.op c5 c4 0, 157, 3, [.agg [a6, a7, i3]]⟩] := h8
        refine br (de (de (aq (ay (bN gv rfl rfl (mV rfl (br (di ?_))))))))
        have hbd := en f9
        have hinc : wr (a0 + 1) = a0 + 1 := ee (by omega) (by omega)
        erw [hinc]
        exact wC (ih  l5 k6 j3 i9 c2 b9 b2 b6 c1 c0 b1 b4 (by omega) (by omega) (by first | omega | (simp only [List.length_append, List.length_cons, List.length_nil]; omega)) (by first | omega | (simp only [List.length_append, List.length_cons, List.length_nil]; omega)) (by first | omega | (simp only [List.length_append, List.length_cons, List.length_nil]; omega)) (by first | omega | (simp only [List.length_append, List.length_cons, List.length_nil]; omega)) (Mem.sub h8 (.cons _ (.cons_cons _ (.cons_cons _ (.cons_cons _ (.cons_cons _ .slnil)))))) s) rfl
       ·refine az (de (de (aq (ay (bN gv rfl rfl (mV rfl (br (di ?_))))))))
        have hbd := en f9
        have hinc : wr (a0 + 1) = a0 + 1 := ee (by omega) (by omega)
        erw [hinc]
        exact wC (ih  c3 b8 b3 b5 c2 b9 b2 b6 c1 c0 b1 b4 (by omega) (by omega) (by first | omega | (simp only [List.length_append, List.length_cons, List.length_nil]; omega)) (by first | omega | (simp only [List.length_append, List.length_cons, List.length_nil]; omega)) (by first | omega | (simp only [List.length_append, List.length_cons, List.length_nil]; omega)) (by first | omega | (simp only [List.length_append, List.length_cons, List.length_nil]; omega)) (Mem.sub b7 (.cons _ (.cons_cons _ (.cons_cons _ (.cons_cons _ (.cons_cons _ .slnil)))))) s) rfl
     ·intro J
      refine cg s rfl ?_ ?_ <;> clear s <;> intro f6 s <;> have i5 := f6 <;> try simp only [qa] at i5
      ·refine az ?_
       refine aq (wC (J _ (bt0 f6).symm _ (Mem.sub c8 (.cons_cons _ (.cons_cons _ (.cons_cons _ (.cons_cons _ (.cons_cons _ .slnil)))))) s) rfl)
      ·refine ay (bN fi rfl rfl (mV rfl (br ?_)))
       refine aq (wC (J _ (bv7 f6).symm _ (Mem.sub c8 (.cons_cons _ (.cons_cons _ (.cons_cons _ (.cons_cons _ (.cons_cons _ .slnil)))))) s) rfl)
   ·intro J
    refine cg s rfl ?_ ?_ <;> clear s <;> intro g0 s <;> have i1 := g0 <;> try simp only [qa] at i1
    ·refine az ?_
     refine aq (wC (J _ (bt0 g0).symm _ (Mem.sub f8 (.cons_cons _ (.cons_cons _ (.cons_cons _ (.cons_cons _ (.cons_cons _ .slnil)))))) s) rfl)
    ·refine ay (bN fi rfl rfl (mV rfl (br ?_)))
     refine aq (wC (J _ (bv7 g0).symm _ (Mem.sub f8 (.cons_cons _ (.cons_cons _ (.cons_cons _ (.cons_cons _ (.cons_cons _ .slnil)))))) s) rfl)
  ·exfalso
   try simp only [qa] at d5
   omega

theorem df9 {x0 : ab} {x1 : Int} {v0 : PV} (r0 : ab.t.R x0 v0) (hs : SmH x0) : ∃ c0, ∃ c1, ∃ c2, FnR Tryz.prog 39 [v0, vi x1] (.tup [c0, c1, c2]) ∧ (tSl aa.t).R (fb x0 x1).1 c0 ∧ (tSl tI).R (fb x0 x1).2.1 c1 ∧ (tSl tI).R (fb x0 x1).2.2 c2 := by
 obtain ⟨res, s⟩ : ∃ res, fb x0 x1 = res := ⟨_, rfl⟩
 suffices H : RC Tryz.prog cj1 [] (QR Tryz.prog [(4, none), (5, none), (6, none)] (RF39 res)) (argE 0 [v0, vi x1]) ⟨0, []⟩ by
  rw [s]
  obtain ⟨r, h1, c0, c1, c2, rfl, i0, h6, h9⟩ := fnE cd4 (by simp) H
  exact ⟨c0, c1, c2, h1, i0, h6, h9⟩
 unfold fb at s
 refine sR (ae (dm rfl (TR.cnt ab.t r0)) (ae (v := nilS) (av rfl) (ae (v := nilS) (av rfl) (ae (v := nilS) (av rfl) (nR ?_)))))
 refine ej (x := .agg [nilS, nilS, nilS]) (Mem.nil ⟨0, []⟩) rfl rfl (fun g8 g2 h7 g5 => ?_)
 refine nS (am (sR (lD r0 rfl rfl rfl (mV rfl ?_))))
 obtain ⟨e4, a3, s⟩ := bt s
 obtain ⟨h5, g1, d7⟩ := cg6 (x1 := x1) r0 
 rw [a3] at d7
 have e2 : BO x0 e4 := bk7 a3
 have e3 : e4.length ≤ 12 := (bk7 a3).1
 refine cL g1 rfl rfl (ai (TR.clo ab.t r0) (ai rfl bf)) (ae (cv rfl (ci d7 Tryz.underlying95 _)) (mI rfl (nS (bm ?_))))
 have g4 := py (sz := 2) (es := []) g5 87 (.inl ⟨none, rfl, rfl⟩) (by simp)
 have g6 := py (sz := 1) (es := []) g4 3 (.inl ⟨none, rfl, rfl⟩) (by simp)
 have g7 := py (sz := 1) (es := []) g6 3 (.inl ⟨none, rfl, rfl⟩) (by simp)
 refine wC (wv r0 hs a3 d7 e2 e3 ?_  aL rfl (.inl rfl) (by first | decide | simp) aL rfl (.inl rfl) (by first | decide | simp) aL rfl (.inl rfl) (by first | decide | simp) rfl (by omega) (by first | omega | ((try dsimp only); (try simp only [List.length_append, List.length_cons, List.length_nil]); omega) | simp) (by first | omega | ((try dsimp only); (try simp only [List.length_append, List.length_cons, List.length_nil]); omega) | simp) (by first | omega | ((try dsimp only); (try simp only [List.length_append, List.length_cons, List.length_nil]); omega) | simp) (by first | omega | ((try dsimp only); (try simp only [List.length_append, List.length_cons, List.length_nil]); omega) | simp) (Mem.sub g7 (.cons_cons _ (.cons_cons _ (.cons_cons _ (.cons_cons _ .slnil))))) s) rfl
 ·intro a5 b5 b0 a6 a0 b1 a1 a4 a2 c3 b9 a8 a9 c5 b8 b2 b3 b6 c4 b4 a7 f4 h3 f8 s
  refine gm (aq (am (fq ?_)))
  have h2 : Mem h3 [⟨.op g8 g2 0, 157, 3, [.agg [a2, a1, a0]]⟩, ⟨a2, 87, 2, a4⟩, ⟨a1, 3, 1, b1⟩, ⟨a0, 3, 1, a6⟩] := (Mem.front (k := 3) (Mem.front (k := 2) (Mem.front (k := 1) (Mem.front (k := 0) f8 rfl) rfl) rfl) rfl)
  obtain ⟨h8, d9, s⟩ := bt s
  obtain ⟨h4, i1, e5, d5⟩ := cp8 (x0 := ({ fields := b0, headers := b5, registers := a5 } : dc)) b6 c4 a7 b4 c5 b8 b3 b2 c3 b9 a9 a8 h2 (by first | omega | ((try dsimp only); (try simp only [List.length_append, List.length_cons, List.length_nil]); omega) | simp)
  rw [d9] at d5
  obtain ⟨f6, e7, f0, e9, f3, f1, d6, d2, c6, c9, f2, c8, d0, c7, e8, d3, d4, d1, f5, b7⟩ := d5
  replace b7 := b7.symm; subst b7
  refine im rfl rfl e5 (cb (xT rfl rfl (ca (cb (xT rfl rfl (ca (cb (xT rfl rfl ?_))))))))
  refine ca (cb (mV rfl (ca (cb (mV rfl (ca (cb (mV rfl ?_))))))))
  refine ca (kj (aq ?_))
  obtain ⟨g3, e6, f9⟩ := qj (P := Tryz.prog) (k := 0) (t := aa.t) d6 rfl c6 d2 (Nat.le_trans c9 (by decide))
  obtain ⟨f7, e1, g9⟩ := qj (P := Tryz.prog) (k := 1) (t := tI) d6 rfl d0 c8 (Nat.le_trans c7 (by decide))
  obtain ⟨h0, d8, g0⟩ := qj (P := Tryz.prog) (k := 2) (t := tI) d6 rfl d4 d3 (Nat.le_trans d1 (by decide))
  subst s
  exact fu (.tmp rfl (.tmp rfl (.tmp rfl .nil))) (bx0 (lz e6 (lz e1 (lz d8 ua))) (ai e6.1 (ai e1.1 (ai d8.1 bf)))) ⟨g3, f7, h0, rfl, f9, g9, g0⟩

def RF48 (res : Bool) (r : PV) : Prop := r = vb res
theorem vw {S : List Fr} {res : Bool} {x0 : List aa} {x1 : aa} {v0 v1 : PV} (r0 : (tSl aa.t).R x0 v0) (r1 : aa.t.R x1 v1) {K0 : Unit → Bool}
  (a5 : K0 () = res → PX Tryz.prog 0 S (QR Tryz.prog [(4, none)] (RF48 res)) [] ⟨0, []⟩) :
  ∀ {m : Nat} {a0 : Int} (a4 : m = Int.toNat ((x0.length : Int) - a0)) (a2 : 0 ≤ a0), jx x0 x1 K0 m a0 = res → RC Tryz.prog (.loop cp9) S (QR Tryz.prog [(4, none)] (RF48 res)) [(5, vi a0), (3, .fp v1), (0, v0)] ⟨0, []⟩ := by
 intro m
 induction m with
 | zero =>
  intro a0 a4 a2 s
  rw [jx] at s
  refine co (am (sR (mV rfl (mV rfl (ae (cv rfl (ci r0 Tryz.underlying75 _)) (bN cw rfl rfl (nS ?_)))))))
  refine cd rfl ?_ ?_ <;> intro c <;> try simp only [qa] at c
  ·omega
  refine fj (gg (dw ?_))
  exact wP (a5  s) rfl
 | succ m ih =>
  intro a0 a4 a2 s
  rw [jx] at s
  refine co (am (sR (mV rfl (mV rfl (ae (cv rfl (ci r0 Tryz.underlying75 _)) (bN cw rfl rfl (nS ?_)))))))
  refine cd rfl ?_ ?_ <;> intro c <;> try simp only [qa] at c
  rotate_left
  ·omega
  refine az (aq (am (bm (sR (mV rfl (mV rfl ?_))))))
  obtain ⟨a6, a3, a1⟩ := dq (i := a0) r0 (by omega) (by omega)
  refine ae (bg rfl rfl a3) (lD a1 rfl rfl rfl (lD r1 rfl rfl rfl (bN (aa.eql_87 a1 r1) rfl rfl (nS ?_))))
  refine cg s rfl ?_ ?_ <;> clear s <;> intro c s <;> try simp only [qa] at c
  ·refine sR (mB rfl (nS ?_))
   exact rR s rfl rfl rfl
  ·refine az (de (aq (ay (mV rfl (bN gv rfl rfl (mV rfl (br (di ?_))))))))
   have hbd := en r0
   have hinc : wr (a0 + 1) = a0 + 1 := ee (by omega) (by omega)
   erw [hinc]
   exact wC (ih   (by omega) (by omega) s) rfl

theorem bw7 {x0 : List aa} {x1 : aa} {v0 v1 : PV} (r0 : (tSl aa.t).R x0 v0) (r1 : aa.t.R x1 v1) : FnR Tryz.prog 48 [v0, v1] (vb (jh x0 x1)) := by
 refine fnS (R := RF48) dg3 (fun _ h => h) rfl fun res s => ?_
 unfold jh at s
 refine sR (ae (dm rfl (TR.cnt aa.t r1)) (mB rfl (nS (am (sR (mI rfl (nS (bm ?_))))))))
 refine wC (vw r0 r1 ?_  rfl (by omega) s) rfl
 ·intro  s
  refine gm (aq (sR (mB rfl (nS ?_))))
  exact rR s rfl rfl rfl

def RF124 (res : Bool) (r : PV) : Prop := r = vb res
theorem cu0 {x0 : au} {x1 : aa} {v0 v1 : PV} (r0 : au.t.R x0 v0) (r1 : aa.t.R x1 v1) : FnR Tryz.prog 124 [v0, v1] (vb (js x0 x1)) := by
 refine fnS (R := RF124) cr2 (fun _ h => h) rfl fun res s => ?_
 unfold js at s
 refine sR (ae (dm rfl (TR.cnt au.t r0)) (ae (dm rfl (TR.cnt aa.t r1)) (mB rfl (nS (am (sR (fL rfl (aa.g_Header r1) rfl rfl (bN (fi (b := -1)) rfl rfl ?_))))))))
 refine nS ?_
 refine cg s rfl ?_ ?_ <;> clear s <;> intro c s <;> try simp only [qa] at c
 ·refine sR (fL rfl (aa.g_Field r1) rfl rfl (bN mo rfl rfl (mV rfl ?_)))
  refine cq 7 (d := 18) (v := vb ((decide (0 ≤ x1.Field)) && (decide (x1.Field < (x0.Metd.length : Int))))) ?_ ?_
  ·intro S Q r
   cases b0 : (decide (0 ≤ x1.Field))
   ·exact gN 6 rfl rfl rfl rfl rfl rfl
   ·intro k
    have a6 := b0
    try simp only [qa] at a6
    refine ah rfl rfl (bw rfl (aa.g_Field r1)) (ah rfl rfl (bv rfl rfl rfl) ?_)
    obtain ⟨b9, b5, a0⟩ := au.g_Meta r0
    refine ah rfl rfl (bw rfl b5) (ah rfl rfl (bv rfl (TR.cnt (tSl dn) a0) (TR.agg (tSl dn) a0)) (ah rfl rfl (cv rfl (ci a0 Tryz.underlying43 _)) (ah rfl rfl (bq rfl rfl cw) ?_)))
    exact gK rfl rfl rfl rfl rfl k
  refine mV rfl (nS ?_)
  exact rR s rfl rfl rfl
 ·refine az (aq (sR (fL rfl (aa.g_Header r1) rfl rfl (bN mo rfl rfl (mV rfl ?_)))))
  refine cq 7 (d := 29) (v := vb ((decide (0 ≤ x1.Header)) && (decide (x1.Header < (x0.Fields.length : Int))))) ?_ ?_
  ·intro S Q r
   cases b1 : (decide (0 ≤ x1.Header))
   ·exact gN 6 rfl rfl rfl rfl rfl rfl
   ·intro k
    have a5 := b1
    try simp only [qa] at a5
    refine ah rfl rfl (bw rfl (aa.g_Header r1)) (ah rfl rfl (bv rfl rfl rfl) ?_)
    obtain ⟨b6, b2, a3⟩ := au.g_Fields r0
    refine ah rfl rfl (bw rfl b2) (ah rfl rfl (bv rfl (TR.cnt (tSl (tSl dn)) a3) (TR.agg (tSl (tSl dn)) a3)) (ah rfl rfl (cv rfl (ci a3 Tryz.underlying42 _)) (ah rfl rfl (bq rfl rfl cw) ?_)))
    exact gK rfl rfl rfl rfl rfl k
  refine mV rfl ?_
  refine cq 4 (d := 34) (v := vb (((decide (0 ≤ x1.Header)) && (decide (x1.Header < (x0.Fields.length : Int)))) && (decide (0 ≤ x1.Field)))) ?_ ?_
  ·intro S Q r
   cases a9 : ((decide (0 ≤ x1.Header)) && (decide (x1.Header < (x0.Fields.length : Int))))
   ·exact gN 3 rfl rfl rfl rfl rfl rfl
   ·intro k
    have a2 := a9
    try simp only [qa] at a2
    refine ah rfl rfl (bw rfl (aa.g_Field r1)) (ah rfl rfl (bv rfl rfl rfl) (ah rfl rfl (bq rfl rfl mo) ?_))
    exact gK rfl rfl rfl rfl rfl k
  refine mV rfl ?_
  refine cq 11 (d := 46) (v := vb ((((decide (0 ≤ x1.Header)) && (decide (x1.Header < (x0.Fields.length : Int)))) && (decide (0 ≤ x1.Field))) && (decide (x1.Field < ((ix x0.Fields x1.Header).length : Int))))) ?_ ?_
  ·intro S Q r
   cases a8 : (((decide (0 ≤ x1.Header)) && (decide (x1.Header < (x0.Fields.length : Int)))) && (decide (0 ≤ x1.Field)))
   ·exact gN 10 rfl rfl rfl rfl rfl rfl
   ·intro k
    have a1 := a8
    try simp only [qa] at a1
    refine ah rfl rfl (bw rfl (aa.g_Field r1)) (ah rfl rfl (bv rfl rfl rfl) ?_)
    obtain ⟨b8, b3, a7⟩ := au.g_Fields r0
    refine ah rfl rfl (bw rfl b3) (ah rfl rfl (bv rfl (TR.cnt (tSl (tSl dn)) a7) (TR.agg (tSl (tSl dn)) a7)) (ah rfl rfl (bw rfl (aa.g_Header r1)) (ah rfl rfl (bv rfl rfl rfl) ?_)))
    obtain ⟨b7, b4, a4⟩ := dq (i := x1.Header) a7 (by omega) (by omega)
    refine ah rfl rfl (bg rfl rfl b4) (ah rfl rfl (bv rfl (TR.cnt (tSl dn) a4) (TR.agg (tSl dn) a4)) (ah rfl rfl (cv rfl (ci a4 Tryz.underlying43 _)) (ah rfl rfl (bq rfl rfl cw) ?_)))
    exact gK rfl rfl rfl rfl rfl k
  refine mV rfl (nS ?_)
  exact rR s rfl rfl rfl

def RF93 (res : Bool) (r : PV) : Prop := r = vb res
theorem de3 {x0 : au} {x1 : Int} {v0 : PV} (r0 : au.t.R x0 v0) : FnR Tryz.prog 93 [v0, vi x1] (vb (re x0 x1)) := by
 refine fnS (R := RF93) dc2 (fun _ h => h) rfl fun res s => ?_
 unfold re at s
 refine sR (ae (dm rfl (TR.cnt au.t r0)) (mB rfl (nR (mV rfl (bN mo rfl rfl (mV rfl ?_))))))
 refine cq 6 (d := 13) (v := vb ((decide (0 ≤ x1)) && (decide (x1 < (x0.Valid.length : Int))))) ?_ ?_
 ·intro S Q r
  cases a4 : (decide (0 ≤ x1))
  ·exact gN 5 rfl rfl rfl rfl rfl rfl
  ·intro k
   have a2 := a4
   try simp only [qa] at a2
   refine ah rfl rfl (av rfl) ?_
   obtain ⟨a9, a7, a1⟩ := au.g_Valid r0
   refine ah rfl rfl (bw rfl a7) (ah rfl rfl (bv rfl (TR.cnt (tSl tB) a1) (TR.agg (tSl tB) a1)) (ah rfl rfl (cv rfl (ci a1 Tryz.underlying41 _)) (ah rfl rfl (bq rfl rfl cw) ?_)))
   exact gK rfl rfl rfl rfl rfl k
 refine mV rfl ?_
 refine cq 6 (d := 20) (v := vb (((decide (0 ≤ x1)) && (decide (x1 < (x0.Valid.length : Int)))) && (ix x0.Valid x1))) ?_ ?_
 ·intro S Q r
  cases a5 : ((decide (0 ≤ x1)) && (decide (x1 < (x0.Valid.length : Int))))
  ·exact gN 5 rfl rfl rfl rfl rfl rfl
  ·intro k
   have a0 := a5
   try simp only [qa] at a0
   obtain ⟨a8, a6, a3⟩ := au.g_Valid r0
   refine ah rfl rfl (bw rfl a6) (ah rfl rfl (bv rfl (TR.cnt (tSl tB) a3) (TR.agg (tSl tB) a3)) (ah rfl rfl (av rfl) (ah rfl rfl (bg rfl rfl (slB a3 (by omega) (by omega))) (ah rfl rfl (bv rfl rfl rfl) ?_))))
   exact gK rfl rfl rfl rfl rfl k
 refine mV rfl (nS ?_)
 exact rR s rfl rfl rfl

def RF49 (res : (BitVec 32)) (r : PV) : Prop := r = bh res
theorem ao3 {x0 : au} {x1 : aa} {v0 v1 : PV} (r0 : au.t.R x0 v0) (r1 : aa.t.R x1 v1) : FnR Tryz.prog 49 [v0, v1] (bh (fm x0 x1)) := by
 refine fnS (R := RF49) da1 (fun _ h => h) rfl fun res s => ?_
 unfold fm at s
 refine sR (ae (dm rfl (TR.cnt au.t r0)) (ae (dm rfl (TR.cnt aa.t r1)) (ae (v := bh 0#32) (av rfl) (nS (am (sR (lD r0 rfl rfl rfl (lD r1 rfl rfl rfl ?_))))))))
 obtain ⟨a9, a1, s⟩ := bt s
 have a4 := cu0  r0 r1 
 rw [a1] at a4
 refine cL a4 rfl rfl (ai (TR.clo au.t r0) (ai (TR.clo aa.t r1) bf)) (ae (ju rfl) (nS ?_))
 refine cg s rfl ?_ ?_ <;> clear s <;> intro c s <;> try simp only [qa] at c
 ·refine sR (ae (v := bh 0#32) (av rfl) (nS ?_))
  exact rR s rfl rfl rfl
 ·refine az (aq (am (sR (fL rfl (aa.g_Header r1) rfl rfl (bN (fi (b := -1)) rfl rfl (nS ?_))))))
  refine cg s rfl ?_ ?_ <;> clear s <;> intro c s <;> try simp only [qa] at c
  ·refine sR (gL (au.g_Meta r0) rfl rfl rfl fun a8 a7 => (fL rfl (aa.g_Field r1) rfl rfl (ae (bg rfl rfl (uj a7 (by first | omega | (have hk := ak7 (by assumption) (by assumption) (by assumption); omega) | (have hk := am0 (by assumption) (by assumption) (by assumption); omega)) (by first | omega | (have hk := ak7 (by assumption) (by assumption) (by assumption); omega) | (have hk := am0 (by assumption) (by assumption) (by assumption); omega)))) (lR rfl rfl rfl (mV rfl (nS ?_))))))
   exact rR s rfl rfl rfl
  ·refine az (aq (am (sR (lD r0 rfl rfl rfl (fL rfl (aa.g_Header r1) rfl rfl ?_)))))
   obtain ⟨b1, a2, s⟩ := bt s
   have a0 := de3 (x1 := x1.Header) r0 
   rw [a2] at a0
   refine cL a0 rfl rfl (ai (TR.clo au.t r0) (ai rfl bf)) (ae (ju rfl) (nS ?_))
   refine cg s rfl ?_ ?_ <;> clear s <;> intro c s <;> try simp only [qa] at c
   ·refine sR (ae (v := bh 0#32) (av rfl) (nS ?_))
    exact rR s rfl rfl rfl
   ·refine az (aq (sR (gL (au.g_Fields r0) rfl rfl rfl fun b0 a5 => (fL rfl (aa.g_Header r1) rfl rfl ?_))))
    obtain ⟨b2, a6, a3⟩ := dq (i := x1.Header) a5 (by first | omega | (have hk := ak7 (by assumption) (by assumption) (by assumption); omega) | (have hk := am0 (by assumption) (by assumption) (by assumption); omega)) (by first | omega | (have hk := ak7 (by assumption) (by assumption) (by assumption); omega) | (have hk := am0 (by assumption) (by assumption) (by assumption); omega))
    refine ae (bg rfl rfl a6) (lD a3 rfl rfl rfl (fL rfl (aa.g_Field r1) rfl rfl (ae (bg rfl rfl (uj a3 (by first | omega | (have hk := ak7 (by assumption) (by assumption) (by assumption); omega) | (have hk := am0 (by assumption) (by assumption) (by assumption); omega)) (by first | omega | (have hk := ak7 (by assumption) (by assumption) (by assumption); omega) | (have hk := am0 (by assumption) (by assumption) (by assumption); omega)))) (lR rfl rfl rfl (mV rfl (nS ?_))))))
    exact rR s rfl rfl rfl

def RF50 (res : Bool) (r : PV) : Prop := r = vb res
theorem xp {S : List Fr} {res : Bool} {x0 : List Int} {x1 : Int} {v0 : PV} (r0 : (tSl tI).R x0 v0) {K0 : Unit → Bool}
  (a3 : K0 () = res → PX Tryz.prog 0 S (QR Tryz.prog [(4, none)] (RF50 res)) [] ⟨0, []⟩) :
  ∀ {m : Nat} {a0 : Int} (a2 : m = Int.toNat ((x0.length : Int) - a0)) (a1 : 0 ≤ a0), lu x0 x1 K0 m a0 = res → RC Tryz.prog (.loop ch2) S (QR Tryz.prog [(4, none)] (RF50 res)) [(5, vi a0), (1, vi x1), (0, v0)] ⟨0, []⟩ := by
 intro m
 induction m with
 | zero =>
  intro a0 a2 a1 s
  rw [lu] at s
  refine co (am (sR (mV rfl (mV rfl (ae (cv rfl (ci r0 Tryz.underlying29 _)) (bN cw rfl rfl (nS ?_)))))))
  refine cd rfl ?_ ?_ <;> intro c <;> try simp only [qa] at c
  ·omega
  refine fj (gg (dw ?_))
  exact wP (a3  s) rfl
 | succ m ih =>
  intro a0 a2 a1 s
  rw [lu] at s
  refine co (am (sR (mV rfl (mV rfl (ae (cv rfl (ci r0 Tryz.underlying29 _)) (bN cw rfl rfl (nS ?_)))))))
  refine cd rfl ?_ ?_ <;> intro c <;> try simp only [qa] at c
  rotate_left
  ·omega
  refine az (aq (am (bm (sR (mV rfl (mV rfl (ae (bg rfl rfl (slI r0 (by omega) (by omega))) (lR rfl rfl rfl ?_))))))))
  refine mV rfl (bN fi rfl rfl (nS ?_))
  refine cg s rfl ?_ ?_ <;> clear s <;> intro c s <;> try simp only [qa] at c
  ·refine sR (mB rfl (nS ?_))
   exact rR s rfl rfl rfl
  ·refine az (de (aq (ay (mV rfl (bN gv rfl rfl (mV rfl (br (di ?_))))))))
   have hbd := en r0
   have hinc : wr (a0 + 1) = a0 + 1 := ee (by omega) (by omega)
   erw [hinc]
   exact wC (ih   (by omega) (by omega) s) rfl

theorem bu5 {x0 : List Int} {x1 : Int} {v0 : PV} (r0 : (tSl tI).R x0 v0) : FnR Tryz.prog 50 [v0, vi x1] (vb (kv x0 x1)) := by
 refine fnS (R := RF50) dc3 (fun _ h => h) rfl fun res s => ?_
 unfold kv at s
 refine sR (mB rfl (nS (am (sR (mI rfl (nS (bm ?_)))))))
 refine wC (xp r0 ?_  rfl (by omega) s) rfl
 ·intro  s
  refine gm (aq (sR (mB rfl (nS ?_))))
  exact rR s rfl rfl rfl

end Go.Proofs.YtmonnlkagniolaaGreat
