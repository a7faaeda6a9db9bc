/-
 The code of each function does what its plain program says.
-/
import Derived.Test.YtmonnlkagniolaaGreatL8W5
set_option linter.unusedVariables false
set_option linter.unusedSimpArgs false
set_option maxRecDepth 100000
namespace Go.Proofs.YtmonnlkagniolaaGreat
open Go Go.Pb Go.RowKit
def RF190 (res : au) (r : PV) : Prop := au.t.R res r
theorem cl3 {x0 : ab} {x1 : au} {x2 : Int} {v0 v1 : PV} (r0 : ab.t.R x0 v0) (r1 : au.t.R x1 v1) (hE : EB x1) : ∃ r, FnR Tryz.prog 190 [v0, v1, vi x2] r ∧ au.t.R (te x0 x1 x2) r := by
 refine fnT (R := RF190) bb8 rfl fun res s => ?_
 unfold te at s
 refine sR (ae (dm rfl (TR.cnt ab.t r0)) (ae (dm rfl (TR.cnt au.t r1)) ?_))
 refine ej (x := .agg [nilS, nilS, nilS, nilS]) (Mem.nil ⟨0, []⟩) rfl rfl (fun a8 a6 b0 a5 => ?_)
 refine nR (lD r0 rfl rfl rfl (lD r1 rfl rfl rfl (mV rfl ?_)))
 obtain ⟨a9, a3, s⟩ := bt s
 obtain ⟨a2, a4, a0⟩ := bg0 (x2 := x2) (x3 := true) (x4 := true) r0 r1 (by first | assumption | omega | (rw [ee (by omega) (by omega)]; omega) | (have hk := rval rfl (And.right (And.left (by assumption))); omega) | (have hk := rval (by assumption) (by assumption); omega) | (have hk := rval (by assumption) (And.left (by assumption)); omega) | (have hk := rval (by assumption) (And.left (And.left (by assumption))); have hz := rslc (by assumption); omega) | (simp; done) | (simp only [List.length_append, List.length_nil, List.length_cons]; omega) | (have hk := (dx (by assumption) (by assumption)).1; omega) | (simp only [List.length_cons, List.length_nil]; omega) | (simp only [List.length_append]; have hk := (dx (by assumption) (by assumption)).1; omega) | (simp only [List.length_append, List.length_nil]; have hk := (dx (by assumption) (by assumption)).1; omega))
 rw [a3] at a0
 refine cL a4 rfl rfl (ai (TR.clo ab.t r0) (ai (TR.clo au.t r1) (ai rfl (ai rfl (ai rfl bf))))) ?_
 refine ct (k := 0) (v := a2) a5 rfl rfl rfl (TR.cnt au.t a0) (fun a7 a1 => ?_)
 replace a1 : Mem a7 [⟨.op a8 a6 0, 46, 4, [a2]⟩] := a1
 refine nS ?_
 subst s
 exact fu (.cell rfl (dg (k := 0) a1 rfl (TR.agg au.t a0)) .nil) (cp (TR.clo au.t a0)) a0

def RF119 (i0_ w0_ : Nat) (R_ : List Ent) (res : aw) (r : PV) (h : Heap) : Prop := ∃ uF0 : PV, Mem h (⟨.op i0_ w0_ 0, 171, 16, [uF0]⟩ :: R_) ∧ (aw.t.R res uF0) ∧ r = .tup []
theorem cs5 {x0 : aw} {x1 : ak} {v1 f7 : PV} {R_ : List Ent} {h_ : Heap} {d2 d3 : Nat} (r1 : ak.t.R x1 v1) (d0 : aw.t.R x0 f7) (M_ : Mem h_ (⟨.op d2 d3 0, 171, 16, [f7]⟩ :: R_)) (hE : EB x0.env) : ∃ r f8, FnX Tryz.prog 119 [.op d2 d3 0, v1] h_ r f8 ∧ RF119 d2 d3 R_ (je x0 x1) r f8 := by
 refine fnXX (R := RF119 d2 d3 R_) bm2 rfl fun res s => ?_
 unfold je at s
 refine sR (ae (dm rfl (TR.cnt ak.t r1)) (nS (ay (mV rfl (mV rfl (ae (cx rfl rfl) (ae (bz rfl) (ae (bz rfl) ?_))))))))
 obtain ⟨g0, f2, f0⟩ := aw.g_scope d0
 obtain ⟨g1, f6, e3⟩ := bc.g_Program f0
 refine ae (dj (k := 0) M_ rfl rfl (nl f2 f6)) (mV rfl (ae (cx rfl rfl) (ae (bz rfl) ?_)))
 obtain ⟨g2, f5, d4⟩ := aw.g_env d0
 refine ae (dj (k := 0) M_ rfl rfl f5) (fL rfl (ak.g_Header r1) rfl rfl ?_)
 obtain ⟨e9, d7, s⟩ := bt s
 obtain ⟨f9, f1, d8⟩ := cl3 (x2 := x1.Header) e3 d4 (by first | assumption | omega | (rw [ee (by omega) (by omega)]; omega) | (have hk := rval rfl (And.right (And.left (by assumption))); omega) | (have hk := rval (by assumption) (by assumption); omega) | (have hk := rval (by assumption) (And.left (by assumption)); omega) | (have hk := rval (by assumption) (And.left (And.left (by assumption))); have hz := rslc (by assumption); omega) | (simp; done) | (simp only [List.length_append, List.length_nil, List.length_cons]; omega) | (have hk := (dx (by assumption) (by assumption)).1; omega) | (simp only [List.length_cons, List.length_nil]; omega) | (simp only [List.length_append]; have hk := (dx (by assumption) (by assumption)).1; omega) | (simp only [List.length_append, List.length_nil]; have hk := (dx (by assumption) (by assumption)).1; omega))
 rw [d7] at d8
 refine cL f1 rfl rfl (ai (TR.clo ab.t e3) (ai (TR.clo au.t d4) (ai rfl bf))) (ae (cx rfl rfl) (ae (bz rfl) ?_))
 obtain ⟨b0, b1, a8, a7, a9, a6, b2, b4, b3, a1, e1, e4, d9, e5, a0, f3, c1, c3, b8, c2, b9, c9, c7, b7, c5, b5, d5, e8, e7, e6, b6⟩ := d0
 subst f3
 obtain ⟨a3, a4, a5, a2, f4, c0, c6, c8, c4⟩ := d8
 subst f4
 refine me (k := 0) (v := .agg [a3, a4, a5, a2]) M_ rfl rfl rfl rfl rfl (by first | decide | (simp only [List.length_cons, List.length_nil]; omega) | simp) (fun d6 d1 => ?_)
 replace d1 : Mem d6 (⟨.op d2 d3 0, 171, 16, [.agg [vs x0.scope.Program.Name, b0, b1, a8, a7, a9, a6, b2, b4, b3, a1, a3, a4, a5, a2, a0]]⟩ :: R_) := d1
 refine br ?_
 have e2 : Mem d6 (⟨.op d2 d3 0, 171, 16, [.agg [vs x0.scope.Program.Name, b0, b1, a8, a7, a9, a6, b2, b4, b3, a1, a3, a4, a5, a2, a0]]⟩ :: R_) := (Mem.front (k := 0) d1 rfl)
 subst s
 exact yu .nil ⟨(.agg [vs x0.scope.Program.Name, b0, b1, a8, a7, a9, a6, b2, b4, b3, a1, a3, a4, a5, a2, a0]), Mem.sub e2 (.cons_cons _ (List.Sublist.refl R_)), (show aw.t.R ({ scope := x0.scope, args := x0.args, env := e9, regs := x0.regs } : aw) (.agg [vs x0.scope.Program.Name, b0, b1, a8, a7, a9, a6, b2, b4, b3, a1, a3, a4, a5, a2, a0]) from ⟨b0, b1, a8, a7, a9, a6, b2, b4, b3, a1, a3, a4, a5, a2, a0, rfl, c1, c3, b8, c2, b9, c9, c7, b7, c5, b5, c0, c6, c8, c4, b6⟩), rfl⟩

def RF191 (res : au) (r : PV) : Prop := au.t.R res r
theorem cl0 {x0 : ab} {x1 : au} {x2 : Int} {v0 v1 : PV} (r0 : ab.t.R x0 v0) (r1 : au.t.R x1 v1) (hE : EB x1) : ∃ r, FnR Tryz.prog 191 [v0, v1, vi x2] r ∧ au.t.R (qh x0 x1 x2) r := by
 refine fnT (R := RF191) bk3 rfl fun res s => ?_
 unfold qh at s
 refine sR (ae (dm rfl (TR.cnt ab.t r0)) (ae (dm rfl (TR.cnt au.t r1)) ?_))
 refine ej (x := .agg [nilS, nilS, nilS, nilS]) (Mem.nil ⟨0, []⟩) rfl rfl (fun a8 a6 b0 a5 => ?_)
 refine nR (lD r0 rfl rfl rfl (lD r1 rfl rfl rfl (mV rfl ?_)))
 obtain ⟨a9, a3, s⟩ := bt s
 obtain ⟨a2, a4, a0⟩ := bg0 (x2 := x2) (x3 := false) (x4 := false) r0 r1 (by first | assumption | omega | (rw [ee (by omega) (by omega)]; omega) | (have hk := rval rfl (And.right (And.left (by assumption))); omega) | (have hk := rval (by assumption) (by assumption); omega) | (have hk := rval (by assumption) (And.left (by assumption)); omega) | (have hk := rval (by assumption) (And.left (And.left (by assumption))); have hz := rslc (by assumption); omega) | (simp; done) | (simp only [List.length_append, List.length_nil, List.length_cons]; omega) | (have hk := (dx (by assumption) (by assumption)).1; omega) | (simp only [List.length_cons, List.length_nil]; omega) | (simp only [List.length_append]; have hk := (dx (by assumption) (by assumption)).1; omega) | (simp only [List.length_append, List.length_nil]; have hk := (dx (by assumption) (by assumption)).1; omega))
 rw [a3] at a0
 refine cL a4 rfl rfl (ai (TR.clo ab.t r0) (ai (TR.clo au.t r1) (ai rfl (ai rfl (ai rfl bf))))) ?_
 refine ct (k := 0) (v := a2) a5 rfl rfl rfl (TR.cnt au.t a0) (fun a7 a1 => ?_)
 replace a1 : Mem a7 [⟨.op a8 a6 0, 46, 4, [a2]⟩] := a1
 refine nS ?_
 subst s
 exact fu (.cell rfl (dg (k := 0) a1 rfl (TR.agg au.t a0)) .nil) (cp (TR.clo au.t a0)) a0

def RF120 (i0_ w0_ : Nat) (R_ : List Ent) (res : aw) (r : PV) (h : Heap) : Prop := ∃ uF0 : PV, Mem h (⟨.op i0_ w0_ 0, 171, 16, [uF0]⟩ :: R_) ∧ (aw.t.R res uF0) ∧ r = .tup []
theorem cl6 {x0 : aw} {x1 : ak} {v1 f7 : PV} {R_ : List Ent} {h_ : Heap} {d2 d3 : Nat} (r1 : ak.t.R x1 v1) (d0 : aw.t.R x0 f7) (M_ : Mem h_ (⟨.op d2 d3 0, 171, 16, [f7]⟩ :: R_)) (hE : EB x0.env) : ∃ r f8, FnX Tryz.prog 120 [.op d2 d3 0, v1] h_ r f8 ∧ RF120 d2 d3 R_ (iu x0 x1) r f8 := by
 refine fnXX (R := RF120 d2 d3 R_) bl0 rfl fun res s => ?_
 unfold iu at s
 refine sR (ae (dm rfl (TR.cnt ak.t r1)) (nS (ay (mV rfl (mV rfl (ae (cx rfl rfl) (ae (bz rfl) (ae (bz rfl) ?_))))))))
 obtain ⟨g0, f2, f0⟩ := aw.g_scope d0
 obtain ⟨g1, f6, e3⟩ := bc.g_Program f0
 refine ae (dj (k := 0) M_ rfl rfl (nl f2 f6)) (mV rfl (ae (cx rfl rfl) (ae (bz rfl) ?_)))
 obtain ⟨g2, f5, d4⟩ := aw.g_env d0
 refine ae (dj (k := 0) M_ rfl rfl f5) (fL rfl (ak.g_Header r1) rfl rfl ?_)
 obtain ⟨e9, d7, s⟩ := bt s
 obtain ⟨f9, f1, d8⟩ := cl0 (x2 := x1.Header) e3 d4 (by first | assumption | omega | (rw [ee (by omega) (by omega)]; omega) | (have hk := rval rfl (And.right (And.left (by assumption))); omega) | (have hk := rval (by assumption) (by assumption); omega) | (have hk := rval (by assumption) (And.left (by assumption)); omega) | (have hk := rval (by assumption) (And.left (And.left (by assumption))); have hz := rslc (by assumption); omega) | (simp; done) | (simp only [List.length_append, List.length_nil, List.length_cons]; omega) | (have hk := (dx (by assumption) (by assumption)).1; omega) | (simp only [List.length_cons, List.length_nil]; omega) | (simp only [List.length_append]; have hk := (dx (by assumption) (by assumption)).1; omega) | (simp only [List.length_append, List.length_nil]; have hk := (dx (by assumption) (by assumption)).1; omega))
 rw [d7] at d8
 refine cL f1 rfl rfl (ai (TR.clo ab.t e3) (ai (TR.clo au.t d4) (ai rfl bf))) (ae (cx rfl rfl) (ae (bz rfl) ?_))
 obtain ⟨b0, b1, a8, a7, a9, a6, b2, b4, b3, a1, e1, e4, d9, e5, a0, f3, c1, c3, b8, c2, b9, c9, c7, b7, c5, b5, d5, e8, e7, e6, b6⟩ := d0
 subst f3
 obtain ⟨a3, a4, a5, a2, f4, c0, c6, c8, c4⟩ := d8
 subst f4
 refine me (k := 0) (v := .agg [a3, a4, a5, a2]) M_ rfl rfl rfl rfl rfl (by first | decide | (simp only [List.length_cons, List.length_nil]; omega) | simp) (fun d6 d1 => ?_)
 replace d1 : Mem d6 (⟨.op d2 d3 0, 171, 16, [.agg [vs x0.scope.Program.Name, b0, b1, a8, a7, a9, a6, b2, b4, b3, a1, a3, a4, a5, a2, a0]]⟩ :: R_) := d1
 refine br ?_
 have e2 : Mem d6 (⟨.op d2 d3 0, 171, 16, [.agg [vs x0.scope.Program.Name, b0, b1, a8, a7, a9, a6, b2, b4, b3, a1, a3, a4, a5, a2, a0]]⟩ :: R_) := (Mem.front (k := 0) d1 rfl)
 subst s
 exact yu .nil ⟨(.agg [vs x0.scope.Program.Name, b0, b1, a8, a7, a9, a6, b2, b4, b3, a1, a3, a4, a5, a2, a0]), Mem.sub e2 (.cons_cons _ (List.Sublist.refl R_)), (show aw.t.R ({ scope := x0.scope, args := x0.args, env := e9, regs := x0.regs } : aw) (.agg [vs x0.scope.Program.Name, b0, b1, a8, a7, a9, a6, b2, b4, b3, a1, a3, a4, a5, a2, a0]) from ⟨b0, b1, a8, a7, a9, a6, b2, b4, b3, a1, a3, a4, a5, a2, a0, rfl, c1, c3, b8, c2, b9, c9, c7, b7, c5, b5, c0, c6, c8, c4, b6⟩), rfl⟩

def RF230 (res : Bool) (r : PV) : Prop := r = vb res
theorem be8 {x0 : dp} {x1 : Int} {x2 : BitVec 32} {v0 : PV} (r0 : dp.t.R x0 v0) : FnR Tryz.prog 230 [v0, vi x1, bh x2] (vb (gf x0 x1 x2)) := by
 refine fnS (R := RF230) bb7 (fun _ h => h) rfl fun res s => ?_
 unfold gf at s
 refine sR (ae (dm rfl (TR.cnt dp.t r0)) (mB rfl (nS (am (sR (mV rfl (bN cw rfl rfl (mV rfl ?_))))))))
 refine cq 7 (d := 16) (v := vb ((decide (x1 < 0)) || (decide ((x0.p.Registers.length : Int) ≤ x1)))) ?_ ?_
 ·intro S Q r
  cases a8 : (decide (x1 < 0))
  ·intro k
   have a5 := a8
   try simp only [qa] at a5
   refine ah rfl rfl (av rfl) ?_
   obtain ⟨c8, c1, b6⟩ := dp.g_p r0
   refine ah rfl rfl (bw rfl c1) ?_
   obtain ⟨c9, b8, a0⟩ := ab.g_Registers b6
   refine ah rfl rfl (bw rfl b8) (ah rfl rfl (bv rfl (TR.cnt (tSl cm.t) a0) (TR.agg (tSl cm.t) a0)) (ah rfl rfl (cv rfl (ci a0 Tryz.underlying24 _)) (ah rfl rfl (bq rfl rfl mo) ?_)))
   exact gK rfl rfl rfl rfl rfl k
  ·exact gN 6 rfl rfl rfl rfl rfl rfl
 refine mV rfl ?_
 refine cq 6 (d := 23) (v := vb (((decide (x1 < 0)) || (decide ((x0.p.Registers.length : Int) ≤ x1))) || (decide ((x0.cells.length : Int) ≤ x1)))) ?_ ?_
 ·intro S Q r
  cases b0 : ((decide (x1 < 0)) || (decide ((x0.p.Registers.length : Int) ≤ x1)))
  ·intro k
   have a3 := b0
   try simp only [qa] at a3
   refine ah rfl rfl (av rfl) ?_
   obtain ⟨c3, b4, a1⟩ := dp.g_cells r0
   refine ah rfl rfl (bw rfl b4) (ah rfl rfl (bv rfl (TR.cnt (tSl (tSl dn)) a1) (TR.agg (tSl (tSl dn)) a1)) (ah rfl rfl (cv rfl (ci a1 Tryz.underlying42 _)) (ah rfl rfl (bq rfl rfl mo) ?_)))
   exact gK rfl rfl rfl rfl rfl k
  ·exact gN 5 rfl rfl rfl rfl rfl rfl
 refine nS ?_
 refine cg s rfl ?_ ?_ <;> clear s <;> intro c s <;> try simp only [qa] at c
 ·refine sR (mB rfl (nS ?_))
  exact rR s rfl rfl rfl
 ·refine az (aq (sR (mV rfl (ae (ue (a := bh x2) rfl (c_wi Tryz.underlying89 Tryz.underlying3)) ?_))))
  obtain ⟨c4, b1, b3⟩ := dp.g_p r0
  refine fA rfl b1 ?_
  obtain ⟨c7, b5, a9⟩ := ab.g_Registers b3
  refine fA rfl b5 (lD a9 rfl rfl rfl (mV rfl ?_))
  obtain ⟨c5, b7, b2⟩ := dq (i := x1) a9 (by omega) (by omega)
  refine ae (bg rfl rfl b7) (fL rfl (cm.g_Size b2) rfl rfl (bN cw rfl rfl (mV rfl ?_)))
  refine cq 10 (d := 44) (v := vb ((decide ((x2.toNat : Int) < ((ix x0.p.Registers x1).Size))) && (decide ((x2.toNat : Int) < ((ix x0.cells x1).length : Int))))) ?_ ?_
  ·intro S Q r
   cases a7 : (decide ((x2.toNat : Int) < ((ix x0.p.Registers x1).Size)))
   ·exact gN 9 rfl rfl rfl rfl rfl rfl
   ·intro k
    have a4 := a7
    try simp only [qa] at a4
    refine ah rfl rfl (av rfl) (ah rfl rfl (ue (a := bh x2) rfl (c_wi Tryz.underlying89 Tryz.underlying3)) ?_)
    obtain ⟨c6, c0, a6⟩ := dp.g_cells r0
    refine ah rfl rfl (bw rfl c0) (ah rfl rfl (bv rfl (TR.cnt (tSl (tSl dn)) a6) (TR.agg (tSl (tSl dn)) a6)) (ah rfl rfl (av rfl) ?_))
    obtain ⟨c2, b9, a2⟩ := dq (i := x1) a6 (by omega) (by omega)
    refine ah rfl rfl (bg rfl rfl b9) (ah rfl rfl (bv rfl (TR.cnt (tSl dn) a2) (TR.agg (tSl dn) a2)) (ah rfl rfl (cv rfl (ci a2 Tryz.underlying43 _)) (ah rfl rfl (bq rfl rfl cw) ?_)))
    exact gK rfl rfl rfl rfl rfl k
  refine mV rfl (nS ?_)
  exact rR s rfl rfl rfl

def RF192 (res : (BitVec 32)) (r : PV) : Prop := r = bh res
theorem cv0 {x0 : ab} {x1 : List (List (BitVec 32))} {x2 : Int} {x3 : BitVec 32} {v0 v1 : PV} (r0 : ab.t.R x0 v0) (r1 : (tSl (tSl dn)).R x1 v1) : FnR Tryz.prog 192 [v0, v1, vi x2, bh x3] (bh (su x0 x1 x2 x3)) := by
 refine fnS (R := RF192) bk5 (fun _ h => h) rfl fun res s => ?_
 unfold su at s
 refine sR (ae (dm rfl (TR.cnt ab.t r0)) (ae (v := bh 0#32) (av rfl) (nR (mV rfl (nS (am (sR (mV rfl ?_))))))))
 refine lD r0 rfl rfl rfl (mV rfl ?_)
 obtain ⟨a4, a2, a1, a7, a0, a5, a6, a3, c0, a9, b5, a8, b4, b0, b3, b2, b1⟩ := r0
 subst c0
 refine ae (v := .agg [vs x0.Name, a4, a2, a1, a7, a0, a5, a6, a3, v1]) (fk (cs := [vs x0.Name, a4, a2, a1, a7, a0, a5, a6, a3, v1]) rfl (by simp only [buildV, ou (TR.cnt (tSl (tSl dn)) r1) (TR.agg (tSl (tSl dn)) r1)]; rfl)) (mV rfl (mV rfl ?_))
 obtain ⟨c2, b6, s⟩ := bt s
 have b7 := be8 (x1 := x2) (x2 := x3) (show dp.t.R ({ p := x0, cells := x1 } : dp) (.agg [vs x0.Name, a4, a2, a1, a7, a0, a5, a6, a3, v1]) from ⟨a4, a2, a1, a7, a0, a5, a6, a3, v1, rfl, a9, b5, a8, b4, b0, b3, b2, b1, r1⟩) 
 rw [b6] at b7
 refine cL b7 rfl rfl (ai (TR.clo dp.t (show dp.t.R ({ p := x0, cells := x1 } : dp) (.agg [vs x0.Name, a4, a2, a1, a7, a0, a5, a6, a3, v1]) from ⟨a4, a2, a1, a7, a0, a5, a6, a3, v1, rfl, a9, b5, a8, b4, b0, b3, b2, b1, r1⟩)) (ai rfl (ai rfl bf))) (ae (ju rfl) (nS ?_))
 refine cg s rfl ?_ ?_ <;> clear s <;> intro c s <;> try simp only [qa] at c
 ·refine sR (ae (v := bh 0#32) (av rfl) (nS ?_))
  exact rR s rfl rfl rfl
 ·refine az (aq (sR (mV rfl (mV rfl ?_))))
  obtain ⟨c1, b9, b8⟩ := dq (i := x2) r1 (by first | omega | (have hk := al3 (by assumption) (by assumption); try dsimp only at hk; omega)) (by first | omega | (have hk := al3 (by assumption) (by assumption); try dsimp only at hk; omega))
  refine ae (bg rfl rfl b9) (lD b8 rfl rfl rfl (mV rfl (ae (bg rfl rfl (dl4 (uj b8 (by first | omega | (have hk := al3 (by assumption) (by assumption); try dsimp only at hk; omega)) (by first | omega | (have hk := al3 (by assumption) (by assumption); try dsimp only at hk; omega))))) (lR rfl rfl rfl (mV rfl (nS ?_))))))
  exact rR s rfl rfl rfl

def RF121 (i0_ w0_ : Nat) (R_ : List Ent) (res : aw) (r : PV) (h : Heap) : Prop := ∃ uF0 : PV, Mem h (⟨.op i0_ w0_ 0, 171, 16, [uF0]⟩ :: R_) ∧ (aw.t.R res uF0) ∧ r = .tup []
theorem cl2 {x0 : aw} {x1 : ak} {v1 h3 : PV} {R_ : List Ent} {h_ : Heap} {d4 d3 : Nat} (r1 : ak.t.R x1 v1) (b5 : aw.t.R x0 h3) (M_ : Mem h_ (⟨.op d4 d3 0, 171, 16, [h3]⟩ :: R_)) (hE : EB x0.env) : ∃ r h4, FnX Tryz.prog 121 [.op d4 d3 0, v1] h_ r h4 ∧ RF121 d4 d3 R_ (lk x0 x1) r h4 := by
 refine fnXX (R := RF121 d4 d3 R_) bl6 rfl fun res s => ?_
 unfold lk at s
 refine sR (ae (dm rfl (TR.cnt ak.t r1)) (nR (mV rfl (ae (cx rfl rfl) (ae (bz rfl) (ae (bz rfl) ?_))))))
 obtain ⟨i1, f7, f9⟩ := aw.g_scope b5
 obtain ⟨h9, g7, f2⟩ := bc.g_Program f9
 refine ae (dj (k := 0) M_ rfl rfl (nl f7 g7)) (mV rfl (ae (cx rfl rfl) (ae (bz rfl) ?_)))
 obtain ⟨h6, h2, d5⟩ := aw.g_regs b5
 refine ae (dj (k := 0) M_ rfl rfl h2) (fL rfl (ak.g_Register r1) rfl rfl (mV rfl ?_))
 obtain ⟨h5, g3, d2⟩ := ak.g_Index r1
 refine fA rfl g3 (lD d2 rfl rfl rfl ?_)
 have g8 := ae0 (P := Tryz.prog) (k := 0) M_ rfl (TR.clo aw.t b5)
 obtain ⟨h1, f1, s⟩ := bt s
 have e9 := ad6  b5 d2 
 rw [f1] at e9
 refine st (sm rfl rfl (lz g8 (lz (cp (TR.clo (tSl af.t) d2)) ua)) e9 rfl) ?_
 obtain ⟨g9, e5, s⟩ := bt s
 have d8 := cv0 (x2 := x1.Register) (x3 := h1) f2 d5 
 rw [e5] at d8
 refine cL d8 rfl rfl (ai (TR.clo ab.t f2) (ai (TR.clo (tSl (tSl dn)) d5) (ai rfl (ai rfl bf)))) (mV rfl (nS (ay (mV rfl (mV rfl (ae (cx rfl rfl) (ae (bz rfl) (ae (bz rfl) ?_))))))))
 obtain ⟨i2, g4, g1⟩ := aw.g_scope b5
 obtain ⟨h7, f8, e4⟩ := bc.g_Program g1
 refine ae (dj (k := 0) M_ rfl rfl (nl g4 f8)) (mV rfl (ae (cx rfl rfl) (ae (bz rfl) ?_)))
 obtain ⟨i0, g5, f4⟩ := aw.g_env b5
 refine ae (dj (k := 0) M_ rfl rfl g5) (gL (ak.g_Dst r1) rfl rfl rfl fun i3 e8 => (mV rfl ?_))
 obtain ⟨g6, d7, s⟩ := bt s
 obtain ⟨h8, g0, f3⟩ := bh0 (x3 := g9) e4 f4 e8 (by first | assumption | omega | (rw [ee (by omega) (by omega)]; omega) | (have hk := rval rfl (And.right (And.left (by assumption))); omega) | (have hk := rval (by assumption) (by assumption); omega) | (have hk := rval (by assumption) (And.left (by assumption)); omega) | (have hk := rval (by assumption) (And.left (And.left (by assumption))); have hz := rslc (by assumption); omega) | (simp; done) | (simp only [List.length_append, List.length_nil, List.length_cons]; omega) | (have hk := (dx (by assumption) (by assumption)).1; omega) | (simp only [List.length_cons, List.length_nil]; omega) | (simp only [List.length_append]; have hk := (dx (by assumption) (by assumption)).1; omega) | (simp only [List.length_append, List.length_nil]; have hk := (dx (by assumption) (by assumption)).1; omega))
 rw [d7] at f3
 refine cL g0 rfl rfl (ai (TR.clo ab.t e4) (ai (TR.clo au.t f4) (ai (TR.clo aa.t e8) (ai rfl bf)))) (ae (cx rfl rfl) (ae (bz rfl) ?_))
 obtain ⟨b0, b3, b1, b4, b2, a9, a8, a7, a6, a1, f5, e7, e3, e2, a0, h0, c9, b9, c6, c3, d0, b8, c4, c1, c0, b6, e1, f6, e6, f0, b7⟩ := b5
 subst h0
 obtain ⟨a5, a3, a4, a2, g2, c7, c8, c2, c5⟩ := f3
 subst g2
 refine me (k := 0) (v := .agg [a5, a3, a4, a2]) M_ rfl rfl rfl rfl rfl (by first | decide | (simp only [List.length_cons, List.length_nil]; omega) | simp) (fun d6 d1 => ?_)
 replace d1 : Mem d6 (⟨.op d4 d3 0, 171, 16, [.agg [vs x0.scope.Program.Name, b0, b3, b1, b4, b2, a9, a8, a7, a6, a1, a5, a3, a4, a2, a0]]⟩ :: R_) := d1
 refine br ?_
 have d9 : Mem d6 (⟨.op d4 d3 0, 171, 16, [.agg [vs x0.scope.Program.Name, b0, b3, b1, b4, b2, a9, a8, a7, a6, a1, a5, a3, a4, a2, a0]]⟩ :: R_) := (Mem.front (k := 0) d1 rfl)
 subst s
 exact yu .nil ⟨(.agg [vs x0.scope.Program.Name, b0, b3, b1, b4, b2, a9, a8, a7, a6, a1, a5, a3, a4, a2, a0]), Mem.sub d9 (.cons_cons _ (List.Sublist.refl R_)), (show aw.t.R ({ scope := x0.scope, args := x0.args, env := g6, regs := x0.regs } : aw) (.agg [vs x0.scope.Program.Name, b0, b3, b1, b4, b2, a9, a8, a7, a6, a1, a5, a3, a4, a2, a0]) from ⟨b0, b3, b1, b4, b2, a9, a8, a7, a6, a1, a5, a3, a4, a2, a0, rfl, c9, b9, c6, c3, d0, b8, c4, c1, c0, b6, c7, c8, c2, c5, b7⟩), rfl⟩

theorem OR.inner {h : Heap} {rs : List (List (BitVec 32))} {b : PV} {ef : List PV} {I R : List Ent} (H : OR h rs b ef I R) {i : Int} (h0 : 0 ≤ i) (h1 : i < rs.length) :
  ∃ v es, ef[i.toNat]? = some v ∧ I[i.toNat]? = some ⟨v, 89, 1, es⟩ ∧ (⟨b, 43, 1, ef⟩ :: (I ++ R))[i.toNat + 1]? = some (⟨v, 89, 1, es⟩ : Ent) ∧ All2 dn.R (ix rs i) es ∧ isL v = true ∧ (ix rs i).length ≤ 4611686018427387904 ∧ Wri v es := by
 obtain ⟨v, es, g1, g2, g3, g4, g5, g6⟩ := cw4 H.f h0 h1
 refine ⟨v, es, g1, g2, ?_, g3, g4, g5, g6⟩
 rw [List.getElem?_cons_succ, List.getElem?_append_left (List.getElem?_eq_some_iff.1 g2).1]
 exact g2
theorem OR.setF {h : Heap} {rs : List (List (BitVec 32))} {b : PV} {ef : List PV} {I R : List Ent} (H : OR h rs b ef I R) {h' : Heap} {x : BitVec 32} {i : Int} {k : Nat} {v : PV} {es : List PV} (g1 : ef[i.toNat]? = some v) (g2 : I[i.toNat]? = some ⟨v, 89, 1, es⟩) (g3 : All2 dn.R (ix rs i) es) (g4 : isL v = true) (g5 : (ix rs i).length ≤ 4611686018427387904)
  (M : Mem h' ((⟨b, 43, 1, ef⟩ :: (I ++ R)).set (i.toNat + 1) ⟨v, 89, 1, es.set k (bh x)⟩)) (hw : ∃ id ver n, v = .os id ver 0 n) : OR h' (rs.set i.toNat ((ix rs i).set k x)) b ef (I.set i.toNat ⟨v, 89, 1, es.set k (bh x)⟩) R := by
 refine { H with M := ?_, f := am4 H.f g1 (All2.set g3 rfl) g4 (by rw [List.length_set]; exact g5) (.inr hw) }
 rw [List.set_cons_succ] at M
 rwa [List.set_append_left _ _ (List.getElem?_eq_some_iff.1 g2).1] at M
theorem aw0 {S : List Fr} {E : TEnv} {h : Heap} {rs : List (List (BitVec 32))} {b : PV} {ef : List PV} {I R : List Ent} {d t r : Nat} (H : OR h rs b ef I R) (hE : RB rs) (hb : Pb.look t E = some b) : RC Tryz.prog (.seq (.region false [⟨some d, .move (.tmp t), none, false⟩, ⟨some r, .move (.tmp d), none, false⟩]) .ret) S (QR Tryz.prog [(r, none)] ((tSl (tSl dn)).R rs)) E h := by
 obtain ⟨d', hd, hr⟩ := H.deep hE
 have e1 : evE ((d, b) :: E) (.tmp d) = some b := by simp [evE, Pb.look]
 exact sR (ae (av hb) (ae (av e1) (nS (fu (.tmp (by simp [Pb.look]) .nil) hd hr))))
theorem bx6 {p : ab} {rs : List (List (BitVec 32))} {r : Int} {i : BitVec 32} (h : gf { p := p, cells := rs } r i = true) : (0 ≤ r ∧ r < p.Registers.length) ∧ r < rs.length ∧ i.toNat < (ix rs r).length := by
 unfold gf at h
 split at h
 ·cases h
 ·rename_i hc
  simp only [Bool.or_eq_true, decide_eq_true_eq, not_or] at hc
  simp only [Bool.and_eq_true, decide_eq_true_eq] at h
  omega
theorem ci0 {x0 : ab} {x1 : List (List (BitVec 32))} {x2 : Int} {x3 x4 : BitVec 32} {v0 v1 : PV} (r0 : ab.t.R x0 v0) (r1 : (tSl (tSl dn)).R x1 v1) (hE : RB x1) : ∃ r, FnR Tryz.prog 193 [v0, v1, vi x2, bh x3, bh x4] r ∧ (tSl (tSl dn)).R (gn x0 x1 x2 x3 x4) r := by
 refine fnE bc2 (by simp) ?_
 refine am (ay (ae (dm rfl (TR.cnt ab.t r0)) (ae (v := nilS) (av rfl) (br (aq (am (fq ?_)))))))
 refine cb (ae (av rfl) (ca ?_))
 obtain ⟨b, k, X, ef, I, H⟩ := bh3 bn3 r1 hE (Mem.nil ⟨0, []⟩)
 refine im rfl rfl X ?_
 refine cb (ae (av rfl) (ca (kj ?_)))
 refine aq (am (ay (ae (av rfl) (br (aq (am (am (ay ?_))))))))
 have a0 := r0
 obtain ⟨c1, c2, c3, c4, c5, c6, c7, c8, e0, p1, p2, p3, p4, p5, p6, p7, p8⟩ := a0
 have hfile : dp.t.R ({ p := x0, cells := x1 } : dp) (.agg [vs x0.Name, c1, c2, c3, c4, c5, c6, c7, c8, v1]) := ⟨c1, c2, c3, c4, c5, c6, c7, c8, v1, rfl, p1, p2, p3, p4, p5, p6, p7, p8, r1⟩
 refine ae (av rfl) (lD r0 rfl rfl rfl (ae (av rfl) ?_))
 refine ae (v := .agg [vs x0.Name, c1, c2, c3, c4, c5, c6, c7, c8, v1]) (fk (cs := [vs x0.Name, c1, c2, c3, c4, c5, c6, c7, c8, v1]) rfl (by rw [e0]; simp only [buildV, ou (TR.cnt _ r1) (TR.agg _ r1)]; rfl)) ?_
 refine mV rfl (mV rfl ?_)
 refine cL (be8 (x1 := x2) (x2 := x3) hfile) rfl rfl (ai (TR.clo _ hfile) (ai rfl (ai rfl bf))) (mV rfl ?_)
 refine cq 9 (d := 31) (v := vb (gf { p := x0, cells := x1 } x2 x3 && decide (0#32 < ck (ix x0.Registers x2).Width))) ?_ ?_
 ·intro S Q r
  cases hb : gf { p := x0, cells := x1 } x2 x3
  ·exact gN 8 rfl rfl rfl rfl rfl rfl
  ·intro k
   have hh := bx6 hb
   obtain ⟨w3, g3, q3⟩ := ab.g_Registers r0
   refine ah rfl rfl (bw rfl g3) (ah rfl rfl (bv rfl (TR.cnt _ q3) (TR.agg _ q3)) (ah rfl rfl (av rfl) ?_))
   obtain ⟨w4, g4, q4⟩ := dq (i := x2) q3 hh.1.1 hh.1.2
   refine ah rfl rfl (bg rfl rfl g4) (ah rfl rfl (bw rfl (cm.g_Width q4)) (ah rfl rfl (bv rfl rfl rfl) ?_))
   refine ld rfl rfl (ru rfl rfl (ai rfl bf) (ky (x0 := (ix x0.Registers x2).Width))) (ah rfl rfl (bq (a := bh (ck (ix x0.Registers x2).Width)) (b := bh 0#32) rfl rfl do4) ?_)
   exact gK rfl rfl rfl rfl rfl k
 refine br (aq (cd rfl (fun hc => ?_) fun hc => ?_))
 ·have hs : gn x0 x1 x2 x3 x4 = x1.set x2.toNat ((ix x1 x2).set x3.toNat (x4 &&& ck (ix x0.Registers x2).Width)) := by unfold gn; rw [if_pos hc]
  rw [hs]
  simp only [Bool.and_eq_true] at hc
  have hh := bx6 hc.1
  obtain ⟨id, ver, n, rfl⟩ := H.wb
  have hn := qn H.M (k := 0) rfl
  have hlen := H.f.len.1
  obtain ⟨v, es, e1, e2, e3, e4, e5, e6, e7⟩ := H.inner hh.1.1 hh.2.1
  refine ay (ae (av rfl) (mV rfl ?_))
  refine ae (bg rfl rfl (qe 1 (i := x2) hh.1.1 (by omega))) ?_
  refine ae (oc (k := 0) H.M rfl rfl e1 (ft H.M e3 e5).2) (mV rfl (mV rfl ?_))
  obtain ⟨w3, g3, q3⟩ := ab.g_Registers r0
  refine ae (bw rfl g3) (lD q3 rfl rfl rfl (mV rfl ?_))
  obtain ⟨w4, g4, q4⟩ := dq (i := x2) q3 hh.1.1 hh.1.2
  refine ae (bg rfl rfl g4) (fL rfl (cm.g_Width q4) rfl rfl ?_)
  refine cL (ky (x0 := (ix x0.Registers x2).Width)) rfl rfl (ai rfl bf) (bN qd rfl rfl ?_)
  obtain ⟨id', ver', n', rfl⟩ := xy e7 e4 (i := (x3.toNat : Int)) (by omega) (by omega)
  have hn' := qn H.M e3
  have hl := e4.length
  refine ae (bg rfl rfl (qe 1 (i := (x3.toNat : Int)) (by omega) (by omega))) ?_
  refine ug (i := x3.toNat) H.M rfl rfl e3 (by omega) rfl (fun h' M' => br (aq ?_))
  exact aw0 (H.setF e1 e2 e4 e5 e6 M' ⟨_, _, _, rfl⟩) (hE.set (by rw [List.length_set]; exact hE.i _ (aq2 hh.1.1 hh.2.1))) rfl
 ·have hs : gn x0 x1 x2 x3 x4 = x1 := by unfold gn; rw [if_neg (by rw [hc]; simp)]
  rw [hs]
  exact az (aq (aw0 H hE rfl))

def RF122 (i0_ w0_ : Nat) (R_ : List Ent) (res : aw) (r : PV) (h : Heap) : Prop := ∃ uF0 : PV, Mem h (⟨.op i0_ w0_ 0, 171, 16, [uF0]⟩ :: R_) ∧ (aw.t.R res uF0) ∧ r = .tup []
theorem cg2 {x0 : aw} {x1 : ak} {v1 g0 : PV} {R_ : List Ent} {h_ : Heap} {d4 d3 : Nat} (r1 : ak.t.R x1 v1) (b4 : aw.t.R x0 g0) (M_ : Mem h_ (⟨.op d4 d3 0, 171, 16, [g0]⟩ :: R_)) (hE : RB x0.regs) : ∃ r g1, FnX Tryz.prog 122 [.op d4 d3 0, v1] h_ r g1 ∧ RF122 d4 d3 R_ (kn x0 x1) r g1 := by
 refine fnXX (R := RF122 d4 d3 R_) bm0 rfl fun res s => ?_
 unfold kn at s
 refine sR (ae (dm rfl (TR.cnt ak.t r1)) (nS (ay (mV rfl (mV rfl (ae (cx rfl rfl) (ae (bz rfl) (ae (bz rfl) ?_))))))))
 obtain ⟨g5, e8, f0⟩ := aw.g_scope b4
 obtain ⟨g4, f5, e3⟩ := bc.g_Program f0
 refine ae (dj (k := 0) M_ rfl rfl (nl e8 f5)) (mV rfl (ae (cx rfl rfl) (ae (bz rfl) ?_)))
 obtain ⟨g3, f9, d5⟩ := aw.g_regs b4
 refine ae (dj (k := 0) M_ rfl rfl f9) (fL rfl (ak.g_Register r1) rfl rfl (mV rfl (gL (ak.g_Index r1) rfl rfl rfl fun g2 e6 => ?_)))
 have f6 := ae0 (P := Tryz.prog) (k := 0) M_ rfl (TR.clo aw.t b4)
 obtain ⟨f8, e2, s⟩ := bt s
 have d9 := ad6  b4 e6 
 rw [e2] at d9
 refine st (sm rfl rfl (lz f6 (lz (cp (TR.clo (tSl af.t) e6)) ua)) d9 rfl) (mV rfl ?_)
 obtain ⟨g6, f1, d1⟩ := ak.g_Value r1
 refine fA rfl f1 (lD d1 rfl rfl rfl ?_)
 have f2 := ae0 (P := Tryz.prog) (k := 0) M_ rfl (TR.clo aw.t b4)
 obtain ⟨f4, d6, s⟩ := bt s
 have e4 := ad6  b4 d1 
 rw [d6] at e4
 refine st (sm rfl rfl (lz f2 (lz (cp (TR.clo (tSl af.t) d1)) ua)) e4 rfl) ?_
 obtain ⟨f7, d7, s⟩ := bt s
 obtain ⟨b5, e9, c6⟩ := ci0 (x2 := x1.Register) (x3 := f8) (x4 := f4) e3 d5 (by first | assumption | omega | (rw [ee (by omega) (by omega)]; omega) | (have hk := rval rfl (And.right (And.left (by assumption))); omega) | (have hk := rval (by assumption) (by assumption); omega) | (have hk := rval (by assumption) (And.left (by assumption)); omega) | (have hk := rval (by assumption) (And.left (And.left (by assumption))); have hz := rslc (by assumption); omega) | (simp; done) | (simp only [List.length_append, List.length_nil, List.length_cons]; omega) | (have hk := (dx (by assumption) (by assumption)).1; omega) | (simp only [List.length_cons, List.length_nil]; omega) | (simp only [List.length_append]; have hk := (dx (by assumption) (by assumption)).1; omega) | (simp only [List.length_append, List.length_nil]; have hk := (dx (by assumption) (by assumption)).1; omega))
 rw [d7] at c6
 refine cL e9 rfl rfl (ai (TR.clo ab.t e3) (ai (TR.clo (tSl (tSl dn)) d5) (ai rfl (ai rfl (ai rfl bf))))) (ae (cx rfl rfl) (ae (bz rfl) ?_))
 obtain ⟨a7, b3, a6, b2, a8, a9, b0, a5, b1, a1, a4, a3, a2, a0, e1, f3, c2, c9, c5, d0, c8, c3, c1, c7, c4, b7, b9, c0, b6, b8, e5⟩ := b4
 subst f3
 refine me (k := 0) (v := b5) M_ rfl rfl rfl (ou (TR.cnt (tSl (tSl dn)) c6) (TR.agg (tSl (tSl dn)) c6)) rfl (by first | decide | (simp only [List.length_cons, List.length_nil]; omega) | simp) (fun d8 d2 => ?_)
 replace d2 : Mem d8 (⟨.op d4 d3 0, 171, 16, [.agg [vs x0.scope.Program.Name, a7, b3, a6, b2, a8, a9, b0, a5, b1, a1, a4, a3, a2, a0, b5]]⟩ :: R_) := d2
 refine br ?_
 have e7 : Mem d8 (⟨.op d4 d3 0, 171, 16, [.agg [vs x0.scope.Program.Name, a7, b3, a6, b2, a8, a9, b0, a5, b1, a1, a4, a3, a2, a0, b5]]⟩ :: R_) := (Mem.front (k := 0) d2 rfl)
 subst s
 exact yu .nil ⟨(.agg [vs x0.scope.Program.Name, a7, b3, a6, b2, a8, a9, b0, a5, b1, a1, a4, a3, a2, a0, b5]), Mem.sub e7 (.cons_cons _ (List.Sublist.refl R_)), (show aw.t.R ({ scope := x0.scope, args := x0.args, env := x0.env, regs := f7 } : aw) (.agg [vs x0.scope.Program.Name, a7, b3, a6, b2, a8, a9, b0, a5, b1, a1, a4, a3, a2, a0, b5]) from ⟨a7, b3, a6, b2, a8, a9, b0, a5, b1, a1, a4, a3, a2, a0, b5, rfl, c2, c9, c5, d0, c8, c3, c1, c7, c4, b7, b9, c0, b6, b8, c6⟩), rfl⟩

def RF44 (res : au × (List (List (BitVec 32)))) (r : PV) : Prop := ∃ c0, ∃ c1, r = .tup [c0, c1] ∧ au.t.R res.1 c0 ∧ (tSl (tSl dn)).R res.2 c1
theorem ur {S : List Fr} {res : au × (List (List (BitVec 32)))} {x0 : ab} {x1 : bn} {x2 : au} {x3 : List (List (BitVec 32))} {g3 : au} {g5 : (List (List (BitVec 32)))} {e4 : Int × Int} {e5 : PV} {a8 a7 a9 a6 : Nat} (hE : EB x2) (hR : RB x3) (i0 : vx x2 = g3) (h8 : pb x3 = g5) (h3 : gw x0 x1.Action = e4) (d8 : ((!decide (e4.2 = 0)) || (!decide ((fy x0 x1) = 0))) = false) (b1 : (tSl ak.t).R ((ix x0.Actions x1.Action).Body) e5) {K0 : aw → (au × (List (List (BitVec 32))))}
  (i7 : ∀ {a2 : aw} {a1 : PV} (a3 : aw.t.R a2 a1) {h : Heap} (M0 : Mem h [⟨.op a9 a6 0, 171, 16, [a1]⟩, ⟨.op a8 a7 0, 46, 4, [.agg [nilS, nilS, nilS, nilS]]⟩]), K0 a2 = res → PX Tryz.prog 0 S (QR Tryz.prog [(8, some (4, true)), (9, none)] (RF44 res)) [(8, .op a8 a7 0), (10, .op a9 a6 0)] h) :
  ∀ {m : Nat} {a0 : Int} {a2 : aw} {a1 : PV} (a3 : aw.t.R a2 a1) (h1 : m = Int.toNat ((((ix x0.Actions x1.Action).Body).length : Int) - a0)) (d7 : 0 ≤ a0) (c9 : SB a2) {h : Heap} (M0 : Mem h [⟨.op a9 a6 0, 171, 16, [a1]⟩, ⟨.op a8 a7 0, 46, 4, [.agg [nilS, nilS, nilS, nilS]]⟩]), gj x0 x1 K0 m a0 a2 = res → RC Tryz.prog (.loop cu2) S (QR Tryz.prog [(8, some (4, true)), (9, none)] (RF44 res)) [(67, vi a0), (66, vi (((ix x0.Actions x1.Action).Body).length : Int)), (65, e5), (10, .op a9 a6 0), (8, .op a8 a7 0)] h := by
 have d6 := d8
 try simp only [qa] at d6
 intro m
 induction m with
 | zero =>
  intro a0 a2 a1 a3 h1 d7 c9 h M0 s
  rw [gj] at s
  refine co (sR (bN cw rfl rfl (nS (am ?_))))
  refine cd rfl ?_ ?_ <;> intro c <;> try simp only [qa] at c
  ·omega
  refine fj (gg (dw ?_))
  exact wP (i7 a3 (Mem.sub M0 (.cons_cons _ (.cons_cons _ .slnil))) s) rfl
 | succ m ih =>
  intro a0 a2 a1 a3 h1 d7 c9 h M0 s
  rw [gj] at s
  refine co (sR (bN cw rfl rfl (nS (am ?_))))
  refine cd rfl ?_ ?_ <;> intro c <;> try simp only [qa] at c
  rotate_left
  ·omega
  refine az (aq (am (bm (sR ?_))))
  obtain ⟨b0, g2, a4⟩ := dq (i := a0) b1 (by first | omega | (have hk := an8 (by assumption) (And.left (by assumption : _ ∧ fy x0 x1 = 0)); omega)) (by first | omega | (have hk := an8 (by assumption) (And.left (by assumption : _ ∧ fy x0 x1 = 0)); omega))
  refine ae (bg rfl rfl g2) (lD a4 rfl rfl rfl ?_)
  refine ej (x := .agg [vi 0, vi 0, vi 0, vi 0, vi 0, nilS, nilS]) M0 rfl rfl (fun b2 b4 i6 g8 => ?_)
  refine ct (k := 0) (v := b0) g8 rfl rfl rfl (TR.cnt ak.t a4) (fun b3 a5 => ?_)
  replace a5 : Mem b3 [⟨.op b2 b4 0, 135, 7, [b0]⟩, ⟨.op a9 a6 0, 171, 16, [a1]⟩, ⟨.op a8 a7 0, 46, 4, [.agg [nilS, nilS, nilS, nilS]]⟩] := a5
  refine nR (mV rfl (nS (am (sR (ae (bz rfl) (ae (dj (k := 0) a5 rfl rfl (ak.g_Kind a4)) (nS (bm ?_))))))))
  refine sR (bN fi rfl rfl (mV rfl (nS ?_)))
  refine cg s rfl ?_ ?_ <;> clear s <;> intro c s <;> try simp only [qa] at c
  ·refine ay (mV rfl (br (de (aq (fq (cb (mV rfl (ca ?_))))))))
   refine cb (mV rfl (ca (cb (ae (ir (k := 0) a5 rfl rfl (TR.agg ak.t a4)) (ca ?_)))))
   have f8 : Mem b3 [⟨.op a9 a6 0, 171, 16, [a1]⟩, ⟨.op b2 b4 0, 135, 7, [b0]⟩, ⟨.op a8 a7 0, 46, 4, [.agg [nilS, nilS, nilS, nilS]]⟩] := (Mem.front (k := 1) a5 rfl)
   obtain ⟨f4, d5, s⟩ := bt s
   obtain ⟨i2, j0, d9, c7⟩ := cs5 (x0 := a2) (x1 := (ix ((ix x0.Actions x1.Action).Body) a0)) a4 a3 f8 (by exact And.left (by assumption : SB _))
   rw [d5] at c7
   obtain ⟨g6, h0, c2, b5⟩ := c7
   replace b5 := b5.symm; subst b5
   refine im rfl rfl d9 ?_
   have i4 : SB f4 := sb2 (by assumption) d5
   refine kj (de (aq (ay (bN gv rfl rfl (mV rfl (br (di ?_)))))))
   have hbd := en b1
   have hinc : wr (a0 + 1) = a0 + 1 := ee (by omega) (by omega)
   erw [hinc]
   exact wC (ih  c2 (by omega) (by omega) (by assumption) (Mem.sub h0 (.cons_cons _ (.cons _ (.cons_cons _ .slnil)))) s) rfl
  ·refine sR (bN fi rfl rfl (mV rfl (nS ?_)))
   refine cg s rfl ?_ ?_ <;> clear s <;> intro c s <;> try simp only [qa] at c
   ·refine ay (mV rfl (br (de (aq (fq (cb (mV rfl (ca ?_))))))))
    refine cb (mV rfl (ca (cb (ae (ir (k := 0) a5 rfl rfl (TR.agg ak.t a4)) (ca ?_)))))
    have f6 : Mem b3 [⟨.op a9 a6 0, 171, 16, [a1]⟩, ⟨.op b2 b4 0, 135, 7, [b0]⟩, ⟨.op a8 a7 0, 46, 4, [.agg [nilS, nilS, nilS, nilS]]⟩] := (Mem.front (k := 1) a5 rfl)
    obtain ⟨e8, d2, s⟩ := bt s
    obtain ⟨h2, i5, e1, d0⟩ := cl6 (x0 := a2) (x1 := (ix ((ix x0.Actions x1.Action).Body) a0)) a4 a3 f6 (by exact And.left (by assumption : SB _))
    rw [d2] at d0
    obtain ⟨f0, f9, c0, b8⟩ := d0
    replace b8 := b8.symm; subst b8
    refine im rfl rfl e1 ?_
    have h6 : SB e8 := sb3 (by assumption) d2
    refine kj (de (aq (ay (bN gv rfl rfl (mV rfl (br (di ?_)))))))
    have hbd := en b1
    have hinc : wr (a0 + 1) = a0 + 1 := ee (by omega) (by omega)
    erw [hinc]
    exact wC (ih  c0 (by omega) (by omega) (by assumption) (Mem.sub f9 (.cons_cons _ (.cons _ (.cons_cons _ .slnil)))) s) rfl
   ·refine sR (bN fi rfl rfl (mV rfl (nS ?_)))
    refine cg s rfl ?_ ?_ <;> clear s <;> intro c s <;> try simp only [qa] at c
    ·refine ay (mV rfl (br (de (aq (fq (cb (mV rfl (ca ?_))))))))
     refine cb (mV rfl (ca (cb (ae (ir (k := 0) a5 rfl rfl (TR.agg ak.t a4)) (ca ?_)))))
     have g9 : Mem b3 [⟨.op a9 a6 0, 171, 16, [a1]⟩, ⟨.op b2 b4 0, 135, 7, [b0]⟩, ⟨.op a8 a7 0, 46, 4, [.agg [nilS, nilS, nilS, nilS]]⟩] := (Mem.front (k := 1) a5 rfl)
     obtain ⟨f7, d1, s⟩ := bt s
     obtain ⟨h9, i9, e2, c6⟩ := cl2 (x0 := a2) (x1 := (ix ((ix x0.Actions x1.Action).Body) a0)) a4 a3 g9 (by exact And.left (by assumption : SB _))
     rw [d1] at c6
     obtain ⟨f1, f2, c3, b9⟩ := c6
     replace b9 := b9.symm; subst b9
     refine im rfl rfl e2 ?_
     have i3 : SB f7 := sb4 (by assumption) d1
     refine kj (de (aq (ay (bN gv rfl rfl (mV rfl (br (di ?_)))))))
     have hbd := en b1
     have hinc : wr (a0 + 1) = a0 + 1 := ee (by omega) (by omega)
     erw [hinc]
     exact wC (ih  c3 (by omega) (by omega) (by assumption) (Mem.sub f2 (.cons_cons _ (.cons _ (.cons_cons _ .slnil)))) s) rfl
    ·refine sR (bN fi rfl rfl (mV rfl (nS ?_)))
     refine cg s rfl ?_ ?_ <;> clear s <;> intro c s <;> try simp only [qa] at c
     ·refine ay (mV rfl (br (de (aq (fq (cb (mV rfl (ca ?_))))))))
      refine cb (mV rfl (ca (cb (ae (ir (k := 0) a5 rfl rfl (TR.agg ak.t a4)) (ca ?_)))))
      have g4 : Mem b3 [⟨.op a9 a6 0, 171, 16, [a1]⟩, ⟨.op b2 b4 0, 135, 7, [b0]⟩, ⟨.op a8 a7 0, 46, 4, [.agg [nilS, nilS, nilS, nilS]]⟩] := (Mem.front (k := 1) a5 rfl)
      obtain ⟨g0, d4, s⟩ := bt s
      obtain ⟨h7, j1, e6, c5⟩ := cg2 (x0 := a2) (x1 := (ix ((ix x0.Actions x1.Action).Body) a0)) a4 a3 g4 (by exact And.right (by assumption : SB _))
      rw [d4] at c5
      obtain ⟨e9, e7, c4, b6⟩ := c5
      replace b6 := b6.symm; subst b6
      refine im rfl rfl e6 ?_
      have i1 : SB g0 := sb5 (by assumption) d4
      refine kj (de (aq (ay (bN gv rfl rfl (mV rfl (br (di ?_)))))))
      have hbd := en b1
      have hinc : wr (a0 + 1) = a0 + 1 := ee (by omega) (by omega)
      erw [hinc]
      exact wC (ih  c4 (by omega) (by omega) (by assumption) (Mem.sub e7 (.cons_cons _ (.cons _ (.cons_cons _ .slnil)))) s) rfl
     ·refine az (de (aq (fq (cb (mV rfl (ca (cb (mV rfl ?_))))))))
      refine ca (cb (ae (ir (k := 0) a5 rfl rfl (TR.agg ak.t a4)) (ca ?_)))
      have g7 : Mem b3 [⟨.op a9 a6 0, 171, 16, [a1]⟩, ⟨.op b2 b4 0, 135, 7, [b0]⟩, ⟨.op a8 a7 0, 46, 4, [.agg [nilS, nilS, nilS, nilS]]⟩] := (Mem.front (k := 1) a5 rfl)
      obtain ⟨f5, c8, s⟩ := bt s
      obtain ⟨h5, i8, e3, d3⟩ := cu5 (x0 := a2) (x1 := (ix ((ix x0.Actions x1.Action).Body) a0)) a4 a3 g7 (by exact And.left (by assumption : SB _))
      rw [c8] at d3
      obtain ⟨f3, g1, c1, b7⟩ := d3
      replace b7 := b7.symm; subst b7
      refine im rfl rfl e3 ?_
      have h4 : SB f5 := sb1 (by assumption) c8
      refine kj (de (aq (ay (bN gv rfl rfl (mV rfl (br (di ?_)))))))
      have hbd := en b1
      have hinc : wr (a0 + 1) = a0 + 1 := ee (by omega) (by omega)
      erw [hinc]
      exact wC (ih  c1 (by omega) (by omega) (by assumption) (Mem.sub g1 (.cons_cons _ (.cons _ (.cons_cons _ .slnil)))) s) rfl

theorem da2 {x0 : ab} {x1 : bn} {x2 : au} {x3 : List (List (BitVec 32))} {v0 v1 v2 v3 : PV} (r0 : ab.t.R x0 v0) (r1 : bn.t.R x1 v1) (r2 : au.t.R x2 v2) (r3 : (tSl (tSl dn)).R x3 v3) (hE : EB x2) (hR : RB x3) : ∃ c0, ∃ c1, FnR Tryz.prog 44 [v0, v1, v2, v3] (.tup [c0, c1]) ∧ au.t.R (dt x0 x1 x2 x3).1 c0 ∧ (tSl (tSl dn)).R (dt x0 x1 x2 x3).2 c1 := by
 obtain ⟨res, s⟩ : ∃ res, dt x0 x1 x2 x3 = res := ⟨_, rfl⟩
 suffices H : RC Tryz.prog dh6 [] (QR Tryz.prog [(8, some (4, true)), (9, none)] (RF44 res)) (argE 0 [v0, v1, v2, v3]) ⟨0, []⟩ by
  rw [s]
  obtain ⟨r, h1, c0, c1, rfl, j4, j0⟩ := fnE cc7 (by simp) H
  exact ⟨c0, c1, h1, j4, j0⟩
 unfold dt at s
 refine sR (ae (dm rfl (TR.cnt ab.t r0)) (ae (dm rfl (TR.cnt bn.t r1)) (ae (dm rfl (TR.cnt au.t r2)) ?_)))
 refine ej (x := .agg [nilS, nilS, nilS, nilS]) (Mem.nil ⟨0, []⟩) rfl rfl (fun b8 b4 j1 h8 => ?_)
 refine ae (v := nilS) (av rfl) (nR (lD r2 rfl rfl rfl ?_))
 obtain ⟨g5, e4, s⟩ := bt s
 obtain ⟨i9, g9, g6⟩ := co6  r2 (by first | assumption | omega | (rw [ee (by omega) (by omega)]; omega) | (have hk := rval rfl (And.right (And.left (by assumption))); omega) | (have hk := rval (by assumption) (by assumption); omega) | (have hk := rval (by assumption) (And.left (by assumption)); omega) | (have hk := rval (by assumption) (And.left (And.left (by assumption))); have hz := rslc (by assumption); omega) | (simp; done) | (simp only [List.length_append, List.length_nil, List.length_cons]; omega) | (have hk := (dx (by assumption) (by assumption)).1; omega) | (simp only [List.length_cons, List.length_nil]; omega) | (simp only [List.length_append]; have hk := (dx (by assumption) (by assumption)).1; omega) | (simp only [List.length_append, List.length_nil]; have hk := (dx (by assumption) (by assumption)).1; omega))
 rw [e4] at g6
 refine cL g9 rfl rfl (ai (TR.clo au.t r2) bf) (mV rfl ?_)
 obtain ⟨i8, e3, s⟩ := bt s
 obtain ⟨b3, h7, c3⟩ := cm8  r3 (by first | assumption | omega | (rw [ee (by omega) (by omega)]; omega) | (have hk := rval rfl (And.right (And.left (by assumption))); omega) | (have hk := rval (by assumption) (by assumption); omega) | (have hk := rval (by assumption) (And.left (by assumption)); omega) | (have hk := rval (by assumption) (And.left (And.left (by assumption))); have hz := rslc (by assumption); omega) | (simp; done) | (simp only [List.length_append, List.length_nil, List.length_cons]; omega) | (have hk := (dx (by assumption) (by assumption)).1; omega) | (simp only [List.length_cons, List.length_nil]; omega) | (simp only [List.length_append]; have hk := (dx (by assumption) (by assumption)).1; omega) | (simp only [List.length_append, List.length_nil]; have hk := (dx (by assumption) (by assumption)).1; omega))
 rw [e3] at c3
 refine cL h7 rfl rfl (ai (TR.clo (tSl (tSl dn)) r3) bf) ?_
 obtain ⟨a2, a1, a0, a3, h9, b5, b7, b9, b6⟩ := g6
 subst h9
 refine ae (v := .agg [vs [], nilS, nilS, nilS, nilS, nilS, nilS, nilS, nilS, nilS, nilS, a2, a1, a0, a3, b3]) (fk (cs := [vs [], nilS, nilS, nilS, nilS, nilS, nilS, nilS, nilS, nilS, nilS, a2, a1, a0, a3, b3]) rfl (by simp only [buildV, ou (TR.cnt (tSl (tSl dn)) c3) (TR.agg (tSl (tSl dn)) c3)]; rfl)) ?_
 refine cm1 (x := .agg [vs [], nilS, nilS, nilS, nilS, nilS, nilS, nilS, nilS, nilS, nilS, a2, a1, a0, a3, b3]) h8 rfl rfl (fun f6 e7 j3 g0 => ?_)
 refine mV rfl (nS (am (sR (lD r0 rfl rfl rfl (fL rfl (bn.g_Action r1) rfl rfl ?_)))))
 obtain ⟨b2, e1, s⟩ := bt s
 have g1 := bw4 (x1 := x1.Action) r0 
 rw [e1] at g1
 refine cL g1 rfl rfl (ai (TR.clo ab.t r0) (ai rfl bf)) (mV rfl (xT rfl rfl (xT rfl rfl (mV rfl (mV rfl (nR (mV rfl (bN mi rfl rfl ?_))))))))
 refine mV rfl ?_
 refine cq 5 (d := 37) (v := vb ((!decide (b2.2 = 0)) || (!decide ((fy x0 x1) = 0)))) ?_ ?_
 ·intro S Q r
  cases g4 : (!decide (b2.2 = 0))
  ·intro k
   have e6 := g4
   try simp only [qa] at e6
   refine ah rfl rfl (bv rfl (TR.cnt ab.t r0) (TR.agg ab.t r0)) (ah rfl rfl (bv rfl (TR.cnt bn.t r1) (TR.agg bn.t r1)) ?_)
   have h0 := dg4  r0 r1 
   refine ld rfl rfl (ru rfl rfl (ai (TR.clo ab.t r0) (ai (TR.clo bn.t r1) bf)) h0) (ah rfl rfl (bq rfl rfl mi) ?_)
   exact gK rfl rfl rfl rfl rfl k
  ·exact gN 4 rfl rfl rfl rfl rfl rfl
 refine nS ?_
 refine cg s rfl ?_ ?_ <;> clear s <;> intro e2 s <;> have e5 := e2 <;> try simp only [qa] at e5
 ·refine am ?_
  refine ai4 (k := 0) (E' := [(37, vb ((!decide (b2.2 = 0)) || (!decide ((fy x0 x1) = 0)))), (32, vb (!decide (b2.2 = 0))), (31, vb (!decide (b2.2 = 0))), (30, vi b2.2), (12, vi b2.2), (11, vi b2.1), (29, vi b2.2), (28, vi b2.1), (23, .tup [vi b2.1, vi b2.2]), (27, .tup [vi b2.1, vi b2.2]), (26, vi x1.Action), (25, .fp (vi x1.Action)), (24, v0), (10, .fp (.agg [vs [], nilS, nilS, nilS, nilS, nilS, nilS, nilS, nilS, nilS, nilS, a2, a1, a0, a3, b3])), (22, .fp (.agg [vs [], nilS, nilS, nilS, nilS, nilS, nilS, nilS, nilS, nilS, nilS, a2, a1, a0, a3, b3])), (21, .agg [vs [], nilS, nilS, nilS, nilS, nilS, nilS, nilS, nilS, nilS, nilS, a2, a1, a0, a3, b3]), (20, b3), (19, v3), (18, .agg [a2, a1, a0, a3]), (17, v2), (9, nilS), (8, .op b8 b4 0), (6, .fp v2), (5, .fp v1), (4, .fp v0), (0, v0), (1, v1), (2, v2), (3, v3)]) g0 rfl (cy rfl (cy rfl (cy rfl (cy rfl (cy rfl (cy rfl (cy rfl (cy rfl (cy rfl (cy rfl (cy rfl (cy rfl (cy rfl (ti rfl (ti rfl (cy rfl (cy rfl (cy rfl (cy rfl (cy rfl (cy rfl (cy rfl (cy rfl (cy rfl (cy rfl (cy rfl (cy rfl (cy rfl (cy rfl zb))))))))))))))))))))))))))))) (fun g7 f1 => ?_)
  replace f1 : Mem g7 [⟨.op b8 b4 0, 46, 4, [.agg [nilS, nilS, nilS, nilS]]⟩] := f1
  refine mV rfl (ae (cx rfl rfl) (fL rfl rfl rfl rfl (mV rfl (ae (cx rfl rfl) (fA rfl (mk1 (TR.agg (tSl (tSl dn)) c3)) (lD c3 rfl rfl rfl ?_))))))
  refine ct (k := 0) (v := .agg [a2, a1, a0, a3]) f1 rfl rfl rfl rfl (fun i7 f2 => ?_)
  replace f2 : Mem i7 [⟨.op b8 b4 0, 46, 4, [.agg [a2, a1, a0, a3]]⟩] := f2
  refine mV rfl (nS ?_)
  subst s
  exact fu (.cell rfl (dg (k := 0) f2 rfl rfl) (.tmp rfl .nil)) (cp (show closed (.tup _) = true from (ai (TR.clo au.t (show au.t.R g5 (.agg [a2, a1, a0, a3]) from ⟨a2, a1, a0, a3, rfl, b5, b7, b9, b6⟩)) (ai (TR.clo (tSl (tSl dn)) c3) bf)))) ⟨.agg [a2, a1, a0, a3], b3, rfl, ⟨a2, a1, a0, a3, rfl, b5, b7, b9, b6⟩, c3⟩
 ·refine az (aq (sR (gL (ab.g_Actions r0) rfl rfl rfl fun j6 h2 => (fL rfl (bn.g_Action r1) rfl rfl ?_))))
  obtain ⟨c7, i5, c6⟩ := dq (i := x1.Action) h2 (by first | omega | (have hk := an8 (by assumption) (And.left (by assumption : _ ∧ fy x0 x1 = 0)); omega)) (by first | omega | (have hk := an8 (by assumption) (And.left (by assumption : _ ∧ fy x0 x1 = 0)); omega))
  refine ae (bg rfl rfl i5) (lD c6 rfl rfl rfl ?_)
  refine ej (x := .agg [vs [], nilS, nilS]) g0 rfl rfl (fun f4 f3 j7 h6 => ?_)
  refine ct (k := 0) (v := c7) h6 rfl rfl rfl (TR.cnt bp.t c6) (fun i0 d1 => ?_)
  replace d1 : Mem i0 [⟨.op f4 f3 0, 97, 3, [c7]⟩, ⟨.op f6 e7 0, 171, 16, [.agg [vs [], nilS, nilS, nilS, nilS, nilS, nilS, nilS, nilS, nilS, nilS, a2, a1, a0, a3, b3]]⟩, ⟨.op b8 b4 0, 46, 4, [.agg [nilS, nilS, nilS, nilS]]⟩] := d1
  refine nR (mV rfl (lD r0 rfl rfl rfl (ae (bz rfl) ?_)))
  obtain ⟨c4, g8, f0⟩ := bp.g_Params c6
  refine ae (dj (k := 0) d1 rfl rfl g8) ?_
  obtain ⟨a6, a8, a4, a9, b1, b0, a7, a5, h5, d3, d8, d5, d9, c9, d0, d6, d4⟩ := r0
  subst h5
  refine ae (v := .agg [vs x0.Name, a6, a8, a4, a9, b1, b0, a7, a5, c4]) (fk (cs := [vs x0.Name, a6, a8, a4, a9, b1, b0, a7, a5, c4]) rfl (by simp only [buildV, ou (TR.cnt (tSl ax.t) f0) (TR.agg (tSl ax.t) f0)]; rfl)) (ae (cx rfl rfl) (ae (bz rfl) ?_))
  refine me (k := 1) (v := .agg [vs x0.Name, a6, a8, a4, a9, b1, b0, a7, a5, c4]) d1 rfl rfl rfl rfl rfl (by first | decide | (simp only [List.length_cons, List.length_nil]; omega) | simp) (fun i2 f7 => ?_)
  replace f7 : Mem i2 [⟨.op f4 f3 0, 97, 3, [c7]⟩, ⟨.op f6 e7 0, 171, 16, [.agg [vs x0.Name, a6, a8, a4, a9, b1, b0, a7, a5, c4, nilS, a2, a1, a0, a3, b3]]⟩, ⟨.op b8 b4 0, 46, 4, [.agg [nilS, nilS, nilS, nilS]]⟩] := f7
  refine nR (mV rfl (gL (bn.g_Args r1) rfl rfl rfl fun d2 e8 => (ae (cx rfl rfl) (ae (bz rfl) ?_))))
  refine me (k := 1) (v := d2) f7 rfl rfl rfl (ou (TR.cnt (tSl dn) e8) (TR.agg (tSl dn) e8)) rfl (by first | decide | (simp only [List.length_cons, List.length_nil]; omega) | simp) (fun h3 d7 => ?_)
  replace d7 : Mem h3 [⟨.op f4 f3 0, 97, 3, [c7]⟩, ⟨.op f6 e7 0, 171, 16, [.agg [vs x0.Name, a6, a8, a4, a9, b1, b0, a7, a5, c4, d2, a2, a1, a0, a3, b3]]⟩, ⟨.op b8 b4 0, 46, 4, [.agg [nilS, nilS, nilS, nilS]]⟩] := d7
  refine nS (am (sR (ae (bz rfl) ?_)))
  obtain ⟨j8, i3, g3⟩ := bp.g_Body c6
  refine ae (dj (k := 0) d7 rfl rfl i3) (ae (cv rfl (ci g3 Tryz.underlying95 _)) (mI rfl (nS (bm ?_))))
  have j5 : au.t.R ({ Valid := ([] : List Bool), Fields := ([] : List (List (BitVec 32))), Metd := ([] : List (BitVec 32)), Payload := ([] : List UInt8) } : au) (.agg [nilS, nilS, nilS, nilS]) := ⟨nilS, nilS, nilS, nilS, rfl, rm, rm, rm, rm⟩
  refine wC (ur hE hR e4 e3 e1 e2 g3 ?_  (show aw.t.R ({ scope := ({ Program := x0, Params := (ix x0.Actions x1.Action).Params } : bc), args := x1.Args, env := g5, regs := i8 } : aw) (.agg [vs x0.Name, a6, a8, a4, a9, b1, b0, a7, a5, c4, d2, a2, a1, a0, a3, b3]) from ⟨a6, a8, a4, a9, b1, b0, a7, a5, c4, d2, a2, a1, a0, a3, b3, rfl, d3, d8, d5, d9, c9, d0, d6, d4, f0, e8, b5, b7, b9, b6, c3⟩) rfl (by omega) (by exact sb0 hE hR (by assumption) (by assumption)) (Mem.sub d7 (.cons _ (.cons_cons _ (.cons_cons _ .slnil)))) s) rfl
  ·intro f9 c5 c2 j2 i6 s
   refine gm (aq (am ?_))
   refine ai4 (k := 0) (E' := [(8, .op b8 b4 0), (10, .fp c5)]) i6 rfl (cy rfl (ti rfl zb)) (fun i4 e9 => ?_)
   replace e9 : Mem i4 [⟨.op b8 b4 0, 46, 4, [.agg [nilS, nilS, nilS, nilS]]⟩] := e9
   refine mV rfl (ae (cx rfl rfl) (gL (aw.g_env c2) rfl rfl rfl fun f8 c8 => (mV rfl (ae (cx rfl rfl) (gL (aw.g_regs c2) rfl rfl rfl fun h4 g2 => ?_)))))
   refine ct (k := 0) (v := f8) e9 rfl rfl rfl (TR.cnt au.t c8) (fun i1 f5 => ?_)
   replace f5 : Mem i1 [⟨.op b8 b4 0, 46, 4, [f8]⟩] := f5
   refine mV rfl (nS ?_)
   subst s
   exact fu (.cell rfl (dg (k := 0) f5 rfl (TR.agg au.t c8)) (.tmp rfl .nil)) (cp (show closed (.tup _) = true from (ai (TR.clo au.t c8) (ai (TR.clo (tSl (tSl dn)) g2) bf)))) ⟨f8, h4, rfl, c8, g2⟩

def RF108 (res : (List ak)) (r : PV) : Prop := (tSl ak.t).R res r
theorem cg6 {x0 : ab} {x1 : Int} {v0 : PV} (r0 : ab.t.R x0 v0) : ∃ r, FnR Tryz.prog 108 [v0, vi x1] r ∧ (tSl ak.t).R (jm x0 x1) r := by
 refine fnT (R := RF108) bf7 rfl fun res s => ?_
 unfold jm at s
 refine sR (ae (dm rfl (TR.cnt ab.t r0)) (ae (v := nilS) (av rfl) (nS (am (sR (lD r0 rfl rfl rfl (mV rfl ?_)))))))
 obtain ⟨a7, a1, s⟩ := bt s
 have a2 := bw4 (x1 := x1) r0 
 rw [a1] at a2
 refine cL a2 rfl rfl (ai (TR.clo ab.t r0) (ai rfl bf)) (mV rfl (xT rfl rfl (xT rfl rfl (mV rfl (mV rfl (nR (mV rfl (bN mi rfl rfl ?_))))))))
 refine nS ?_
 refine cg s rfl ?_ ?_ <;> clear s <;> intro c s <;> try simp only [qa] at c
 ·refine sR (ae (v := nilS) (av rfl) (nS ?_))
  exact rR s rfl (TR.clo (tSl ak.t) rm) rm
 ·refine az (aq (sR (gL (ab.g_Actions r0) rfl rfl rfl fun a9 a3 => (mV rfl ?_))))
  obtain ⟨a6, a4, a5⟩ := dq (i := x1) a3 (by first | omega | (have hk := cx9 (by assumption) (by assumption); omega)) (by first | omega | (have hk := cx9 (by assumption) (by assumption); omega))
  refine ae (bg rfl rfl a4) (gL (bp.g_Body a5) rfl rfl rfl fun a8 a0 => (mV rfl (nS ?_)))
  exact rR s rfl (TR.clo (tSl ak.t) a0) a0

def RF206 (res : Bool) (r : PV) : Prop := r = vb res
theorem bh2 {x0 : Int} : FnR Tryz.prog 206 [vi x0] (vb (pf x0)) := by
 refine fnS (R := RF206) bd9 (fun _ h => h) rfl fun res s => ?_
 unfold pf at s
 refine sR (mB rfl (nR (mV rfl (mV rfl (bN mi rfl rfl (mV rfl (nS ?_)))))))
 exact rR s rfl rfl rfl

def RF141 (res : Int) (r : PV) : Prop := r = vi res
theorem ae2 {x0 x1 : Int} : FnR Tryz.prog 141 [vi x0, vi x1] (vi (ki x0 x1)) := by
 refine fnS (R := RF141) bj3 (fun _ h => h) rfl fun res s => ?_
 unfold ki at s
 refine sR (mI rfl (nR (mV rfl ?_)))
 obtain ⟨a5, a3, s⟩ := bt s
 have a2 := bh2 (x0 := x0)  
 rw [a3] at a2
 refine cL a2 rfl rfl (ai rfl bf) (mV rfl (nR (mV rfl ?_)))
 obtain ⟨a4, a1, s⟩ := bt s
 have a0 := bh2 (x0 := x1)  
 rw [a1] at a0
 refine cL a0 rfl rfl (ai rfl bf) (mV rfl (nS (am (sR (mV rfl (nS ?_))))))
 refine cg s rfl ?_ ?_ <;> clear s <;> intro c s <;> try simp only [qa] at c
 ·refine am (sR (mV rfl (nS ?_)))
  refine cg s rfl ?_ ?_ <;> clear s <;> intro c s <;> try simp only [qa] at c
  ·refine sR (mI rfl (nS ?_))
   exact rR s rfl rfl rfl
  ·refine az (aq (sR (mI rfl (nS ?_))))
   exact rR s rfl rfl rfl
 ·refine az (aq (am (sR (mV rfl (nS ?_)))))
  refine cg s rfl ?_ ?_ <;> clear s <;> intro c s <;> try simp only [qa] at c
  ·refine sR (mI rfl (nS ?_))
   exact rR s rfl rfl rfl
  ·refine az (aq (am (sR (mV rfl (mV rfl (bN cw rfl rfl (nS ?_)))))))
   refine cg s rfl ?_ ?_ <;> clear s <;> intro c s <;> try simp only [qa] at c
   ·refine sR (mI rfl (nS ?_))
    exact rR s rfl rfl rfl
   ·refine az (aq (am (sR (mV rfl (mV rfl (bN nj rfl rfl (nS ?_)))))))
    refine cg s rfl ?_ ?_ <;> clear s <;> intro c s <;> try simp only [qa] at c
    ·refine sR (mI rfl (nS ?_))
     exact rR s rfl rfl rfl
    ·refine az (aq (sR (mI rfl (nS ?_))))
     exact rR s rfl rfl rfl

def RF140 (res : Int) (r : PV) : Prop := r = vi res
theorem ab4 {S : List Fr} {res : Int} {x0 : List Int} {v0 : PV} (r0 : (tSl tI).R x0 v0) {K0 : Unit → Int}
  (a3 : K0 () = res → PX Tryz.prog 0 S (QR Tryz.prog [(2, none)] (RF140 res)) [(3, vi 0)] ⟨0, []⟩) :
  ∀ {m : Nat} {a0 : Int} (a2 : m = Int.toNat ((x0.length : Int) - a0)) (a1 : 0 ≤ a0), mc x0 K0 m a0 = res → RC Tryz.prog (.loop ce2) S (QR Tryz.prog [(2, none)] (RF140 res)) [(8, vi a0), (7, vi (x0.length : Int)), (6, v0), (3, vi 0)] ⟨0, []⟩ := by
 intro m
 induction m with
 | zero =>
  intro a0 a2 a1 s
  rw [mc] at s
  refine co (sR (bN cw rfl rfl (nS (am ?_))))
  refine cd rfl ?_ ?_ <;> intro c <;> try simp only [qa] at c
  ·omega
  refine fj (gg (dw ?_))
  exact wP (a3  s) rfl
 | succ m ih =>
  intro a0 a2 a1 s
  rw [mc] at s
  refine co (sR (bN cw rfl rfl (nS (am ?_))))
  refine cd rfl ?_ ?_ <;> intro c <;> try simp only [qa] at c
  rotate_left
  ·omega
  refine az (aq (am (bm (sR (ae (bg rfl rfl (slI r0 (by omega) (by omega))) (lR rfl rfl rfl (mV rfl (nR ?_))))))))
  refine mV rfl (mV rfl (bN mi rfl rfl (nS ?_)))
  refine cg s rfl ?_ ?_ <;> clear s <;> intro c s <;> try simp only [qa] at c
  ·refine sR (mV rfl (mV rfl (nS ?_)))
   exact rR s rfl rfl rfl
  ·refine az (de (aq (ay (bN gv rfl rfl (mV rfl (br (di ?_)))))))
   have hbd := en r0
   have hinc : wr (a0 + 1) = a0 + 1 := ee (by omega) (by omega)
   erw [hinc]
   exact wC (ih   (by omega) (by omega) s) rfl

theorem be0 {x0 : List Int} {v0 : PV} (r0 : (tSl tI).R x0 v0) : FnR Tryz.prog 140 [v0] (vi (qg x0)) := by
 refine fnS (R := RF140) bi0 (fun _ h => h) rfl fun res s => ?_
 unfold qg at s
 refine sR (mI rfl (nR (mI rfl (nS (am (sR (mV rfl (ae (cv rfl (ci r0 Tryz.underlying29 _)) ?_))))))))
 refine mI rfl (nS (bm ?_))
 refine wC (ab4 r0 ?_  rfl (by omega) s) rfl
 ·intro  s
  refine gm (aq (sR (mV rfl (mV rfl (nS ?_)))))
  exact rR s rfl rfl rfl

end Go.Proofs.YtmonnlkagniolaaGreat
