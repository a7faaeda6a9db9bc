/-
 The code of each function does what its plain program says.
-/
import Derived.Test.YtmonnlkagniolaaGreatL9W7
set_option linter.unusedVariables false
set_option linter.unusedSimpArgs false
set_option maxRecDepth 100000
namespace Go.Proofs.YtmonnlkagniolaaGreat
open Go Go.Pb Go.RowKit
def RF190 (res : av) (r : PV) : Prop := av.t.R res r
theorem ch2 {x0 : ae} {x1 : av} {x2 : Int} {v0 v1 : PV} (r0 : ae.t.R x0 v0) (r1 : av.t.R x1 v1) (hE : EB x1) : ∃ r, FnR Tryz.prog 190 [v0, v1, vi x2] r ∧ av.t.R (sx x0 x1 x2) r := by
 refine fnT (R := RF190) bl2 rfl fun res s => ?_
 unfold sx at s
 refine sR (ab (dq rfl (TR.cnt ae.t r0)) (ab (dq rfl (TR.cnt av.t r1)) ?_))
 refine dz (x := .agg [nilS, nilS, nilS, nilS]) (Mem.nil ⟨0, []⟩) rfl rfl (fun a8 a5 a9 a4 => ?_)
 refine nR (lD r0 rfl rfl rfl (lD r1 rfl rfl rfl (mV rfl ?_)))
 obtain ⟨b0, a3, s⟩ := bn s
 obtain ⟨a2, a6, a0⟩ := bj9 (x2 := x2) (x3 := true) (x4 := true) r0 r1 (by assumption)
 rw [a3] at a0
 refine cL a6 rfl rfl (ai (TR.clo ae.t r0) (ai (TR.clo av.t r1) (ai rfl (ai rfl (ai rfl bg))))) ?_
 refine cw (k := 0) (v := a2) a4 rfl rfl rfl (TR.cnt av.t a0) (fun a7 a1 => ?_)
 replace a1 : Mem a7 [⟨.op a8 a5 0, 46, 4, [a2]⟩] := a1
 refine nS ?_
 subst s
 exact fy (.cell rfl (dn (k := 0) a1 rfl (TR.agg av.t a0)) .nil) (cv (TR.clo av.t a0)) a0

def RF119 (i0_ w0_ : Nat) (R_ : List Ent) (res : aw) (r : PV) (h : Heap) : Prop := ∃ uF0 : PV, Mem h (⟨.op i0_ w0_ 0, 171, 16, [uF0]⟩ :: R_) ∧ (aw.t.R res uF0) ∧ r = .tup []
theorem cm6 {x0 : aw} {x1 : ak} {v1 f7 : PV} {R_ : List Ent} {h_ : Heap} {d2 d3 : Nat} (r1 : ak.t.R x1 v1) (d1 : aw.t.R x0 f7) (M_ : Mem h_ (⟨.op d2 d3 0, 171, 16, [f7]⟩ :: R_)) (hE : EB x0.env) : ∃ r f8, FnX Tryz.prog 119 [.op d2 d3 0, v1] h_ r f8 ∧ RF119 d2 d3 R_ (io x0 x1) r f8 := by
 refine fnXX (R := RF119 d2 d3 R_) bk3 rfl fun res s => ?_
 unfold io at s
 refine sR (ab (dq rfl (TR.cnt ak.t r1)) (nS (ax (mV rfl (mV rfl (ab (cx rfl rfl) (ab (bf rfl) (ab (bf rfl) ?_))))))))
 obtain ⟨f9, f0, f2⟩ := aw.g_scope d1
 obtain ⟨g2, f3, e1⟩ := bd.g_Program f2
 refine ab (cg (k := 0) M_ rfl rfl (jz f0 f3)) (mV rfl (ab (cx rfl rfl) (ab (bf rfl) ?_)))
 obtain ⟨g1, f4, d4⟩ := aw.g_env d1
 refine ab (cg (k := 0) M_ rfl rfl f4) (fL rfl (ak.g_Header r1) rfl rfl ?_)
 obtain ⟨f6, d5, s⟩ := bn s
 obtain ⟨g0, f5, d6⟩ := ch2 (x2 := x1.Header) e1 d4 (by assumption)
 rw [d5] at d6
 refine cL f5 rfl rfl (ai (TR.clo ae.t e1) (ai (TR.clo av.t d4) (ai rfl bg))) (ab (cx rfl rfl) (ab (bf rfl) ?_))
 obtain ⟨b4, b0, a6, b2, a7, a8, a9, b3, b1, a0, e7, e6, e3, d9, a1, e9, c4, c6, c7, b9, c8, c9, b8, c5, c0, b5, e8, d8, e4, d7, b6⟩ := d1
 subst e9
 obtain ⟨a5, a2, a3, a4, f1, b7, c2, c3, c1⟩ := d6
 subst f1
 refine ip (k := 0) (v := .agg [a5, a2, a3, a4]) M_ rfl rfl rfl rfl rfl (by ((simp only [List.length_cons, List.length_nil]; omega))) (fun e2 d0 => ?_)
 replace d0 : Mem e2 (⟨.op d2 d3 0, 171, 16, [.agg [vs x0.scope.Program.Name, b4, b0, a6, b2, a7, a8, a9, b3, b1, a0, a5, a2, a3, a4, a1]]⟩ :: R_) := d0
 refine bp ?_
 have e5 : Mem e2 (⟨.op d2 d3 0, 171, 16, [.agg [vs x0.scope.Program.Name, b4, b0, a6, b2, a7, a8, a9, b3, b1, a0, a5, a2, a3, a4, a1]]⟩ :: R_) := (Mem.front (k := 0) d0 rfl)
 subst s
 exact vu .nil ⟨(.agg [vs x0.scope.Program.Name, b4, b0, a6, b2, a7, a8, a9, b3, b1, a0, a5, a2, a3, a4, a1]), Mem.sub e5 (.cons_cons _ (List.Sublist.refl R_)), (show aw.t.R ({ scope := x0.scope, args := x0.args, env := f6, regs := x0.regs } : aw) (.agg [vs x0.scope.Program.Name, b4, b0, a6, b2, a7, a8, a9, b3, b1, a0, a5, a2, a3, a4, a1]) from ⟨b4, b0, a6, b2, a7, a8, a9, b3, b1, a0, a5, a2, a3, a4, a1, rfl, c4, c6, c7, b9, c8, c9, b8, c5, c0, b5, b7, c2, c3, c1, b6⟩), rfl⟩

def RF191 (res : av) (r : PV) : Prop := av.t.R res r
theorem cn8 {x0 : ae} {x1 : av} {x2 : Int} {v0 v1 : PV} (r0 : ae.t.R x0 v0) (r1 : av.t.R x1 v1) (hE : EB x1) : ∃ r, FnR Tryz.prog 191 [v0, v1, vi x2] r ∧ av.t.R (qk x0 x1 x2) r := by
 refine fnT (R := RF191) bi0 rfl fun res s => ?_
 unfold qk at s
 refine sR (ab (dq rfl (TR.cnt ae.t r0)) (ab (dq rfl (TR.cnt av.t r1)) ?_))
 refine dz (x := .agg [nilS, nilS, nilS, nilS]) (Mem.nil ⟨0, []⟩) rfl rfl (fun a8 a5 a9 a4 => ?_)
 refine nR (lD r0 rfl rfl rfl (lD r1 rfl rfl rfl (mV rfl ?_)))
 obtain ⟨b0, a3, s⟩ := bn s
 obtain ⟨a2, a6, a0⟩ := bj9 (x2 := x2) (x3 := false) (x4 := false) r0 r1 (by assumption)
 rw [a3] at a0
 refine cL a6 rfl rfl (ai (TR.clo ae.t r0) (ai (TR.clo av.t r1) (ai rfl (ai rfl (ai rfl bg))))) ?_
 refine cw (k := 0) (v := a2) a4 rfl rfl rfl (TR.cnt av.t a0) (fun a7 a1 => ?_)
 replace a1 : Mem a7 [⟨.op a8 a5 0, 46, 4, [a2]⟩] := a1
 refine nS ?_
 subst s
 exact fy (.cell rfl (dn (k := 0) a1 rfl (TR.agg av.t a0)) .nil) (cv (TR.clo av.t a0)) a0

def RF120 (i0_ w0_ : Nat) (R_ : List Ent) (res : aw) (r : PV) (h : Heap) : Prop := ∃ uF0 : PV, Mem h (⟨.op i0_ w0_ 0, 171, 16, [uF0]⟩ :: R_) ∧ (aw.t.R res uF0) ∧ r = .tup []
theorem cq7 {x0 : aw} {x1 : ak} {v1 f7 : PV} {R_ : List Ent} {h_ : Heap} {d2 d3 : Nat} (r1 : ak.t.R x1 v1) (d1 : aw.t.R x0 f7) (M_ : Mem h_ (⟨.op d2 d3 0, 171, 16, [f7]⟩ :: R_)) (hE : EB x0.env) : ∃ r f8, FnX Tryz.prog 120 [.op d2 d3 0, v1] h_ r f8 ∧ RF120 d2 d3 R_ (gn x0 x1) r f8 := by
 refine fnXX (R := RF120 d2 d3 R_) bc6 rfl fun res s => ?_
 unfold gn at s
 refine sR (ab (dq rfl (TR.cnt ak.t r1)) (nS (ax (mV rfl (mV rfl (ab (cx rfl rfl) (ab (bf rfl) (ab (bf rfl) ?_))))))))
 obtain ⟨f9, f0, f2⟩ := aw.g_scope d1
 obtain ⟨g2, f3, e1⟩ := bd.g_Program f2
 refine ab (cg (k := 0) M_ rfl rfl (jz f0 f3)) (mV rfl (ab (cx rfl rfl) (ab (bf rfl) ?_)))
 obtain ⟨g1, f4, d4⟩ := aw.g_env d1
 refine ab (cg (k := 0) M_ rfl rfl f4) (fL rfl (ak.g_Header r1) rfl rfl ?_)
 obtain ⟨f6, d5, s⟩ := bn s
 obtain ⟨g0, f5, d6⟩ := cn8 (x2 := x1.Header) e1 d4 (by assumption)
 rw [d5] at d6
 refine cL f5 rfl rfl (ai (TR.clo ae.t e1) (ai (TR.clo av.t d4) (ai rfl bg))) (ab (cx rfl rfl) (ab (bf rfl) ?_))
 obtain ⟨b4, b0, a6, b2, a7, a8, a9, b3, b1, a0, e7, e6, e3, d9, a1, e9, c4, c6, c7, b9, c8, c9, b8, c5, c0, b5, e8, d8, e4, d7, b6⟩ := d1
 subst e9
 obtain ⟨a5, a2, a3, a4, f1, b7, c2, c3, c1⟩ := d6
 subst f1
 refine ip (k := 0) (v := .agg [a5, a2, a3, a4]) M_ rfl rfl rfl rfl rfl (by ((simp only [List.length_cons, List.length_nil]; omega))) (fun e2 d0 => ?_)
 replace d0 : Mem e2 (⟨.op d2 d3 0, 171, 16, [.agg [vs x0.scope.Program.Name, b4, b0, a6, b2, a7, a8, a9, b3, b1, a0, a5, a2, a3, a4, a1]]⟩ :: R_) := d0
 refine bp ?_
 have e5 : Mem e2 (⟨.op d2 d3 0, 171, 16, [.agg [vs x0.scope.Program.Name, b4, b0, a6, b2, a7, a8, a9, b3, b1, a0, a5, a2, a3, a4, a1]]⟩ :: R_) := (Mem.front (k := 0) d0 rfl)
 subst s
 exact vu .nil ⟨(.agg [vs x0.scope.Program.Name, b4, b0, a6, b2, a7, a8, a9, b3, b1, a0, a5, a2, a3, a4, a1]), Mem.sub e5 (.cons_cons _ (List.Sublist.refl R_)), (show aw.t.R ({ scope := x0.scope, args := x0.args, env := f6, regs := x0.regs } : aw) (.agg [vs x0.scope.Program.Name, b4, b0, a6, b2, a7, a8, a9, b3, b1, a0, a5, a2, a3, a4, a1]) from ⟨b4, b0, a6, b2, a7, a8, a9, b3, b1, a0, a5, a2, a3, a4, a1, rfl, c4, c6, c7, b9, c8, c9, b8, c5, c0, b5, b7, c2, c3, c1, b6⟩), rfl⟩

def RF230 (res : Bool) (r : PV) : Prop := r = vb res
theorem bg4 {x0 : du} {x1 : Int} {x2 : BitVec 32} {v0 : PV} (r0 : du.t.R x0 v0) : FnR Tryz.prog 230 [v0, vi x1, bm x2] (vb (fc x0 x1 x2)) := by
 refine fnS (R := RF230) bl5 (fun _ h => h) rfl fun res s => ?_
 unfold fc at s
 refine sR (ab (dq rfl (TR.cnt du.t r0)) (mB rfl (nS (aq (sR (mV rfl (bN cz rfl rfl (mV rfl ?_))))))))
 refine cn 7 (d := 16) (v := vb ((decide (x1 < 0)) || (decide ((x0.p.Registers.length : Int) ≤ x1)))) ?_ ?_
 ·intro S Q r
  cases a7 : (decide (x1 < 0))
  ·intro k
   have a5 := a7
   try simp only [qa] at a5
   refine ah rfl rfl (au rfl) ?_
   obtain ⟨c8, b5, b3⟩ := du.g_p r0
   refine ah rfl rfl (cd rfl b5) ?_
   obtain ⟨c7, b6, a0⟩ := ae.g_Registers b3
   refine ah rfl rfl (cd rfl b6) (ah rfl rfl (ca rfl (TR.cnt (tSl cp.t) a0) (TR.agg (tSl cp.t) a0)) (ah rfl rfl (cy rfl (cm a0 Tryz.underlying24 _)) (ah rfl rfl (bz rfl rfl mc) ?_)))
   exact gK rfl rfl rfl rfl rfl k
  ·exact gN 6 rfl rfl rfl rfl rfl rfl
 refine mV rfl ?_
 refine cn 6 (d := 23) (v := vb (((decide (x1 < 0)) || (decide ((x0.p.Registers.length : Int) ≤ x1))) || (decide ((x0.cells.length : Int) ≤ x1)))) ?_ ?_
 ·intro S Q r
  cases a9 : ((decide (x1 < 0)) || (decide ((x0.p.Registers.length : Int) ≤ x1)))
  ·intro k
   have a3 := a9
   try simp only [qa] at a3
   refine ah rfl rfl (au rfl) ?_
   obtain ⟨c5, b1, a4⟩ := du.g_cells r0
   refine ah rfl rfl (cd rfl b1) (ah rfl rfl (ca rfl (TR.cnt (tSl (tSl dm)) a4) (TR.agg (tSl (tSl dm)) a4)) (ah rfl rfl (cy rfl (cm a4 Tryz.underlying42 _)) (ah rfl rfl (bz rfl rfl mc) ?_)))
   exact gK rfl rfl rfl rfl rfl k
  ·exact gN 5 rfl rfl rfl rfl rfl rfl
 refine nS ?_
 refine ci s rfl ?_ ?_ <;> clear s <;> intro c s <;> try simp only [qa] at c
 ·refine sR (mB rfl (nS ?_))
  exact rR s rfl rfl rfl
 ·refine bb (am (sR (mV rfl (ab (yl (a := bm x2) rfl (c_wi Tryz.underlying89 Tryz.underlying3)) ?_))))
  obtain ⟨c3, b2, c1⟩ := du.g_p r0
  refine fA rfl b2 ?_
  obtain ⟨c2, b4, a8⟩ := ae.g_Registers c1
  refine fA rfl b4 (lD a8 rfl rfl rfl (mV rfl ?_))
  obtain ⟨c9, b7, b8⟩ := dt (i := x1) a8 (by omega) (by omega)
  refine ab (bh rfl rfl b7) (fL rfl (cp.g_Size b8) rfl rfl (bN cz rfl rfl (mV rfl ?_)))
  refine cn 10 (d := 44) (v := vb ((decide ((x2.toNat : Int) < ((ix x0.p.Registers x1).Size))) && (decide ((x2.toNat : Int) < ((ix x0.cells x1).length : Int))))) ?_ ?_
  ·intro S Q r
   cases b0 : (decide ((x2.toNat : Int) < ((ix x0.p.Registers x1).Size)))
   ·exact gN 9 rfl rfl rfl rfl rfl rfl
   ·intro k
    have a6 := b0
    try simp only [qa] at a6
    refine ah rfl rfl (au rfl) (ah rfl rfl (yl (a := bm x2) rfl (c_wi Tryz.underlying89 Tryz.underlying3)) ?_)
    obtain ⟨c4, c0, a1⟩ := du.g_cells r0
    refine ah rfl rfl (cd rfl c0) (ah rfl rfl (ca rfl (TR.cnt (tSl (tSl dm)) a1) (TR.agg (tSl (tSl dm)) a1)) (ah rfl rfl (au rfl) ?_))
    obtain ⟨c6, b9, a2⟩ := dt (i := x1) a1 (by omega) (by omega)
    refine ah rfl rfl (bh rfl rfl b9) (ah rfl rfl (ca rfl (TR.cnt (tSl dm) a2) (TR.agg (tSl dm) a2)) (ah rfl rfl (cy rfl (cm a2 Tryz.underlying43 _)) (ah rfl rfl (bz rfl rfl cz) ?_)))
    exact gK rfl rfl rfl rfl rfl k
  refine mV rfl (nS ?_)
  exact rR s rfl rfl rfl

def RF192 (res : (BitVec 32)) (r : PV) : Prop := r = bm res
theorem cj4 {x0 : ae} {x1 : List (List (BitVec 32))} {x2 : Int} {x3 : BitVec 32} {v0 v1 : PV} (r0 : ae.t.R x0 v0) (r1 : (tSl (tSl dm)).R x1 v1) : FnR Tryz.prog 192 [v0, v1, vi x2, bm x3] (bm (mh x0 x1 x2 x3)) := by
 refine fnS (R := RF192) bd3 (fun _ h => h) rfl fun res s => ?_
 unfold mh at s
 refine sR (ab (dq rfl (TR.cnt ae.t r0)) (ab (v := bm 0#32) (au rfl) (nR (mV rfl (nS (aq (sR (mV rfl ?_))))))))
 refine lD r0 rfl rfl rfl (mV rfl ?_)
 obtain ⟨a3, a7, a4, a6, a0, a1, a5, a2, c0, b4, b5, b0, b3, b1, b2, a8, a9⟩ := r0
 subst c0
 refine ab (v := .agg [vs x0.Name, a3, a7, a4, a6, a0, a1, a5, a2, v1]) (fu (cs := [vs x0.Name, a3, a7, a4, a6, a0, a1, a5, a2, v1]) rfl (by simp only [buildV, my (TR.cnt (tSl (tSl dm)) r1) (TR.agg (tSl (tSl dm)) r1)]; rfl)) (mV rfl (mV rfl ?_))
 obtain ⟨c2, b6, s⟩ := bn s
 have b8 := bg4 (x1 := x2) (x2 := x3) (show du.t.R ({ p := x0, cells := x1 } : du) (.agg [vs x0.Name, a3, a7, a4, a6, a0, a1, a5, a2, v1]) from ⟨a3, a7, a4, a6, a0, a1, a5, a2, v1, rfl, b4, b5, b0, b3, b1, b2, a8, a9, r1⟩) 
 rw [b6] at b8
 refine cL b8 rfl rfl (ai (TR.clo du.t (show du.t.R ({ p := x0, cells := x1 } : du) (.agg [vs x0.Name, a3, a7, a4, a6, a0, a1, a5, a2, v1]) from ⟨a3, a7, a4, a6, a0, a1, a5, a2, v1, rfl, b4, b5, b0, b3, b1, b2, a8, a9, r1⟩)) (ai rfl (ai rfl bg))) (ab (ks rfl) (nS ?_))
 refine ci s rfl ?_ ?_ <;> clear s <;> intro c s <;> try simp only [qa] at c
 ·refine sR (ab (v := bm 0#32) (au rfl) (nS ?_))
  exact rR s rfl rfl rfl
 ·refine bb (am (sR (mV rfl (mV rfl ?_))))
  obtain ⟨c1, b9, b7⟩ := dt (i := x2) r1 (by ((have hk := ak4 (by assumption) (by assumption); try dsimp only at hk; omega))) (by ((have hk := ak4 (by assumption) (by assumption); try dsimp only at hk; omega)))
  refine ab (bh rfl rfl b9) (lD b7 rfl rfl rfl (mV rfl (ab (bh rfl rfl (dn2 (uf b7 (by omega) (by ((have hk := ak4 (by assumption) (by assumption); try dsimp only at hk; omega)))))) (lR rfl rfl rfl (mV rfl (nS ?_))))))
  exact rR s rfl rfl rfl

def RF121 (i0_ w0_ : Nat) (R_ : List Ent) (res : aw) (r : PV) (h : Heap) : Prop := ∃ uF0 : PV, Mem h (⟨.op i0_ w0_ 0, 171, 16, [uF0]⟩ :: R_) ∧ (aw.t.R res uF0) ∧ r = .tup []
theorem ci7 {x0 : aw} {x1 : ak} {v1 h3 : PV} {R_ : List Ent} {h_ : Heap} {d3 d4 : Nat} (r1 : ak.t.R x1 v1) (b5 : aw.t.R x0 h3) (M_ : Mem h_ (⟨.op d3 d4 0, 171, 16, [h3]⟩ :: R_)) (hE : EB x0.env) : ∃ r h4, FnX Tryz.prog 121 [.op d3 d4 0, v1] h_ r h4 ∧ RF121 d3 d4 R_ (kb x0 x1) r h4 := by
 refine fnXX (R := RF121 d3 d4 R_) bh0 rfl fun res s => ?_
 unfold kb at s
 refine sR (ab (dq rfl (TR.cnt ak.t r1)) (nR (mV rfl (ab (cx rfl rfl) (ab (bf rfl) (ab (bf rfl) ?_))))))
 obtain ⟨h8, h0, h2⟩ := aw.g_scope b5
 obtain ⟨i3, f8, f6⟩ := bd.g_Program h2
 refine ab (cg (k := 0) M_ rfl rfl (jz h0 f8)) (mV rfl (ab (cx rfl rfl) (ab (bf rfl) ?_)))
 obtain ⟨i2, f9, e7⟩ := aw.g_regs b5
 refine ab (cg (k := 0) M_ rfl rfl f9) (fL rfl (ak.g_Register r1) rfl rfl (mV rfl ?_))
 obtain ⟨h7, g5, d1⟩ := ak.g_Index r1
 refine fA rfl g5 (lD d1 rfl rfl rfl ?_)
 have g8 := ae2 (P := Tryz.prog) (k := 0) M_ rfl (TR.clo aw.t b5)
 obtain ⟨g7, d9, s⟩ := bn s
 have e3 := ae9  b5 d1 
 rw [d9] at e3
 refine rv (sg rfl rfl (kt g8 (kt (cv (TR.clo (tSl af.t) d1)) sn)) e3 rfl) ?_
 obtain ⟨g0, f0, s⟩ := bn s
 have d6 := cj4 (x2 := x1.Register) (x3 := g7) f6 e7 
 rw [f0] at d6
 refine cL d6 rfl rfl (ai (TR.clo ae.t f6) (ai (TR.clo (tSl (tSl dm)) e7) (ai rfl (ai rfl bg)))) (mV rfl (nS (ax (mV rfl (mV rfl (ab (cx rfl rfl) (ab (bf rfl) (ab (bf rfl) ?_))))))))
 obtain ⟨h5, h1, g2⟩ := aw.g_scope b5
 obtain ⟨h6, g1, e5⟩ := bd.g_Program g2
 refine ab (cg (k := 0) M_ rfl rfl (jz h1 g1)) (mV rfl (ab (cx rfl rfl) (ab (bf rfl) ?_)))
 obtain ⟨i0, g9, e2⟩ := aw.g_env b5
 refine ab (cg (k := 0) M_ rfl rfl g9) (gL (ak.g_Dst r1) rfl rfl rfl fun i1 e8 => (mV rfl ?_))
 obtain ⟨g4, d7, s⟩ := bn s
 obtain ⟨h9, g6, f1⟩ := bn8 (x3 := g0) e5 e2 e8 (by assumption)
 rw [d7] at f1
 refine cL g6 rfl rfl (ai (TR.clo ae.t e5) (ai (TR.clo av.t e2) (ai (TR.clo aa.t e8) (ai rfl bg)))) (ab (cx rfl rfl) (ab (bf rfl) ?_))
 obtain ⟨b1, a7, a8, b4, b0, a6, b3, b2, a9, a1, e4, e9, f2, d8, a0, f7, c2, d0, c0, b9, c4, c3, c1, c8, c9, b6, e6, e1, f4, d5, b7⟩ := b5
 subst f7
 obtain ⟨a2, a5, a4, a3, g3, c7, c5, c6, b8⟩ := f1
 subst g3
 refine ip (k := 0) (v := .agg [a2, a5, a4, a3]) M_ rfl rfl rfl rfl rfl (by ((simp only [List.length_cons, List.length_nil]; omega))) (fun f3 d2 => ?_)
 replace d2 : Mem f3 (⟨.op d3 d4 0, 171, 16, [.agg [vs x0.scope.Program.Name, b1, a7, a8, b4, b0, a6, b3, b2, a9, a1, a2, a5, a4, a3, a0]]⟩ :: R_) := d2
 refine bp ?_
 have f5 : Mem f3 (⟨.op d3 d4 0, 171, 16, [.agg [vs x0.scope.Program.Name, b1, a7, a8, b4, b0, a6, b3, b2, a9, a1, a2, a5, a4, a3, a0]]⟩ :: R_) := (Mem.front (k := 0) d2 rfl)
 subst s
 exact vu .nil ⟨(.agg [vs x0.scope.Program.Name, b1, a7, a8, b4, b0, a6, b3, b2, a9, a1, a2, a5, a4, a3, a0]), Mem.sub f5 (.cons_cons _ (List.Sublist.refl R_)), (show aw.t.R ({ scope := x0.scope, args := x0.args, env := g4, regs := x0.regs } : aw) (.agg [vs x0.scope.Program.Name, b1, a7, a8, b4, b0, a6, b3, b2, a9, a1, a2, a5, a4, a3, a0]) from ⟨b1, a7, a8, b4, b0, a6, b3, b2, a9, a1, a2, a5, a4, a3, a0, rfl, c2, d0, c0, b9, c4, c3, c1, c8, c9, b6, c7, c5, c6, b8, b7⟩), rfl⟩

theorem OR.inner {h : Heap} {rs : List (List (BitVec 32))} {b : PV} {ef : List PV} {I R : List Ent} (H : OR h rs b ef I R) {i : Int} (h0 : 0 ≤ i) (h1 : i < rs.length) :
  ∃ v es, ef[i.toNat]? = some v ∧ I[i.toNat]? = some ⟨v, 89, 1, es⟩ ∧ (⟨b, 43, 1, ef⟩ :: (I ++ R))[i.toNat + 1]? = some (⟨v, 89, 1, es⟩ : Ent) ∧ All2 dm.R (ix rs i) es ∧ isL v = true ∧ (ix rs i).length ≤ 4611686018427387904 ∧ Wri v es := by
 obtain ⟨v, es, g1, g2, g3, g4, g5, g6⟩ := cw3 H.f h0 h1
 refine ⟨v, es, g1, g2, ?_, g3, g4, g5, g6⟩
 rw [List.getElem?_cons_succ, List.getElem?_append_left (List.getElem?_eq_some_iff.1 g2).1]
 exact g2
theorem OR.setF {h : Heap} {rs : List (List (BitVec 32))} {b : PV} {ef : List PV} {I R : List Ent} (H : OR h rs b ef I R) {h' : Heap} {x : BitVec 32} {i : Int} {k : Nat} {v : PV} {es : List PV} (g1 : ef[i.toNat]? = some v) (g2 : I[i.toNat]? = some ⟨v, 89, 1, es⟩) (g3 : All2 dm.R (ix rs i) es) (g4 : isL v = true) (g5 : (ix rs i).length ≤ 4611686018427387904)
  (M : Mem h' ((⟨b, 43, 1, ef⟩ :: (I ++ R)).set (i.toNat + 1) ⟨v, 89, 1, es.set k (bm x)⟩)) (hw : ∃ id ver n, v = .os id ver 0 n) : OR h' (rs.set i.toNat ((ix rs i).set k x)) b ef (I.set i.toNat ⟨v, 89, 1, es.set k (bm x)⟩) R := by
 refine { H with M := ?_, f := ao7 H.f g1 (All2.set g3 rfl) g4 (by rw [List.length_set]; exact g5) (.inr hw) }
 rw [List.set_cons_succ] at M
 rwa [List.set_append_left _ _ (List.getElem?_eq_some_iff.1 g2).1] at M
theorem av7 {S : List Fr} {E : TEnv} {h : Heap} {rs : List (List (BitVec 32))} {b : PV} {ef : List PV} {I R : List Ent} {d t r : Nat} (H : OR h rs b ef I R) (hE : RB rs) (hb : Pb.look t E = some b) : RC Tryz.prog (.seq (.region false [⟨some d, .move (.tmp t), none, false⟩, ⟨some r, .move (.tmp d), none, false⟩]) .ret) S (QR Tryz.prog [(r, none)] ((tSl (tSl dm)).R rs)) E h := by
 obtain ⟨d', hd, hr⟩ := H.deep hE
 have e1 : evE ((d, b) :: E) (.tmp d) = some b := by simp [evE, Pb.look]
 exact sR (ab (au hb) (ab (au e1) (nS (fy (.tmp (by simp [Pb.look]) .nil) hd hr))))
theorem by9 {p : ae} {rs : List (List (BitVec 32))} {r : Int} {i : BitVec 32} (h : fc { p := p, cells := rs } r i = true) : (0 ≤ r ∧ r < p.Registers.length) ∧ r < rs.length ∧ i.toNat < (ix rs r).length := by
 unfold fc at h
 split at h
 ·cases h
 ·rename_i hc
  simp only [Bool.or_eq_true, decide_eq_true_eq, not_or] at hc
  simp only [Bool.and_eq_true, decide_eq_true_eq] at h
  omega
theorem cu6 {x0 : ae} {x1 : List (List (BitVec 32))} {x2 : Int} {x3 x4 : BitVec 32} {v0 v1 : PV} (r0 : ae.t.R x0 v0) (r1 : (tSl (tSl dm)).R x1 v1) (hE : RB x1) : ∃ r, FnR Tryz.prog 193 [v0, v1, vi x2, bm x3, bm x4] r ∧ (tSl (tSl dm)).R (fk x0 x1 x2 x3 x4) r := by
 refine fnE bm6 (by simp) ?_
 refine aq (ax (ab (dq rfl (TR.cnt ae.t r0)) (ab (v := nilS) (au rfl) (bp (am (aq (dv ?_)))))))
 refine bw (ab (au rfl) (bv ?_))
 obtain ⟨b, k, X, ef, I, H⟩ := bf9 bn5 r1 hE (Mem.nil ⟨0, []⟩)
 refine fx rfl rfl X ?_
 refine bw (ab (au rfl) (bv (je ?_)))
 refine am (aq (ax (ab (au rfl) (bp (am (aq (aq (ax ?_))))))))
 have a0 := r0
 obtain ⟨c1, c2, c3, c4, c5, c6, c7, c8, e0, p1, p2, p3, p4, p5, p6, p7, p8⟩ := a0
 have hfile : du.t.R ({ p := x0, cells := x1 } : du) (.agg [vs x0.Name, c1, c2, c3, c4, c5, c6, c7, c8, v1]) := ⟨c1, c2, c3, c4, c5, c6, c7, c8, v1, rfl, p1, p2, p3, p4, p5, p6, p7, p8, r1⟩
 refine ab (au rfl) (lD r0 rfl rfl rfl (ab (au rfl) ?_))
 refine ab (v := .agg [vs x0.Name, c1, c2, c3, c4, c5, c6, c7, c8, v1]) (fu (cs := [vs x0.Name, c1, c2, c3, c4, c5, c6, c7, c8, v1]) rfl (by rw [e0]; simp only [buildV, my (TR.cnt _ r1) (TR.agg _ r1)]; rfl)) ?_
 refine mV rfl (mV rfl ?_)
 refine cL (bg4 (x1 := x2) (x2 := x3) hfile) rfl rfl (ai (TR.clo _ hfile) (ai rfl (ai rfl bg))) (mV rfl ?_)
 refine cn 9 (d := 31) (v := vb (fc { p := x0, cells := x1 } x2 x3 && decide (0#32 < ck (ix x0.Registers x2).Width))) ?_ ?_
 ·intro S Q r
  cases hb : fc { p := x0, cells := x1 } x2 x3
  ·exact gN 8 rfl rfl rfl rfl rfl rfl
  ·intro k
   have hh := by9 hb
   obtain ⟨w3, g3, q3⟩ := ae.g_Registers r0
   refine ah rfl rfl (cd rfl g3) (ah rfl rfl (ca rfl (TR.cnt _ q3) (TR.agg _ q3)) (ah rfl rfl (au rfl) ?_))
   obtain ⟨w4, g4, q4⟩ := dt (i := x2) q3 hh.1.1 hh.1.2
   refine ah rfl rfl (bh rfl rfl g4) (ah rfl rfl (cd rfl (cp.g_Width q4)) (ah rfl rfl (ca rfl rfl rfl) ?_))
   refine mb rfl rfl (si rfl rfl (ai rfl bg) (lc (x0 := (ix x0.Registers x2).Width))) (ah rfl rfl (bz (a := bm (ck (ix x0.Registers x2).Width)) (b := bm 0#32) rfl rfl dp5) ?_)
   exact gK rfl rfl rfl rfl rfl k
 refine bp (am (cj rfl (fun hc => ?_) fun hc => ?_))
 ·have hs : fk x0 x1 x2 x3 x4 = x1.set x2.toNat ((ix x1 x2).set x3.toNat (x4 &&& ck (ix x0.Registers x2).Width)) := by unfold fk; rw [if_pos hc]
  rw [hs]
  simp only [Bool.and_eq_true] at hc
  have hh := by9 hc.1
  obtain ⟨id, ver, n, rfl⟩ := H.wb
  have hn := qr H.M (k := 0) rfl
  have hlen := H.f.len.1
  obtain ⟨v, es, e1, e2, e3, e4, e5, e6, e7⟩ := H.inner hh.1.1 hh.2.1
  refine ax (ab (au rfl) (mV rfl ?_))
  refine ab (bh rfl rfl (qg 1 (i := x2) hh.1.1 (by omega))) ?_
  refine ab (ou (k := 0) H.M rfl rfl e1 (fb H.M e3 e5).2) (mV rfl (mV rfl ?_))
  obtain ⟨w3, g3, q3⟩ := ae.g_Registers r0
  refine ab (cd rfl g3) (lD q3 rfl rfl rfl (mV rfl ?_))
  obtain ⟨w4, g4, q4⟩ := dt (i := x2) q3 hh.1.1 hh.1.2
  refine ab (bh rfl rfl g4) (fL rfl (cp.g_Width q4) rfl rfl ?_)
  refine cL (lc (x0 := (ix x0.Registers x2).Width)) rfl rfl (ai rfl bg) (bN qf rfl rfl ?_)
  obtain ⟨id', ver', n', rfl⟩ := wy e7 e4 (i := (x3.toNat : Int)) (by omega) (by omega)
  have hn' := qr H.M e3
  have hl := e4.length
  refine ab (bh rfl rfl (qg 1 (i := (x3.toNat : Int)) (by omega) (by omega))) ?_
  refine tu (i := x3.toNat) H.M rfl rfl e3 (by omega) rfl (fun h' M' => bp (am ?_))
  exact av7 (H.setF e1 e2 e4 e5 e6 M' ⟨_, _, _, rfl⟩) (hE.set (by rw [List.length_set]; exact hE.i _ (ai5 hh.1.1 hh.2.1))) rfl
 ·have hs : fk x0 x1 x2 x3 x4 = x1 := by unfold fk; rw [if_neg (by rw [hc]; simp)]
  rw [hs]
  exact bb (am (av7 H hE rfl))

def RF122 (i0_ w0_ : Nat) (R_ : List Ent) (res : aw) (r : PV) (h : Heap) : Prop := ∃ uF0 : PV, Mem h (⟨.op i0_ w0_ 0, 171, 16, [uF0]⟩ :: R_) ∧ (aw.t.R res uF0) ∧ r = .tup []
theorem cq4 {x0 : aw} {x1 : ak} {v1 g0 : PV} {R_ : List Ent} {h_ : Heap} {d3 d4 : Nat} (r1 : ak.t.R x1 v1) (b4 : aw.t.R x0 g0) (M_ : Mem h_ (⟨.op d3 d4 0, 171, 16, [g0]⟩ :: R_)) (hE : RB x0.regs) : ∃ r g1, FnX Tryz.prog 122 [.op d3 d4 0, v1] h_ r g1 ∧ RF122 d3 d4 R_ (jv x0 x1) r g1 := by
 refine fnXX (R := RF122 d3 d4 R_) bi5 rfl fun res s => ?_
 unfold jv at s
 refine sR (ab (dq rfl (TR.cnt ak.t r1)) (nS (ax (mV rfl (mV rfl (ab (cx rfl rfl) (ab (bf rfl) (ab (bf rfl) ?_))))))))
 obtain ⟨g3, f8, f9⟩ := aw.g_scope b4
 obtain ⟨g6, e9, e6⟩ := bd.g_Program f9
 refine ab (cg (k := 0) M_ rfl rfl (jz f8 e9)) (mV rfl (ab (cx rfl rfl) (ab (bf rfl) ?_)))
 obtain ⟨g5, f0, e2⟩ := aw.g_regs b4
 refine ab (cg (k := 0) M_ rfl rfl f0) (fL rfl (ak.g_Register r1) rfl rfl (mV rfl (gL (ak.g_Index r1) rfl rfl rfl fun g2 e1 => ?_)))
 have f7 := ae2 (P := Tryz.prog) (k := 0) M_ rfl (TR.clo aw.t b4)
 obtain ⟨f4, d5, s⟩ := bn s
 have d7 := ae9  b4 e1 
 rw [d5] at d7
 refine rv (sg rfl rfl (kt f7 (kt (cv (TR.clo (tSl af.t) e1)) sn)) d7 rfl) (mV rfl ?_)
 obtain ⟨g4, f1, d2⟩ := ak.g_Value r1
 refine fA rfl f1 (lD d2 rfl rfl rfl ?_)
 have f3 := ae2 (P := Tryz.prog) (k := 0) M_ rfl (TR.clo aw.t b4)
 obtain ⟨e8, e5, s⟩ := bn s
 have e7 := ae9  b4 d2 
 rw [e5] at e7
 refine rv (sg rfl rfl (kt f3 (kt (cv (TR.clo (tSl af.t) d2)) sn)) e7 rfl) ?_
 obtain ⟨f6, d8, s⟩ := bn s
 obtain ⟨b5, f2, c3⟩ := cu6 (x2 := x1.Register) (x3 := f4) (x4 := e8) e6 e2 (by assumption)
 rw [d8] at c3
 refine cL f2 rfl rfl (ai (TR.clo ae.t e6) (ai (TR.clo (tSl (tSl dm)) e2) (ai rfl (ai rfl (ai rfl bg))))) (ab (cx rfl rfl) (ab (bf rfl) ?_))
 obtain ⟨a7, a8, a9, b0, a5, b1, a6, b3, b2, a3, a1, a4, a2, a0, d9, f5, c2, c4, c1, d0, c6, c9, c5, c7, c8, b8, b9, c0, b6, b7, d6⟩ := b4
 subst f5
 refine ip (k := 0) (v := b5) M_ rfl rfl rfl (my (TR.cnt (tSl (tSl dm)) c3) (TR.agg (tSl (tSl dm)) c3)) rfl (by ((simp only [List.length_cons, List.length_nil]; omega))) (fun e4 d1 => ?_)
 replace d1 : Mem e4 (⟨.op d3 d4 0, 171, 16, [.agg [vs x0.scope.Program.Name, a7, a8, a9, b0, a5, b1, a6, b3, b2, a3, a1, a4, a2, a0, b5]]⟩ :: R_) := d1
 refine bp ?_
 have e3 : Mem e4 (⟨.op d3 d4 0, 171, 16, [.agg [vs x0.scope.Program.Name, a7, a8, a9, b0, a5, b1, a6, b3, b2, a3, a1, a4, a2, a0, b5]]⟩ :: R_) := (Mem.front (k := 0) d1 rfl)
 subst s
 exact vu .nil ⟨(.agg [vs x0.scope.Program.Name, a7, a8, a9, b0, a5, b1, a6, b3, b2, a3, a1, a4, a2, a0, b5]), Mem.sub e3 (.cons_cons _ (List.Sublist.refl R_)), (show aw.t.R ({ scope := x0.scope, args := x0.args, env := x0.env, regs := f6 } : aw) (.agg [vs x0.scope.Program.Name, a7, a8, a9, b0, a5, b1, a6, b3, b2, a3, a1, a4, a2, a0, b5]) from ⟨a7, a8, a9, b0, a5, b1, a6, b3, b2, a3, a1, a4, a2, a0, b5, rfl, c2, c4, c1, d0, c6, c9, c5, c7, c8, b8, b9, c0, b6, b7, c3⟩), rfl⟩

def RF44 (res : av × (List (List (BitVec 32)))) (r : PV) : Prop := ∃ c0, ∃ c1, r = .tup [c0, c1] ∧ av.t.R res.1 c0 ∧ (tSl (tSl dm)).R res.2 c1
theorem uy {S : List Fr} {res : av × (List (List (BitVec 32)))} {x0 : ae} {x1 : bt} {x2 : av} {x3 : List (List (BitVec 32))} {f6 : av} {g3 : (List (List (BitVec 32)))} {e5 : Int × Int} {e1 : PV} {a8 a6 a7 a9 : Nat} (hE : EB x2) (hR : RB x3) (h7 : vj x2 = f6) (h3 : pd x3 = g3) (h5 : iu x0 x1.Action = e5) (e4 : ((!decide (e5.2 = 0)) || (!decide ((ii x0 x1) = 0))) = false) (b1 : (tSl ak.t).R ((ix x0.Actions x1.Action).Body) e1) {K0 : aw → (av × (List (List (BitVec 32))))}
  (i7 : ∀ {a2 : aw} {a1 : PV} (a3 : aw.t.R a2 a1) {h : Heap} (M0 : Mem h [⟨.op a7 a9 0, 171, 16, [a1]⟩, ⟨.op a8 a6 0, 46, 4, [.agg [nilS, nilS, nilS, nilS]]⟩]), K0 a2 = res → PX Tryz.prog 0 S (QR Tryz.prog [(8, some (4, true)), (9, none)] (RF44 res)) [(8, .op a8 a6 0), (10, .op a7 a9 0)] h) :
  ∀ {m : Nat} {a0 : Int} {a2 : aw} {a1 : PV} (a3 : aw.t.R a2 a1) (i4 : m = Int.toNat ((((ix x0.Actions x1.Action).Body).length : Int) - a0)) (d8 : 0 ≤ a0) (d5 : SB a2) {h : Heap} (M0 : Mem h [⟨.op a7 a9 0, 171, 16, [a1]⟩, ⟨.op a8 a6 0, 46, 4, [.agg [nilS, nilS, nilS, nilS]]⟩]), gv x0 x1 K0 m a0 a2 = res → RC Tryz.prog (.loop cu8) S (QR Tryz.prog [(8, some (4, true)), (9, none)] (RF44 res)) [(67, vi a0), (66, vi (((ix x0.Actions x1.Action).Body).length : Int)), (65, e1), (10, .op a7 a9 0), (8, .op a8 a6 0)] h := by
 have d6 := e4
 try simp only [qa] at d6
 intro m
 induction m with
 | zero =>
  intro a0 a2 a1 a3 i4 d8 d5 h M0 s
  rw [gv] at s
  refine ct (sR (bN cz rfl rfl (nS (aq ?_))))
  refine cj rfl ?_ ?_ <;> intro c <;> try simp only [qa] at c
  ·omega
  refine ft (gk (ej ?_))
  exact wP (i7 a3 (Mem.sub M0 (.cons_cons _ (.cons_cons _ .slnil))) s) rfl
 | succ m ih =>
  intro a0 a2 a1 a3 i4 d8 d5 h M0 s
  rw [gv] at s
  refine ct (sR (bN cz rfl rfl (nS (aq ?_))))
  refine cj rfl ?_ ?_ <;> intro c <;> try simp only [qa] at c
  rotate_left
  ·omega
  refine bb (am (aq (br (sR ?_))))
  obtain ⟨b0, h0, a4⟩ := dt (i := a0) b1 (by omega) (by omega)
  refine ab (bh rfl rfl h0) (lD a4 rfl rfl rfl ?_)
  refine dz (x := .agg [vi 0, vi 0, vi 0, vi 0, vi 0, nilS, nilS]) M0 rfl rfl (fun b4 b3 i6 g6 => ?_)
  refine cw (k := 0) (v := b0) g6 rfl rfl rfl (TR.cnt ak.t a4) (fun b2 a5 => ?_)
  replace a5 : Mem b2 [⟨.op b4 b3 0, 135, 7, [b0]⟩, ⟨.op a7 a9 0, 171, 16, [a1]⟩, ⟨.op a8 a6 0, 46, 4, [.agg [nilS, nilS, nilS, nilS]]⟩] := a5
  refine nR (mV rfl (nS (aq (sR (ab (bf rfl) (ab (cg (k := 0) a5 rfl rfl (ak.g_Kind a4)) (nS (br ?_))))))))
  refine sR (bN fe rfl rfl (mV rfl (nS ?_)))
  refine ci s rfl ?_ ?_ <;> clear s <;> intro c s <;> try simp only [qa] at c
  ·refine ax (mV rfl (bp (de (am (dv (bw (mV rfl (bv ?_))))))))
   refine bw (mV rfl (bv (bw (ab (iw (k := 0) a5 rfl rfl (TR.agg ak.t a4)) (bv ?_)))))
   have f7 : Mem b2 [⟨.op a7 a9 0, 171, 16, [a1]⟩, ⟨.op b4 b3 0, 135, 7, [b0]⟩, ⟨.op a8 a6 0, 46, 4, [.agg [nilS, nilS, nilS, nilS]]⟩] := (Mem.front (k := 1) a5 rfl)
   obtain ⟨f4, d3, s⟩ := bn s
   obtain ⟨i1, i9, e2, d4⟩ := cm6 (x0 := a2) (x1 := (ix ((ix x0.Actions x1.Action).Body) a0)) a4 a3 f7 (by exact And.left (by assumption : SB _))
   rw [d3] at d4
   obtain ⟨g7, e8, c2, b9⟩ := d4
   replace b9 := b9.symm; subst b9
   refine fx rfl rfl e2 ?_
   have h1 : SB f4 := sb2 (by assumption) d3
   refine je (de (am (ax (bN gm rfl rfl (mV rfl (bp (di ?_)))))))
   have hbd := ee b1
   have hinc : wr (a0 + 1) = a0 + 1 := gb (by omega) (by omega)
   erw [hinc]
   exact wC (ih  c2 (by omega) (by omega) (by assumption) (Mem.sub e8 (.cons_cons _ (.cons _ (.cons_cons _ .slnil)))) s) rfl
  ·refine sR (bN fe rfl rfl (mV rfl (nS ?_)))
   refine ci s rfl ?_ ?_ <;> clear s <;> intro c s <;> try simp only [qa] at c
   ·refine ax (mV rfl (bp (de (am (dv (bw (mV rfl (bv ?_))))))))
    refine bw (mV rfl (bv (bw (ab (iw (k := 0) a5 rfl rfl (TR.agg ak.t a4)) (bv ?_)))))
    have g4 : Mem b2 [⟨.op a7 a9 0, 171, 16, [a1]⟩, ⟨.op b4 b3 0, 135, 7, [b0]⟩, ⟨.op a8 a6 0, 46, 4, [.agg [nilS, nilS, nilS, nilS]]⟩] := (Mem.front (k := 1) a5 rfl)
    obtain ⟨e9, c8, s⟩ := bn s
    obtain ⟨h6, j1, d7, c9⟩ := cq7 (x0 := a2) (x1 := (ix ((ix x0.Actions x1.Action).Body) a0)) a4 a3 g4 (by exact And.left (by assumption : SB _))
    rw [c8] at c9
    obtain ⟨e7, g5, c3, b5⟩ := c9
    replace b5 := b5.symm; subst b5
    refine fx rfl rfl d7 ?_
    have h8 : SB e9 := sb3 (by assumption) c8
    refine je (de (am (ax (bN gm rfl rfl (mV rfl (bp (di ?_)))))))
    have hbd := ee b1
    have hinc : wr (a0 + 1) = a0 + 1 := gb (by omega) (by omega)
    erw [hinc]
    exact wC (ih  c3 (by omega) (by omega) (by assumption) (Mem.sub g5 (.cons_cons _ (.cons _ (.cons_cons _ .slnil)))) s) rfl
   ·refine sR (bN fe rfl rfl (mV rfl (nS ?_)))
    refine ci s rfl ?_ ?_ <;> clear s <;> intro c s <;> try simp only [qa] at c
    ·refine ax (mV rfl (bp (de (am (dv (bw (mV rfl (bv ?_))))))))
     refine bw (mV rfl (bv (bw (ab (iw (k := 0) a5 rfl rfl (TR.agg ak.t a4)) (bv ?_)))))
     have f2 : Mem b2 [⟨.op a7 a9 0, 171, 16, [a1]⟩, ⟨.op b4 b3 0, 135, 7, [b0]⟩, ⟨.op a8 a6 0, 46, 4, [.agg [nilS, nilS, nilS, nilS]]⟩] := (Mem.front (k := 1) a5 rfl)
     obtain ⟨f8, d0, s⟩ := bn s
     obtain ⟨h9, i8, e6, d1⟩ := ci7 (x0 := a2) (x1 := (ix ((ix x0.Actions x1.Action).Body) a0)) a4 a3 f2 (by exact And.left (by assumption : SB _))
     rw [d0] at d1
     obtain ⟨f9, g9, c1, b6⟩ := d1
     replace b6 := b6.symm; subst b6
     refine fx rfl rfl e6 ?_
     have h4 : SB f8 := sb4 (by assumption) d0
     refine je (de (am (ax (bN gm rfl rfl (mV rfl (bp (di ?_)))))))
     have hbd := ee b1
     have hinc : wr (a0 + 1) = a0 + 1 := gb (by omega) (by omega)
     erw [hinc]
     exact wC (ih  c1 (by omega) (by omega) (by assumption) (Mem.sub g9 (.cons_cons _ (.cons _ (.cons_cons _ .slnil)))) s) rfl
    ·refine sR (bN fe rfl rfl (mV rfl (nS ?_)))
     refine ci s rfl ?_ ?_ <;> clear s <;> intro c s <;> try simp only [qa] at c
     ·refine ax (mV rfl (bp (de (am (dv (bw (mV rfl (bv ?_))))))))
      refine bw (mV rfl (bv (bw (ab (iw (k := 0) a5 rfl rfl (TR.agg ak.t a4)) (bv ?_)))))
      have f3 : Mem b2 [⟨.op a7 a9 0, 171, 16, [a1]⟩, ⟨.op b4 b3 0, 135, 7, [b0]⟩, ⟨.op a8 a6 0, 46, 4, [.agg [nilS, nilS, nilS, nilS]]⟩] := (Mem.front (k := 1) a5 rfl)
      obtain ⟨g0, c6, s⟩ := bn s
      obtain ⟨i3, j0, d9, d2⟩ := cq4 (x0 := a2) (x1 := (ix ((ix x0.Actions x1.Action).Body) a0)) a4 a3 f3 (by exact And.right (by assumption : SB _))
      rw [c6] at d2
      obtain ⟨g8, g2, c0, b7⟩ := d2
      replace b7 := b7.symm; subst b7
      refine fx rfl rfl d9 ?_
      have h2 : SB g0 := sb5 (by assumption) c6
      refine je (de (am (ax (bN gm rfl rfl (mV rfl (bp (di ?_)))))))
      have hbd := ee b1
      have hinc : wr (a0 + 1) = a0 + 1 := gb (by omega) (by omega)
      erw [hinc]
      exact wC (ih  c0 (by omega) (by omega) (by assumption) (Mem.sub g2 (.cons_cons _ (.cons _ (.cons_cons _ .slnil)))) s) rfl
     ·refine bb (de (am (dv (bw (mV rfl (bv (bw (mV rfl ?_))))))))
      refine bv (bw (ab (iw (k := 0) a5 rfl rfl (TR.agg ak.t a4)) (bv ?_)))
      have f5 : Mem b2 [⟨.op a7 a9 0, 171, 16, [a1]⟩, ⟨.op b4 b3 0, 135, 7, [b0]⟩, ⟨.op a8 a6 0, 46, 4, [.agg [nilS, nilS, nilS, nilS]]⟩] := (Mem.front (k := 1) a5 rfl)
      obtain ⟨g1, c7, s⟩ := bn s
      obtain ⟨i0, i5, e3, c5⟩ := cv7 (x0 := a2) (x1 := (ix ((ix x0.Actions x1.Action).Body) a0)) a4 a3 f5 (by exact And.left (by assumption : SB _))
      rw [c7] at c5
      obtain ⟨f0, f1, c4, b8⟩ := c5
      replace b8 := b8.symm; subst b8
      refine fx rfl rfl e3 ?_
      have i2 : SB g1 := sb1 (by assumption) c7
      refine je (de (am (ax (bN gm rfl rfl (mV rfl (bp (di ?_)))))))
      have hbd := ee b1
      have hinc : wr (a0 + 1) = a0 + 1 := gb (by omega) (by omega)
      erw [hinc]
      exact wC (ih  c4 (by omega) (by omega) (by assumption) (Mem.sub f1 (.cons_cons _ (.cons _ (.cons_cons _ .slnil)))) s) rfl

theorem cd6 {x0 : ae} {x1 : bt} {x2 : av} {x3 : List (List (BitVec 32))} {v0 v1 v2 v3 : PV} (r0 : ae.t.R x0 v0) (r1 : bt.t.R x1 v1) (r2 : av.t.R x2 v2) (r3 : (tSl (tSl dm)).R x3 v3) (hE : EB x2) (hR : RB x3) : ∃ c0, ∃ c1, FnR Tryz.prog 44 [v0, v1, v2, v3] (.tup [c0, c1]) ∧ av.t.R (iy x0 x1 x2 x3).1 c0 ∧ (tSl (tSl dm)).R (iy x0 x1 x2 x3).2 c1 := by
 obtain ⟨res, s⟩ : ∃ res, iy x0 x1 x2 x3 = res := ⟨_, rfl⟩
 suffices H : RC Tryz.prog cz6 [] (QR Tryz.prog [(8, some (4, true)), (9, none)] (RF44 res)) (argE 0 [v0, v1, v2, v3]) ⟨0, []⟩ by
  rw [s]
  obtain ⟨r, h1, c0, c1, rfl, j8, j6⟩ := fnE cc4 (by simp) H
  exact ⟨c0, c1, h1, j8, j6⟩
 unfold iy at s
 refine sR (ab (dq rfl (TR.cnt ae.t r0)) (ab (dq rfl (TR.cnt bt.t r1)) (ab (dq rfl (TR.cnt av.t r2)) ?_)))
 refine dz (x := .agg [nilS, nilS, nilS, nilS]) (Mem.nil ⟨0, []⟩) rfl rfl (fun b8 b6 j2 h5 => ?_)
 refine ab (v := nilS) (au rfl) (nR (lD r2 rfl rfl rfl ?_))
 obtain ⟨g3, e3, s⟩ := bn s
 obtain ⟨j1, i0, g1⟩ := cg6  r2 (by assumption)
 rw [e3] at g1
 refine cL i0 rfl rfl (ai (TR.clo av.t r2) bg) (mV rfl ?_)
 obtain ⟨i4, e1, s⟩ := bn s
 obtain ⟨b3, h3, c3⟩ := ci0  r3 (by assumption)
 rw [e1] at c3
 refine cL h3 rfl rfl (ai (TR.clo (tSl (tSl dm)) r3) bg) ?_
 obtain ⟨a0, a2, a1, a3, h6, b5, b7, b4, b9⟩ := g1
 subst h6
 refine ab (v := .agg [vs [], nilS, nilS, nilS, nilS, nilS, nilS, nilS, nilS, nilS, nilS, a0, a2, a1, a3, b3]) (fu (cs := [vs [], nilS, nilS, nilS, nilS, nilS, nilS, nilS, nilS, nilS, nilS, a0, a2, a1, a3, b3]) rfl (by simp only [buildV, my (TR.cnt (tSl (tSl dm)) c3) (TR.agg (tSl (tSl dm)) c3)]; rfl)) ?_
 refine bc7 (x := .agg [vs [], nilS, nilS, nilS, nilS, nilS, nilS, nilS, nilS, nilS, nilS, a0, a2, a1, a3, b3]) h5 rfl rfl (fun f0 f2 j0 g6 => ?_)
 refine mV rfl (nS (aq (sR (lD r0 rfl rfl rfl (fL rfl (bt.g_Action r1) rfl rfl ?_)))))
 obtain ⟨b2, e2, s⟩ := bn s
 have g2 := ca1 (x1 := x1.Action) r0 
 rw [e2] at g2
 refine cL g2 rfl rfl (ai (TR.clo ae.t r0) (ai rfl bg)) (mV rfl (xT rfl rfl (xT rfl rfl (mV rfl (mV rfl (nR (mV rfl (bN mw rfl rfl ?_))))))))
 refine mV rfl ?_
 refine cn 5 (d := 37) (v := vb ((!decide (b2.2 = 0)) || (!decide ((ii x0 x1) = 0)))) ?_ ?_
 ·intro S Q r
  cases g0 : (!decide (b2.2 = 0))
  ·intro k
   have f5 := g0
   try simp only [qa] at f5
   refine ah rfl rfl (ca rfl (TR.cnt ae.t r0) (TR.agg ae.t r0)) (ah rfl rfl (ca rfl (TR.cnt bt.t r1) (TR.agg bt.t r1)) ?_)
   have i1 := dc9  r0 r1 
   refine mb rfl rfl (si rfl rfl (ai (TR.clo ae.t r0) (ai (TR.clo bt.t r1) bg)) i1) (ah rfl rfl (bz rfl rfl mw) ?_)
   exact gK rfl rfl rfl rfl rfl k
  ·exact gN 4 rfl rfl rfl rfl rfl rfl
 refine nS ?_
 refine ci s rfl ?_ ?_ <;> clear s <;> intro e4 s <;> have e6 := e4 <;> try simp only [qa] at e6
 ·refine aq ?_
  refine ai4 (k := 0) (E' := [(37, vb ((!decide (b2.2 = 0)) || (!decide ((ii x0 x1) = 0)))), (32, vb (!decide (b2.2 = 0))), (31, vb (!decide (b2.2 = 0))), (30, vi b2.2), (12, vi b2.2), (11, vi b2.1), (29, vi b2.2), (28, vi b2.1), (23, .tup [vi b2.1, vi b2.2]), (27, .tup [vi b2.1, vi b2.2]), (26, vi x1.Action), (25, .fp (vi x1.Action)), (24, v0), (10, .fp (.agg [vs [], nilS, nilS, nilS, nilS, nilS, nilS, nilS, nilS, nilS, nilS, a0, a2, a1, a3, b3])), (22, .fp (.agg [vs [], nilS, nilS, nilS, nilS, nilS, nilS, nilS, nilS, nilS, nilS, a0, a2, a1, a3, b3])), (21, .agg [vs [], nilS, nilS, nilS, nilS, nilS, nilS, nilS, nilS, nilS, nilS, a0, a2, a1, a3, b3]), (20, b3), (19, v3), (18, .agg [a0, a2, a1, a3]), (17, v2), (9, nilS), (8, .op b8 b6 0), (6, .fp v2), (5, .fp v1), (4, .fp v0), (0, v0), (1, v1), (2, v2), (3, v3)]) g6 rfl (db rfl (db rfl (db rfl (db rfl (db rfl (db rfl (db rfl (db rfl (db rfl (db rfl (db rfl (db rfl (db rfl (te rfl (te rfl (db rfl (db rfl (db rfl (db rfl (db rfl (db rfl (db rfl (db rfl (db rfl (db rfl (db rfl (db rfl (db rfl (db rfl xw))))))))))))))))))))))))))))) (fun i3 f1 => ?_)
  replace f1 : Mem i3 [⟨.op b8 b6 0, 46, 4, [.agg [nilS, nilS, nilS, nilS]]⟩] := f1
  refine mV rfl (ab (cx rfl rfl) (fL rfl rfl rfl rfl (mV rfl (ab (cx rfl rfl) (fA rfl (mk1 (TR.agg (tSl (tSl dm)) c3)) (lD c3 rfl rfl rfl ?_))))))
  refine cw (k := 0) (v := .agg [a0, a2, a1, a3]) f1 rfl rfl rfl rfl (fun g9 f3 => ?_)
  replace f3 : Mem g9 [⟨.op b8 b6 0, 46, 4, [.agg [a0, a2, a1, a3]]⟩] := f3
  refine mV rfl (nS ?_)
  subst s
  exact fy (.cell rfl (dn (k := 0) f3 rfl rfl) (.tmp rfl .nil)) (cv (show closed (.tup _) = true from (ai (TR.clo av.t (show av.t.R g3 (.agg [a0, a2, a1, a3]) from ⟨a0, a2, a1, a3, rfl, b5, b7, b4, b9⟩)) (ai (TR.clo (tSl (tSl dm)) c3) bg)))) ⟨.agg [a0, a2, a1, a3], b3, rfl, ⟨a0, a2, a1, a3, rfl, b5, b7, b4, b9⟩, c3⟩
 ·refine bb (am (sR (gL (ae.g_Actions r0) rfl rfl rfl fun i9 h0 => (fL rfl (bt.g_Action r1) rfl rfl ?_))))
  obtain ⟨d2, i5, d4⟩ := dt (i := x1.Action) h0 (by ((have hk := ca6 (by assumption) (And.left (by assumption : _ ∧ ii x0 x1 = 0)); omega))) (by ((have hk := ca6 (by assumption) (And.left (by assumption : _ ∧ ii x0 x1 = 0)); omega)))
  refine ab (bh rfl rfl i5) (lD d4 rfl rfl rfl ?_)
  refine dz (x := .agg [vs [], nilS, nilS]) g6 rfl rfl (fun e7 e9 j7 h9 => ?_)
  refine cw (k := 0) (v := d2) h9 rfl rfl rfl (TR.cnt cb.t d4) (fun i7 c6 => ?_)
  replace c6 : Mem i7 [⟨.op e7 e9 0, 97, 3, [d2]⟩, ⟨.op f0 f2 0, 171, 16, [.agg [vs [], nilS, nilS, nilS, nilS, nilS, nilS, nilS, nilS, nilS, nilS, a0, a2, a1, a3, b3]]⟩, ⟨.op b8 b6 0, 46, 4, [.agg [nilS, nilS, nilS, nilS]]⟩] := c6
  refine nR (mV rfl (lD r0 rfl rfl rfl (ab (bf rfl) ?_)))
  obtain ⟨c4, h8, f6⟩ := cb.g_Params d4
  refine ab (cg (k := 0) c6 rfl rfl h8) ?_
  obtain ⟨b1, a4, a7, a9, a6, b0, a5, a8, g8, c7, d9, d0, d5, d1, c8, d6, d8⟩ := r0
  subst g8
  refine ab (v := .agg [vs x0.Name, b1, a4, a7, a9, a6, b0, a5, a8, c4]) (fu (cs := [vs x0.Name, b1, a4, a7, a9, a6, b0, a5, a8, c4]) rfl (by simp only [buildV, my (TR.cnt (tSl ay.t) f6) (TR.agg (tSl ay.t) f6)]; rfl)) (ab (cx rfl rfl) (ab (bf rfl) ?_))
  refine ip (k := 1) (v := .agg [vs x0.Name, b1, a4, a7, a9, a6, b0, a5, a8, c4]) c6 rfl rfl rfl rfl rfl (by ((simp only [List.length_cons, List.length_nil]; omega))) (fun h2 e5 => ?_)
  replace e5 : Mem h2 [⟨.op e7 e9 0, 97, 3, [d2]⟩, ⟨.op f0 f2 0, 171, 16, [.agg [vs x0.Name, b1, a4, a7, a9, a6, b0, a5, a8, c4, nilS, a0, a2, a1, a3, b3]]⟩, ⟨.op b8 b6 0, 46, 4, [.agg [nilS, nilS, nilS, nilS]]⟩] := e5
  refine nR (mV rfl (gL (bt.g_Args r1) rfl rfl rfl fun d7 e8 => (ab (cx rfl rfl) (ab (bf rfl) ?_))))
  refine ip (k := 1) (v := d7) e5 rfl rfl rfl (my (TR.cnt (tSl dm) e8) (TR.agg (tSl dm) e8)) rfl (by ((simp only [List.length_cons, List.length_nil]; omega))) (fun i8 c9 => ?_)
  replace c9 : Mem i8 [⟨.op e7 e9 0, 97, 3, [d2]⟩, ⟨.op f0 f2 0, 171, 16, [.agg [vs x0.Name, b1, a4, a7, a9, a6, b0, a5, a8, c4, d7, a0, a2, a1, a3, b3]]⟩, ⟨.op b8 b6 0, 46, 4, [.agg [nilS, nilS, nilS, nilS]]⟩] := c9
  refine nS (aq (sR (ab (bf rfl) ?_)))
  obtain ⟨j3, h4, g4⟩ := cb.g_Body d4
  refine ab (cg (k := 0) c9 rfl rfl h4) (ab (cy rfl (cm g4 Tryz.underlying95 _)) (mI rfl (nS (br ?_))))
  have j5 : av.t.R ({ Valid := ([] : List Bool), Fields := ([] : List (List (BitVec 32))), Metd := ([] : List (BitVec 32)), Payload := ([] : List UInt8) } : av) (.agg [nilS, nilS, nilS, nilS]) := ⟨nilS, nilS, nilS, nilS, rfl, ro, ro, ro, ro⟩
  refine wC (uy hE hR e3 e1 e2 e4 g4 ?_  (show aw.t.R ({ scope := ({ Program := x0, Params := (ix x0.Actions x1.Action).Params } : bd), args := x1.Args, env := g3, regs := i4 } : aw) (.agg [vs x0.Name, b1, a4, a7, a9, a6, b0, a5, a8, c4, d7, a0, a2, a1, a3, b3]) from ⟨b1, a4, a7, a9, a6, b0, a5, a8, c4, d7, a0, a2, a1, a3, b3, rfl, c7, d9, d0, d5, d1, c8, d6, d8, f6, e8, b5, b7, b4, b9, c3⟩) rfl (by omega) (by exact sb0 hE hR (by assumption) (by assumption)) (Mem.sub c9 (.cons _ (.cons_cons _ (.cons_cons _ .slnil)))) s) rfl
  ·intro f9 c5 c2 j4 g7 s
   refine gw (am (aq ?_))
   refine ai4 (k := 0) (E' := [(8, .op b8 b6 0), (10, .fp c5)]) g7 rfl (db rfl (te rfl xw)) (fun h7 f7 => ?_)
   replace f7 : Mem h7 [⟨.op b8 b6 0, 46, 4, [.agg [nilS, nilS, nilS, nilS]]⟩] := f7
   refine mV rfl (ab (cx rfl rfl) (gL (aw.g_env c2) rfl rfl rfl fun f4 d3 => (mV rfl (ab (cx rfl rfl) (gL (aw.g_regs c2) rfl rfl rfl fun i6 g5 => ?_)))))
   refine cw (k := 0) (v := f4) f7 rfl rfl rfl (TR.cnt av.t d3) (fun i2 f8 => ?_)
   replace f8 : Mem i2 [⟨.op b8 b6 0, 46, 4, [f4]⟩] := f8
   refine mV rfl (nS ?_)
   subst s
   exact fy (.cell rfl (dn (k := 0) f8 rfl (TR.agg av.t d3)) (.tmp rfl .nil)) (cv (show closed (.tup _) = true from (ai (TR.clo av.t d3) (ai (TR.clo (tSl (tSl dm)) g5) bg)))) ⟨f4, i6, rfl, d3, g5⟩

def RF9 (res : Bool) (r : PV) : Prop := r = vb res
theorem dl9 {x0 : az} {x1 : av} {x2 : List (List (BitVec 32))} {v0 v1 v2 : PV} (r0 : az.t.R x0 v0) (r1 : av.t.R x1 v1) (r2 : (tSl (tSl dm)).R x2 v2) (hE : EB x0.E) (hR : RB x0.Regs) (u0 : EB x1) (u1 : RB x2) : FnR Tryz.prog 9 [v0, v1, v2] (vb (ma x0 x1 x2)) := by
 refine fnS (R := RF9) dq9 (fun _ h => h) rfl fun res s => ?_
 unfold ma at s
 refine sR ?_
 refine bc7 (x := v0) (Mem.nil ⟨0, []⟩) rfl (TR.cnt az.t r0) (fun g9 g7 s2 i3 => ?_)
 refine ab (dq rfl (TR.cnt av.t r1)) (mB rfl (nR (ab (bf rfl) ?_)))
 obtain ⟨t6, o0, p6⟩ := az.g_P r0
 refine ab (cg (k := 0) i3 rfl rfl o0) (ab (bf rfl) ?_)
 obtain ⟨s0, p7, p0⟩ := az.g_Call r0
 refine ab (cg (k := 0) i3 rfl rfl p7) (lD r1 rfl rfl rfl (mV rfl ?_))
 obtain ⟨a1, a8, a6, a4, a0, a3, a2, a7, o6, b9, b8, b7, b5, c0, b4, b6, c1⟩ := p6
 subst o6
 obtain ⟨a5, q2, b3⟩ := p0
 subst q2
 obtain ⟨a9, b1, b0, b2, o8, c9, d2, c7, d5⟩ := r1
 subst o8
 refine ab (v := .agg [vs x0.P.Name, a1, a8, a6, a4, a0, a3, a2, a7, vi x0.Call.Action, a5, a9, b1, b0, b2, v2]) (fu (cs := [vs x0.P.Name, a1, a8, a6, a4, a0, a3, a2, a7, vi x0.Call.Action, a5, a9, b1, b0, b2, v2]) rfl (by simp only [buildV, my (TR.cnt (tSl (tSl dm)) r2) (TR.agg (tSl (tSl dm)) r2)]; rfl)) ?_
 refine dz (x := .agg [vs [], nilS, nilS, nilS, nilS, nilS, nilS, nilS, nilS, vi 0, nilS, nilS, nilS, nilS, nilS, nilS]) i3 rfl rfl (fun g8 h1 r5 q6 => ?_)
 refine cw (k := 0) (v := .agg [vs x0.P.Name, a1, a8, a6, a4, a0, a3, a2, a7, vi x0.Call.Action, a5, a9, b1, b0, b2, v2]) q6 rfl rfl rfl rfl (fun o9 e4 => ?_)
 replace e4 : Mem o9 [⟨.op g8 h1 0, 82, 16, [.agg [vs x0.P.Name, a1, a8, a6, a4, a0, a3, a2, a7, vi x0.Call.Action, a5, a9, b1, b0, b2, v2]]⟩, ⟨.op g9 g7 0, 82, 16, [v0]⟩] := e4
 refine nS (aq (sR (ab (bf rfl) ?_)))
 obtain ⟨t3, o3, l3⟩ := az.g_P r0
 refine ab (cg (k := 1) e4 rfl rfl o3) ?_
 obtain ⟨g4, j2, s⟩ := bn s
 have l7 := dg7  l3 
 rw [j2] at l7
 refine cL l7 rfl rfl (ai (TR.clo ae.t l3) bg) (ab (ks rfl) (mV rfl ?_))
 refine cn 6 (d := 31) (v := vb ((!g4) || (decide (40 < (x0.Call.Args.length : Int))))) ?_ ?_
 ·intro S Q r
  cases l1 : (!g4)
  ·intro k
   have i1 := l1
   try simp only [qa] at i1
   refine ah rfl rfl (bf rfl) (ah rfl rfl (bf rfl) ?_)
   obtain ⟨s6, q5, q1⟩ := az.g_Call r0
   obtain ⟨s8, n8, o2⟩ := bt.g_Args q1
   refine ah rfl rfl (cg (k := 1) e4 rfl rfl (jz q5 n8)) (ah rfl rfl (cy rfl (cm o2 Tryz.underlying43 _)) (ah rfl rfl (bz rfl rfl nu) ?_))
   exact gK rfl rfl rfl rfl rfl k
  ·exact gN 5 rfl rfl rfl rfl rfl rfl
 refine mV rfl ?_
 refine cn 4 (d := 36) (v := vb (((!g4) || (decide (40 < (x0.Call.Args.length : Int)))) || (!(mf x0)))) ?_ ?_
 ·intro S Q r
  cases k6 : ((!g4) || (decide (40 < (x0.Call.Args.length : Int))))
  ·intro k
   have i0 := k6
   try simp only [qa] at i0
   refine ah rfl rfl (iw (k := 1) e4 rfl rfl (TR.agg az.t r0)) ?_
   have n5 := ce3  r0 
   refine mb rfl rfl (si rfl rfl (ai (TR.clo az.t r0) bg) n5) (ah rfl rfl (ks rfl) ?_)
   exact gK rfl rfl rfl rfl rfl k
  ·exact gN 3 rfl rfl rfl rfl rfl rfl
 refine mV rfl ?_
 refine cn 4 (d := 41) (v := vb ((((!g4) || (decide (40 < (x0.Call.Args.length : Int)))) || (!(mf x0))) || (!(mf ({ P := x0.P, Call := x0.Call, E := x1, Regs := x2 } : az))))) ?_ ?_
 ·intro S Q r
  cases m1 : (((!g4) || (decide (40 < (x0.Call.Args.length : Int)))) || (!(mf x0)))
  ·intro k
   have i6 := m1
   try simp only [qa] at i6
   refine ah rfl rfl (iw (k := 0) e4 rfl rfl rfl) ?_
   have r3 := ce3  (show az.t.R ({ P := x0.P, Call := x0.Call, E := x1, Regs := x2 } : az) (.agg [vs x0.P.Name, a1, a8, a6, a4, a0, a3, a2, a7, vi x0.Call.Action, a5, a9, b1, b0, b2, v2]) from ⟨a1, a8, a6, a4, a0, a3, a2, a7, a5, a9, b1, b0, b2, v2, rfl, b9, b8, b7, b5, c0, b4, b6, c1, b3, c9, d2, c7, d5, r2⟩) 
   refine mb rfl rfl (si rfl rfl (ai (TR.clo az.t (show az.t.R ({ P := x0.P, Call := x0.Call, E := x1, Regs := x2 } : az) (.agg [vs x0.P.Name, a1, a8, a6, a4, a0, a3, a2, a7, vi x0.Call.Action, a5, a9, b1, b0, b2, v2]) from ⟨a1, a8, a6, a4, a0, a3, a2, a7, a5, a9, b1, b0, b2, v2, rfl, b9, b8, b7, b5, c0, b4, b6, c1, b3, c9, d2, c7, d5, r2⟩)) bg) r3) (ah rfl rfl (ks rfl) ?_)
   exact gK rfl rfl rfl rfl rfl k
  ·exact gN 3 rfl rfl rfl rfl rfl rfl
 refine nS ?_
 refine ci s rfl ?_ ?_ <;> clear s <;> intro c s <;> try simp only [qa] at c
 ·refine sR ?_
  obtain ⟨t7, n0, s⟩ := bn s
  have m6 := ba5   
  rw [n0] at m6
  refine cL m6 rfl rfl bg (mV rfl (nS ?_))
  exact rR s rfl rfl rfl
 ·refine bb (am (sR (ab (bf rfl) ?_)))
  obtain ⟨r6, n6, k4⟩ := az.g_P r0
  refine ab (cg (k := 1) e4 rfl rfl n6) (ab (bf rfl) (ab (bf rfl) ?_))
  obtain ⟨s1, q4, n9⟩ := az.g_Call r0
  refine ab (cg (k := 1) e4 rfl rfl (jz q4 (bt.g_Action n9))) ?_
  obtain ⟨t1, m8, s⟩ := bn s
  obtain ⟨r8, s4, t9, q8, h9, i9, i8⟩ := dc5 (x1 := x0.Call.Action) k4 
  rw [m8] at h9 i9 i8
  refine cL q8 rfl rfl (ai (TR.clo ae.t k4) (ai rfl bg)) (mV rfl (xT rfl rfl (xT rfl rfl (xT rfl rfl (mV rfl (mV rfl (mV rfl (nR ?_))))))))
  refine ab (bf rfl) ?_
  obtain ⟨t0, p9, l5⟩ := az.g_P r0
  refine ab (cg (k := 1) e4 rfl rfl p9) (ab (bf rfl) (ab (bf rfl) ?_))
  obtain ⟨r4, q9, p8⟩ := az.g_Call r0
  refine ab (cg (k := 1) e4 rfl rfl (jz q9 (bt.g_Action p8))) ?_
  obtain ⟨i7, j4, s⟩ := bn s
  obtain ⟨s9, t5, t8, p2, h5, h3, g6⟩ := da4 (x1 := x0.Call.Action) l5 (by exact dx9 (by assumption) (And.left (And.left (And.left (by assumption)))))
  rw [j4] at h5 h3 g6
  refine cL p2 rfl rfl (ai (TR.clo ae.t l5) (ai rfl bg)) (mV rfl (xT rfl rfl (xT rfl rfl (xT rfl rfl (mV rfl (mV rfl (mV rfl (nS ?_))))))))
  refine aq (sR (ab (iw (k := 1) e4 rfl rfl (TR.agg az.t r0)) (ab (iw (k := 0) e4 rfl rfl rfl) (mV rfl (mV rfl (mV rfl ?_))))))
  obtain ⟨k3, j1, s⟩ := bn s
  have j3 := ba4  r0 (show az.t.R ({ P := x0.P, Call := x0.Call, E := x1, Regs := x2 } : az) (.agg [vs x0.P.Name, a1, a8, a6, a4, a0, a3, a2, a7, vi x0.Call.Action, a5, a9, b1, b0, b2, v2]) from ⟨a1, a8, a6, a4, a0, a3, a2, a7, a5, a9, b1, b0, b2, v2, rfl, b9, b8, b7, b5, c0, b4, b6, c1, b3, c9, d2, c7, d5, r2⟩) h9 i9 i8 
  rw [j1] at j3
  refine cL j3 rfl rfl (ai (TR.clo az.t r0) (ai (TR.clo az.t (show az.t.R ({ P := x0.P, Call := x0.Call, E := x1, Regs := x2 } : az) (.agg [vs x0.P.Name, a1, a8, a6, a4, a0, a3, a2, a7, vi x0.Call.Action, a5, a9, b1, b0, b2, v2]) from ⟨a1, a8, a6, a4, a0, a3, a2, a7, a5, a9, b1, b0, b2, v2, rfl, b9, b8, b7, b5, c0, b4, b6, c1, b3, c9, d2, c7, d5, r2⟩)) (ai (TR.clo (tSl aa.t) h9) (ai (TR.clo (tSl tI) i9) (ai (TR.clo (tSl tI) i8) bg))))) (ab (ks rfl) (mV rfl ?_))
  refine cn 8 (d := 78) (v := vb ((!k3) || (!(oa x0 ({ P := x0.P, Call := x0.Call, E := x1, Regs := x2 } : az) i7.1 i7.2.1 i7.2.2)))) ?_ ?_
  ·intro S Q r
   cases m9 : (!k3)
   ·intro k
    have i5 := m9
    try simp only [qa] at i5
    refine ah rfl rfl (iw (k := 1) e4 rfl rfl (TR.agg az.t r0)) (ah rfl rfl (iw (k := 0) e4 rfl rfl rfl) (ah rfl rfl (au rfl) (ah rfl rfl (au rfl) (ah rfl rfl (au rfl) ?_))))
    have p1 := ba4  r0 (show az.t.R ({ P := x0.P, Call := x0.Call, E := x1, Regs := x2 } : az) (.agg [vs x0.P.Name, a1, a8, a6, a4, a0, a3, a2, a7, vi x0.Call.Action, a5, a9, b1, b0, b2, v2]) from ⟨a1, a8, a6, a4, a0, a3, a2, a7, a5, a9, b1, b0, b2, v2, rfl, b9, b8, b7, b5, c0, b4, b6, c1, b3, c9, d2, c7, d5, r2⟩) h5 h3 g6 
    refine mb rfl rfl (si rfl rfl (ai (TR.clo az.t r0) (ai (TR.clo az.t (show az.t.R ({ P := x0.P, Call := x0.Call, E := x1, Regs := x2 } : az) (.agg [vs x0.P.Name, a1, a8, a6, a4, a0, a3, a2, a7, vi x0.Call.Action, a5, a9, b1, b0, b2, v2]) from ⟨a1, a8, a6, a4, a0, a3, a2, a7, a5, a9, b1, b0, b2, v2, rfl, b9, b8, b7, b5, c0, b4, b6, c1, b3, c9, d2, c7, d5, r2⟩)) (ai (TR.clo (tSl aa.t) h5) (ai (TR.clo (tSl tI) h3) (ai (TR.clo (tSl tI) g6) bg))))) p1) (ah rfl rfl (ks rfl) ?_)
    exact gK rfl rfl rfl rfl rfl k
   ·exact gN 7 rfl rfl rfl rfl rfl rfl
  refine nS ?_
  refine ci s rfl ?_ ?_ <;> clear s <;> intro c s <;> try simp only [qa] at c
  ·refine sR ?_
   obtain ⟨r7, j7, s⟩ := bn s
   have l4 := ba5   
   rw [j7] at l4
   refine cL l4 rfl rfl bg (mV rfl (nS ?_))
   exact rR s rfl rfl rfl
  ·refine bb (am (sR (ab (bf rfl) ?_)))
   obtain ⟨t4, o4, l8⟩ := az.g_P r0
   refine ab (cg (k := 1) e4 rfl rfl o4) (ab (bf rfl) ?_)
   obtain ⟨s5, q0, m4⟩ := az.g_Call r0
   refine ab (cg (k := 1) e4 rfl rfl q0) (ab (bf rfl) ?_)
   obtain ⟨s3, p4, l2⟩ := az.g_E r0
   refine ab (cg (k := 1) e4 rfl rfl p4) (ab (bf rfl) ?_)
   obtain ⟨s7, n7, j9⟩ := az.g_Regs r0
   refine ab (cg (k := 1) e4 rfl rfl n7) ?_
   obtain ⟨h7, m3, s⟩ := bn s
   obtain ⟨r9, e5, p3, j8, h2⟩ := cd6  l8 m4 l2 j9 (by assumption) (by assumption)
   rw [m3] at j8 h2
   refine cL p3 rfl rfl (ai (TR.clo ae.t l8) (ai (TR.clo bt.t m4) (ai (TR.clo av.t l2) (ai (TR.clo (tSl (tSl dm)) j9) bg)))) (mV rfl (xT rfl rfl (xT rfl rfl (ab (bf rfl) ?_))))
   obtain ⟨d1, d3, d7, d6, c8, d8, d4, d0, c2, k5, n1, l0, m2, h4, o7, f6, f3, f9, f4, f1, e9, g1, f8, e6, k9, j5, m7, l6, m0⟩ := r0
   subst o7
   obtain ⟨c5, c3, c4, c6, o5, g3, f5, g2, f2⟩ := j8
   subst o5
   refine ip (k := 1) (v := .agg [c5, c3, c4, c6]) e4 rfl rfl rfl rfl rfl (by ((simp only [List.length_cons, List.length_nil]; omega))) (fun n3 i4 => ?_)
   replace i4 : Mem n3 [⟨.op g8 h1 0, 82, 16, [.agg [vs x0.P.Name, a1, a8, a6, a4, a0, a3, a2, a7, vi x0.Call.Action, a5, a9, b1, b0, b2, v2]]⟩, ⟨.op g9 g7 0, 82, 16, [.agg [vs x0.P.Name, d1, d3, d7, d6, c8, d8, d4, d0, vi x0.Call.Action, c2, c5, c3, c4, c6, h4]]⟩] := i4
   refine ab (bf rfl) ?_
   refine ip (k := 1) (v := e5) i4 rfl rfl rfl (my (TR.cnt (tSl (tSl dm)) h2) (TR.agg (tSl (tSl dm)) h2)) rfl (by ((simp only [List.length_cons, List.length_nil]; omega))) (fun p5 e7 => ?_)
   replace e7 : Mem p5 [⟨.op g8 h1 0, 82, 16, [.agg [vs x0.P.Name, a1, a8, a6, a4, a0, a3, a2, a7, vi x0.Call.Action, a5, a9, b1, b0, b2, v2]]⟩, ⟨.op g9 g7 0, 82, 16, [.agg [vs x0.P.Name, d1, d3, d7, d6, c8, d8, d4, d0, vi x0.Call.Action, c2, c5, c3, c4, c6, e5]]⟩] := e7
   refine nR (ab (bf rfl) (ab (cg (k := 0) e7 rfl rfl rfl) (ab (bf rfl) (ab (cg (k := 0) e7 rfl rfl rfl) (ab (bf rfl) (ab (cg (k := 0) e7 rfl rfl rfl) (ab (bf rfl) (ab (cg (k := 0) e7 rfl rfl (mk1 (TR.agg (tSl (tSl dm)) r2))) ?_))))))))
   obtain ⟨h6, j6, s⟩ := bn s
   obtain ⟨t2, g5, q7, m5, h0⟩ := cd6  (show ae.t.R x0.P (.agg [vs x0.P.Name, a1, a8, a6, a4, a0, a3, a2, a7]) from ⟨a1, a8, a6, a4, a0, a3, a2, a7, rfl, b9, b8, b7, b5, c0, b4, b6, c1⟩) (show bt.t.R x0.Call (.agg [vi x0.Call.Action, a5]) from ⟨a5, rfl, b3⟩) (show av.t.R x1 (.agg [a9, b1, b0, b2]) from ⟨a9, b1, b0, b2, rfl, c9, d2, c7, d5⟩) r2 (by assumption) (by assumption)
   rw [j6] at m5 h0
   refine cL q7 rfl rfl (ai (TR.clo ae.t (show ae.t.R x0.P (.agg [vs x0.P.Name, a1, a8, a6, a4, a0, a3, a2, a7]) from ⟨a1, a8, a6, a4, a0, a3, a2, a7, rfl, b9, b8, b7, b5, c0, b4, b6, c1⟩)) (ai (TR.clo bt.t (show bt.t.R x0.Call (.agg [vi x0.Call.Action, a5]) from ⟨a5, rfl, b3⟩)) (ai (TR.clo av.t (show av.t.R x1 (.agg [a9, b1, b0, b2]) from ⟨a9, b1, b0, b2, rfl, c9, d2, c7, d5⟩)) (ai (TR.clo (tSl (tSl dm)) r2) bg)))) (mV rfl (xT rfl rfl (xT rfl rfl (ab (bf rfl) ?_))))
   obtain ⟨e3, e1, d9, e2, n4, f0, g0, f7, e8⟩ := m5
   subst n4
   refine ip (k := 0) (v := .agg [e3, e1, d9, e2]) e7 rfl rfl rfl rfl rfl (by ((simp only [List.length_cons, List.length_nil]; omega))) (fun q3 i2 => ?_)
   replace i2 : Mem q3 [⟨.op g8 h1 0, 82, 16, [.agg [vs x0.P.Name, a1, a8, a6, a4, a0, a3, a2, a7, vi x0.Call.Action, a5, e3, e1, d9, e2, v2]]⟩, ⟨.op g9 g7 0, 82, 16, [.agg [vs x0.P.Name, d1, d3, d7, d6, c8, d8, d4, d0, vi x0.Call.Action, c2, c5, c3, c4, c6, e5]]⟩] := i2
   refine ab (bf rfl) ?_
   refine ip (k := 0) (v := g5) i2 rfl rfl rfl (my (TR.cnt (tSl (tSl dm)) h0) (TR.agg (tSl (tSl dm)) h0)) rfl (by ((simp only [List.length_cons, List.length_nil]; omega))) (fun o1 h8 => ?_)
   replace h8 : Mem o1 [⟨.op g8 h1 0, 82, 16, [.agg [vs x0.P.Name, a1, a8, a6, a4, a0, a3, a2, a7, vi x0.Call.Action, a5, e3, e1, d9, e2, g5]]⟩, ⟨.op g9 g7 0, 82, 16, [.agg [vs x0.P.Name, d1, d3, d7, d6, c8, d8, d4, d0, vi x0.Call.Action, c2, c5, c3, c4, c6, e5]]⟩] := h8
   refine nR (ab (iw (k := 1) h8 rfl rfl rfl) (ab (iw (k := 0) h8 rfl rfl rfl) (mV rfl (mV rfl (mV rfl ?_)))))
   obtain ⟨k0, k7, s⟩ := bn s
   have k8 := ba4  (show az.t.R ({ P := x0.P, Call := x0.Call, E := h7.1, Regs := h7.2 } : az) (.agg [vs x0.P.Name, d1, d3, d7, d6, c8, d8, d4, d0, vi x0.Call.Action, c2, c5, c3, c4, c6, e5]) from ⟨d1, d3, d7, d6, c8, d8, d4, d0, c2, c5, c3, c4, c6, e5, rfl, f6, f3, f9, f4, f1, e9, g1, f8, e6, g3, f5, g2, f2, h2⟩) (show az.t.R ({ P := x0.P, Call := x0.Call, E := h6.1, Regs := h6.2 } : az) (.agg [vs x0.P.Name, a1, a8, a6, a4, a0, a3, a2, a7, vi x0.Call.Action, a5, e3, e1, d9, e2, g5]) from ⟨a1, a8, a6, a4, a0, a3, a2, a7, a5, e3, e1, d9, e2, g5, rfl, b9, b8, b7, b5, c0, b4, b6, c1, b3, f0, g0, f7, e8, h0⟩) h5 h3 g6 
   rw [k7] at k8
   refine cL k8 rfl rfl (ai (TR.clo az.t (show az.t.R ({ P := x0.P, Call := x0.Call, E := h7.1, Regs := h7.2 } : az) (.agg [vs x0.P.Name, d1, d3, d7, d6, c8, d8, d4, d0, vi x0.Call.Action, c2, c5, c3, c4, c6, e5]) from ⟨d1, d3, d7, d6, c8, d8, d4, d0, c2, c5, c3, c4, c6, e5, rfl, f6, f3, f9, f4, f1, e9, g1, f8, e6, g3, f5, g2, f2, h2⟩)) (ai (TR.clo az.t (show az.t.R ({ P := x0.P, Call := x0.Call, E := h6.1, Regs := h6.2 } : az) (.agg [vs x0.P.Name, a1, a8, a6, a4, a0, a3, a2, a7, vi x0.Call.Action, a5, e3, e1, d9, e2, g5]) from ⟨a1, a8, a6, a4, a0, a3, a2, a7, a5, e3, e1, d9, e2, g5, rfl, b9, b8, b7, b5, c0, b4, b6, c1, b3, f0, g0, f7, e8, h0⟩)) (ai (TR.clo (tSl aa.t) h5) (ai (TR.clo (tSl tI) h3) (ai (TR.clo (tSl tI) g6) bg))))) (mV rfl ?_)
   refine cn 2 (d := 116) (v := vb (k0 && (qs))) ?_ ?_
   ·intro S Q r
    cases l9 : k0
    ·exact gN 1 rfl rfl rfl rfl rfl rfl
    ·intro k
     have j0 := l9
     try simp only [qa] at j0
     have n2 := ba5   
     refine mb rfl rfl (si rfl rfl bg n2) ?_
     exact gK rfl rfl rfl rfl rfl k
   refine mV rfl (nS ?_)
   exact rR s rfl rfl rfl

end Go.Proofs.YtmonnlkagniolaaGreat
