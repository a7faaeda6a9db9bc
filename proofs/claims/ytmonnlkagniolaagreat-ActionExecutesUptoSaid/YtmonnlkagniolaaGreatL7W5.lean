/-
 The code of each function does what its plain program says.
-/
import Derived.Test.YtmonnlkagniolaaGreatL7W4
set_option linter.unusedVariables false
set_option linter.unusedSimpArgs false
set_option maxRecDepth 100000
namespace Go.Proofs.YtmonnlkagniolaaGreat
open Go Go.Pb Go.RowKit
def RF228 (res : (BitVec 32)) (r : PV) : Prop := r = bd res
theorem cp4 {x0 : List aa} {x1 : aj} {x2 : ai} {x3 : List (BitVec 32)} {v0 v1 v2 v3 : PV} (r0 : (tSl aa.t).R x0 v0) (r1 : aj.t.R x1 v1) (r2 : ai.t.R x2 v2) (r3 : (tSl dg).R x3 v3) : FnR Tryz.prog 228 [v0, v1, v2, v3] (bd (qc x0 x1 x2 x3)) := by
 refine fnS (R := RF228) bf1 (fun _ h => h) rfl fun res s => ?_
 unfold qc at s
 refine sR (ae (cz rfl (TR.cnt aj.t r1)) (ae (cz rfl (TR.cnt ai.t r2)) (ae (v := bd 0#32) (ax rfl) (nS (au (sR (mV rfl (lD r1 rfl rfl rfl ?_))))))))
 obtain ⟨e9, d3, s⟩ := bn s
 have d7 := am6  r0 r1 
 rw [d3] at d7
 refine cL d7 rfl rfl (ab (TR.clo (tSl aa.t) r0) (ab (TR.clo aj.t r1) ay)) (mV rfl (xT rfl rfl (xT rfl rfl (mV rfl (mV rfl (nR (mV rfl (bN kg rfl rfl ?_))))))))
 refine nS ?_
 refine bt s rfl ?_ ?_ <;> clear s <;> intro c s <;> try simp only [qa] at c
 ·refine sR (ae (v := bd 0#32) (ax rfl) (nS ?_))
  exact rR s rfl rfl rfl
 ·refine ba (aq (sR (lD r1 rfl rfl rfl (lD r2 rfl rfl rfl (mV rfl (mV rfl ?_))))))
  obtain ⟨b1, a9, a0, a4, a5, a6, a1, a7, a3, e2, c8, c7, b7, c1, b6, b5, c9, c6, b8⟩ := r1
  subst e2
  obtain ⟨b2, a8, a2, b0, e5, c4, b4, b9, c5⟩ := r2
  subst e5
  refine ae (v := .agg [vs x1.Program.Name, b1, a9, a0, a4, a5, a6, a1, a7, a3, b2, a8, a2, b0, v3, v0, vi 0]) (eg (cs := [vs x1.Program.Name, b1, a9, a0, a4, a5, a6, a1, a7, a3, b2, a8, a2, b0, v3, v0, vi 0]) rfl (by simp only [buildV, og (TR.cnt (tSl dg) r3) (TR.agg (tSl dg) r3), og (TR.cnt (tSl aa.t) r0) (TR.agg (tSl aa.t) r0)]; rfl)) ?_
  refine di (x := .agg [vs [], nilS, nilS, nilS, nilS, nilS, nilS, nilS, nilS, nilS, nilS, nilS, nilS, nilS, nilS, nilS, vi 0]) (Mem.nil ⟨0, []⟩) rfl rfl (fun d5 d6 f2 e4 => ?_)
  refine ci (k := 0) (v := .agg [vs x1.Program.Name, b1, a9, a0, a4, a5, a6, a1, a7, a3, b2, a8, a2, b0, v3, v0, vi 0]) e4 rfl rfl rfl rfl (fun d2 d1 => ?_)
  replace d1 : Mem d2 [⟨.op d5 d6 0, 299, 17, [.agg [vs x1.Program.Name, b1, a9, a0, a4, a5, a6, a1, a7, a3, b2, a8, a2, b0, v3, v0, vi 0]]⟩] := d1
  refine nS (au (gc ?_))
  have e0 : Mem d2 [⟨.op d5 d6 0, 299, 17, [.agg [vs x1.Program.Name, b1, a9, a0, a4, a5, a6, a1, a7, a3, b2, a8, a2, b0, v3, v0, vi 0]]⟩] := (Mem.front (k := 0) d1 rfl)
  obtain ⟨f0, d4, s⟩ := bn s
  obtain ⟨e6, e7, d8, d0⟩ := cz2 (x0 := ({ scope := x1, env := x2, args := x3, nodes := x0, next := 0 } : bg)) (show bg.t.R ({ scope := x1, env := x2, args := x3, nodes := x0, next := 0 } : bg) (.agg [vs x1.Program.Name, b1, a9, a0, a4, a5, a6, a1, a7, a3, b2, a8, a2, b0, v3, v0, vi 0]) from ⟨b1, a9, a0, a4, a5, a6, a1, a7, a3, b2, a8, a2, b0, v3, v0, rfl, c8, c7, b7, c1, b6, b5, c9, c6, b8, c4, b4, b9, c5, r3, r0⟩) e0 (by exact ev0 (by assumption) (by assumption) _ _)
  rw [d4] at d0
  obtain ⟨e1, e8, f1, d9, b3, e3⟩ := d0
  replace b3 := b3.symm; subst b3
  refine iw rfl rfl d8 (db (ae (yy rfl (am.g_v e3)) (da (db (mV rfl (da (mc (aq ?_))))))))
  exact rR s rfl rfl rfl

def RF189 (res : (BitVec 32)) (r : PV) : Prop := r = bd res
theorem ad4 {x0 : bf} {x1 : List aa} {v0 v1 : PV} (r0 : bf.t.R x0 v0) (r1 : (tSl aa.t).R x1 v1) : FnR Tryz.prog 189 [.fp v0, v1] (bd (iz x0 x1)) := by
 refine fnS (R := RF189) bk1 (fun _ h => h) rfl fun res s => ?_
 unfold iz at s
 refine sR (ae (v := bd 0#32) (ax rfl) (nR (mV rfl (mV rfl (ae (dp rfl rfl) ?_)))))
 obtain ⟨b1, a5, a2⟩ := bf.g_scope r0
 refine fA rfl a5 (lD a2 rfl rfl rfl (mV rfl (ae (dp rfl rfl) ?_)))
 obtain ⟨a8, a7, a1⟩ := bf.g_env r0
 refine fA rfl a7 (lD a1 rfl rfl rfl (mV rfl (ae (dp rfl rfl) ?_)))
 obtain ⟨a9, a6, a0⟩ := bf.g_args r0
 refine fA rfl a6 (lD a0 rfl rfl rfl ?_)
 obtain ⟨b0, a3, s⟩ := bn s
 have a4 := cp4  r1 a2 a1 a0 
 rw [a3] at a4
 refine cL a4 rfl rfl (ab (TR.clo (tSl aa.t) r1) (ab (TR.clo aj.t a2) (ab (TR.clo ai.t a1) (ab (TR.clo (tSl dg) a0) ay)))) (mV rfl (nS ?_))
 exact rR s rfl rfl rfl

def RF118 (i0_ w0_ : Nat) (R_ : List Ent) (res : bf) (r : PV) (h : Heap) : Prop := ∃ uF0 : PV, Mem h (⟨.op i0_ w0_ 0, 171, 16, [uF0]⟩ :: R_) ∧ (bf.t.R res uF0) ∧ r = .tup []
theorem cm7 {x0 : bf} {x1 : av} {v1 g6 : PV} {R_ : List Ent} {h_ : Heap} {d6 d7 : Nat} (r1 : av.t.R x1 v1) (b5 : bf.t.R x0 g6) (M_ : Mem h_ (⟨.op d6 d7 0, 171, 16, [g6]⟩ :: R_)) (hE : EB x0.env) : ∃ r g7, FnX Tryz.prog 118 [.op d6 d7 0, v1] h_ r g7 ∧ RF118 d6 d7 R_ (jw x0 x1) r g7 := by
 refine fnXX (R := RF118 d6 d7 R_) bb2 rfl fun res s => ?_
 unfold jw at s
 refine sR (ae (cz rfl (TR.cnt av.t r1)) (nS (bb (mV rfl (mV rfl (ae (dp rfl rfl) (ae (bv rfl) (ae (bv rfl) ?_))))))))
 obtain ⟨h0, f9, g3⟩ := bf.g_scope b5
 obtain ⟨h2, f8, e8⟩ := aj.g_Program g3
 refine ae (cq (k := 0) M_ rfl rfl (nq f9 f8)) (mV rfl (ae (dp rfl rfl) (ae (bv rfl) ?_)))
 obtain ⟨g9, g2, e6⟩ := bf.g_env b5
 refine ae (cq (k := 0) M_ rfl rfl g2) (gL (av.g_Dst r1) rfl rfl rfl fun g8 f0 => (mV rfl ?_))
 obtain ⟨h1, g0, d5⟩ := av.g_Value r1
 refine fA rfl g0 (lD d5 rfl rfl rfl ?_)
 have g4 := ad1 (P := Tryz.prog) (k := 0) M_ rfl (TR.clo bf.t b5)
 obtain ⟨f5, e0, s⟩ := bn s
 have e5 := ad4  b5 d5 
 rw [e0] at e5
 refine rp (ro rfl rfl (lc g4 (lc (cd (TR.clo (tSl aa.t) d5)) tx)) e5 rfl) ?_
 obtain ⟨g5, d9, s⟩ := bn s
 obtain ⟨h3, f7, f4⟩ := bj6 (x3 := f5) e8 e6 f0 (by assumption)
 rw [d9] at f4
 refine cL f7 rfl rfl (ab (TR.clo af.t e8) (ab (TR.clo ai.t e6) (ab (TR.clo ak.t f0) (ab rfl ay)))) (ae (dp rfl rfl) (ae (bv rfl) ?_))
 obtain ⟨b1, a7, a9, a8, b2, b0, a6, b3, b4, a0, e3, e1, f1, f3, a1, f6, d3, b9, d2, c4, d0, c8, c9, b8, c1, b7, e9, f2, e2, e7, b6⟩ := b5
 subst f6
 obtain ⟨a2, a5, a3, a4, g1, c5, c7, c6, d1⟩ := f4
 subst g1
 refine mg (k := 0) (v := .agg [a2, a5, a3, a4]) M_ rfl rfl rfl rfl rfl (by ((simp only [List.length_cons, List.length_nil]; omega))) (fun d8 d4 => ?_)
 replace d4 : Mem d8 (⟨.op d6 d7 0, 171, 16, [.agg [vs x0.scope.Program.Name, b1, a7, a9, a8, b2, b0, a6, b3, b4, a0, a2, a5, a3, a4, a1]]⟩ :: R_) := d4
 refine cf ?_
 have e4 : Mem d8 (⟨.op d6 d7 0, 171, 16, [.agg [vs x0.scope.Program.Name, b1, a7, a9, a8, b2, b0, a6, b3, b4, a0, a2, a5, a3, a4, a1]]⟩ :: R_) := (Mem.front (k := 0) d4 rfl)
 subst s
 exact yt .nil ⟨(.agg [vs x0.scope.Program.Name, b1, a7, a9, a8, b2, b0, a6, b3, b4, a0, a2, a5, a3, a4, a1]), Mem.sub e4 (.cons_cons _ (List.Sublist.refl R_)), (show bf.t.R ({ scope := x0.scope, args := x0.args, env := g5, regs := x0.regs } : bf) (.agg [vs x0.scope.Program.Name, b1, a7, a9, a8, b2, b0, a6, b3, b4, a0, a2, a5, a3, a4, a1]) from ⟨b1, a7, a9, a8, b2, b0, a6, b3, b4, a0, a2, a5, a3, a4, a1, rfl, d3, b9, d2, c4, d0, c8, c9, b8, c1, b7, c5, c7, c6, d1, b6⟩), rfl⟩

def RF274 (res : Bool) (r : PV) : Prop := r = vb res
theorem cf5 {x0 : List cm} {x1 : Int} {v0 : PV} (r0 : (tSl cm.t).R x0 v0) : FnR Tryz.prog 274 [v0, vi x1] (vb (ir x0 x1)) := by
 refine fnS (R := RF274) bg3 (fun _ h => h) rfl fun res s => ?_
 unfold ir at s
 refine sR (mB rfl (nR (mV rfl (bN ja rfl rfl (mV rfl ?_)))))
 refine bw 5 (d := 12) (v := vb ((decide (0 ≤ x1)) && (decide (x1 < (x0.length : Int))))) ?_ ?_
 ·intro S Q r
  cases a1 : (decide (0 ≤ x1))
  ·exact gN 4 rfl rfl rfl rfl rfl rfl
  ·intro k
   have a0 := a1
   try simp only [qa] at a0
   refine ah rfl rfl (ax rfl) (ah rfl rfl (ax rfl) (ah rfl rfl (cy rfl (co r0 Tryz.underlying22 _)) (ah rfl rfl (bp rfl rfl ct) ?_)))
   exact gK rfl rfl rfl rfl rfl k
 refine mV rfl (nS ?_)
 exact rR s rfl rfl rfl

def RF275 (res : Bool) (r : PV) : Prop := r = vb res
theorem cx2 {x0 : List Bool} {x1 : Int} {v0 : PV} (r0 : (tSl tB).R x0 v0) : FnR Tryz.prog 275 [v0, vi x1] (vb (ln x0 x1)) := by
 refine fnS (R := RF275) bd5 (fun _ h => h) rfl fun res s => ?_
 unfold ln at s
 refine sR (mB rfl (nR (mV rfl (bN ja rfl rfl (mV rfl ?_)))))
 refine bw 5 (d := 12) (v := vb ((decide (0 ≤ x1)) && (decide (x1 < (x0.length : Int))))) ?_ ?_
 ·intro S Q r
  cases a1 : (decide (0 ≤ x1))
  ·exact gN 4 rfl rfl rfl rfl rfl rfl
  ·intro k
   have a0 := a1
   try simp only [qa] at a0
   refine ah rfl rfl (ax rfl) (ah rfl rfl (ax rfl) (ah rfl rfl (cy rfl (co r0 Tryz.underlying41 _)) (ah rfl rfl (bp rfl rfl ct) ?_)))
   exact gK rfl rfl rfl rfl rfl k
 refine mV rfl (nS ?_)
 exact rR s rfl rfl rfl

theorem cy3 {P : Program} {S : List Fr} {Q : Post} {E : TEnv} {h : Heap} {L : List Ent} {k : Nat} {ty : TypeId} {v zz : PV} {es : List PV} {z : Value} {x : Operand} {r : List AOper} {hf : Bool} (M : Mem h L) (ex : evE E x = some v) (hk : L[k]? = some ⟨v, ty, 1, es⟩) (hne : isL v = true) (hw : Wri v es) (hz : z.cells.toList.map PV.sc = [zz]) (hzc : zz.cellsOf = some [zz]) (hzn : cnt zz = some 1)
  (K : ∀ h', Mem h' (L.set k ⟨v, ty, 1, List.replicate es.length zz⟩) → RD P r S Q E h') : RD P (⟨none, .clr 1 z x, none, hf⟩ :: r) S Q E h := by
 obtain ⟨h', lv, M'⟩ := cn0 (P := P) M ex hk hne hw hz hzc hzn
 exact zn lv (K h' M')
theorem bx6 {l : List Bool} {i : Int} (h : ln l i = true) : 0 ≤ i ∧ i < l.length := by
 unfold ln at h
 simpa using h
theorem bj4 {x0 : af} {x1 : ai} {x2 : Int} {x3 x4 : Bool} {v0 v1 : PV} (r0 : af.t.R x0 v0) (r1 : ai.t.R x1 v1) (hE : EB x1) : ∃ r, FnR Tryz.prog 229 [v0, v1, vi x2, vb x3, vb x4] r ∧ ai.t.R (ju x0 x1 x2 x3 x4) r := by
 refine fnE bd1 (by simp) ?_
 refine au (bb ?_)
 refine ae (cz rfl (TR.cnt af.t r0)) (ae (cz rfl (TR.cnt ai.t r1)) ?_)
 refine di (x := .agg [nilS, nilS, nilS, nilS]) (Mem.nil _) rfl rfl (fun i8 w8 h8 M8 => ?_)
 refine cf (aq (au (gc ?_)))
 refine db (ae (bq rfl (TR.cnt ai.t r1) (TR.agg ai.t r1)) (da ?_))
 obtain ⟨rr, k, X, a, b, c, d, eb, ef, em, ep, I, rfl, H⟩ := af7 r1 hE M8
 refine iw rfl rfl X ?_
 refine db (di (x := .agg [nilS, nilS, nilS, nilS]) H.M rfl rfl (fun i9 w9 h9 M9 => da ?_))
 refine db (ci (k := 0) (v := .agg [a, b, c, d]) M9 rfl rfl rfl rfl (fun a3 a0 => da (mc ?_)))
 replace H := H.push (g := ⟨.op i9 w9 0, 46, 4, [.agg [a, b, c, d]]⟩) a0
 clear M8 M9 a0 X
 obtain ⟨d0, a2, s0⟩ := sf (P := Tryz.prog) (t := tB) H.M (k := 0) rfl H.na H.v (by have := hE.v; omega)
 have g0 : fieldR 0 1 false (.agg [a, b, c, d]) = some a := mk1 (gx H.M (k := 0) rfl H.na).2
 have g1 : fieldR 1 1 false (.agg [a, b, c, d]) = some b := mk1 (gx H.M (k := 1) rfl H.nb).2
 have Mp := H.pull
 refine aq (au (au (bb ?_)))
 refine gL (af.g_Headers r0) rfl rfl rfl (fun vh rh => mV rfl ?_)
 refine cL (cf5 (x1 := x2) rh) rfl rfl (ab (TR.clo _ rh) (ab rfl ay)) ?_
 refine ae (gv rfl) (mV rfl ?_)
 refine bw 6 (d := 25) (v := vb (!ir x0.Headers x2 || !ln x1.Valid x2)) ?_ ?_
 ·intro S Q r
  cases hb : ir x0.Headers x2
  ·exact gN 5 rfl rfl rfl rfl rfl rfl
  ·intro k
   refine ah rfl rfl (bv rfl) (ah rfl rfl (cq (k := 0) Mp rfl rfl g0) (ah rfl rfl (ax rfl) ?_))
   refine jm rfl rfl (ro rfl rfl (lc a2 (lc (cd rfl) tx)) (cx2 (x1 := x2) s0) rfl) (ah rfl rfl (gv rfl) ?_)
   exact gK rfl rfl rfl rfl rfl k
 refine mV rfl ?_
 refine bw 11 (d := 37) (v := vb ((!ir x0.Headers x2 || !ln x1.Valid x2) || (x4 && decide (ix x1.Valid x2 = x3)))) ?_ ?_
 ·intro S Q r
  cases a1 : (!ir x0.Headers x2 || !ln x1.Valid x2)
  ·intro k
   simp only [Bool.or_eq_false_iff, Bool.not_eq_false'] at a1
   have hi := bx6 a1.2
   refine ah rfl rfl (ax rfl) (ah rfl rfl (ax rfl) ?_)
   cases x4
   ·refine skips 7 rfl (ah rfl rfl (ob rfl rfl rfl rfl) ?_)
    exact gK rfl rfl rfl rfl rfl k
   ·obtain ⟨xx, he, rx⟩ := bl6 (i := x2) H.v hi.1 hi.2
    have rx : xx = vb (ix x1.Valid x2) := rx
    subst rx
    obtain ⟨id, ver, n, rfl⟩ := ut H.wa H.v hi.1 hi.2
    have hn := oi H.M (k := 0) rfl
    have hl := H.v.length
    refine ah rfl rfl (bv rfl) (ah rfl rfl (cq (k := 0) Mp rfl rfl g0) (ah rfl rfl (ax rfl) ?_))
    refine ah rfl rfl (bh rfl rfl (qs 1 (i := x2) hi.1 (by omega))) (ah rfl rfl (vd (k := 1) Mp rfl rfl he rfl) (ah rfl rfl (ax rfl) ?_))
    refine ah rfl rfl (bp rfl rfl (av3 (by rw [Tryz.underlying4]; rfl))) (ah rfl rfl (ob rfl rfl rfl rfl) ?_)
    exact gK rfl rfl rfl rfl rfl k
  ·exact gN 10 rfl rfl rfl rfl rfl rfl
 refine cf (aq (au (cw rfl (fun hc => ?_) fun hc => ?_)))
 ·have hs : ju x0 x1 x2 x3 x4 = x1 := by unfold ju; rw [if_pos hc]
  rw [hs]
  exact qj H hE rfl rfl rfl
 ·have hs : ju x0 x1 x2 x3 x4 = swE x1 x2 x3 := by unfold ju; rw [if_neg (by rw [hc]; simp)]
  rw [hs]
  simp only [Bool.or_eq_false_iff, Bool.not_eq_false'] at hc
  have hi := bx6 hc.1.2
  obtain ⟨id, ver, n, rfl⟩ := ut H.wa H.v hi.1 hi.2
  have hn := oi H.M (k := 0) rfl
  have hl := H.v.length
  refine ba (aq (au (bb ?_)))
  refine ae (bv rfl) (ae (cq (k := 0) Mp rfl rfl g0) (mV rfl (mV rfl ?_)))
  refine ae (bh rfl rfl (qs 1 (i := x2) hi.1 (by omega))) ?_
  refine rq (k := 0) (i := x2.toNat) H.M rfl rfl rfl (by omega) rfl (fun h' M' => ?_)
  replace H := H.setV M' ⟨_, _, _, rfl⟩
  replace hE := hE.setV (k := x2.toNat) (v := x3)
  clear M' Mp
  have Mp := H.pull
  refine cf (aq (au (gc ?_)))
  refine db (ae (bv rfl) (da (db (ae (cq (k := 0) Mp rfl rfl g1) (da (db (ae (ax rfl) (da ?_))))))))
  refine iw rfl rfl (dc6 H.M (k := 1) rfl H.nb H.wb H.aggs (i := x2)) ?_
  have hlf := H.f.len.1
  by_cases hf : x2 < (ef.length : Int)
  ·obtain ⟨v, es, e1, e2, e3, e4, e5, e6, e7⟩ := H.inner (i := x2) hi.1 (by omega)
   have ev : (if 0 ≤ x2 ∧ x2 < (ef.length : Int) then ef.getD x2.toNat nilS else nilS) = v := by rw [if_pos ⟨hi.1, hf⟩, List.getD_eq_getElem?_getD, e1]; rfl
   rw [ev]
   refine db (cy3 (zz := bd 0#32) H.M rfl e3 e5 e7 rfl rfl rfl (fun h2 M2 => da (mc ?_)))
   exact aq (qj (H.clrF e1 e2 e4 e5 e6 e7 M2) (hE.setF (by rw [List.length_replicate]; exact hE.i _ (xz hi.1 (by omega)))) rfl rfl rfl)
  ·have ev : (if 0 ≤ x2 ∧ x2 < (ef.length : Int) then ef.getD x2.toNat nilS else nilS) = nilS := if_neg (by omega)
   rw [ev]
   refine db (zn (v := .tup []) (h' := h') ⟨rfl, fun T hT => by simp only [opL, ej hT (show evE ((47, nilS) :: _) (.tmp 47) = some nilS from rfl)]⟩ (da (mc ?_)))
   have es : swE x1 x2 x3 = { x1 with Valid := x1.Valid.set x2.toNat x3 } := by
    have : x1.Fields.set x2.toNat (List.replicate (ix x1.Fields x2).length 0#32) = x1.Fields := List.set_eq_of_length_le (by have hlf : ef.length = x1.Fields.length := hlf; omega)
    unfold swE
    rw [this]
   rw [es]
   exact aq (qj H hE rfl rfl rfl)

def RF190 (res : ai) (r : PV) : Prop := ai.t.R res r
theorem ci0 {x0 : af} {x1 : ai} {x2 : Int} {v0 v1 : PV} (r0 : af.t.R x0 v0) (r1 : ai.t.R x1 v1) (hE : EB x1) : ∃ r, FnR Tryz.prog 190 [v0, v1, vi x2] r ∧ ai.t.R (pu x0 x1 x2) r := by
 refine fnT (R := RF190) bf4 rfl fun res s => ?_
 unfold pu at s
 refine sR (ae (cz rfl (TR.cnt af.t r0)) (ae (cz rfl (TR.cnt ai.t r1)) ?_))
 refine di (x := .agg [nilS, nilS, nilS, nilS]) (Mem.nil ⟨0, []⟩) rfl rfl (fun a4 a7 b0 a6 => ?_)
 refine nR (lD r0 rfl rfl rfl (lD r1 rfl rfl rfl (mV rfl ?_)))
 obtain ⟨a9, a3, s⟩ := bn s
 obtain ⟨a2, a5, a0⟩ := bj4 (x2 := x2) (x3 := true) (x4 := true) r0 r1 (by assumption)
 rw [a3] at a0
 refine cL a5 rfl rfl (ab (TR.clo af.t r0) (ab (TR.clo ai.t r1) (ab rfl (ab rfl (ab rfl ay))))) ?_
 refine ci (k := 0) (v := a2) a6 rfl rfl rfl (TR.cnt ai.t a0) (fun a8 a1 => ?_)
 replace a1 : Mem a8 [⟨.op a4 a7 0, 46, 4, [a2]⟩] := a1
 refine nS ?_
 subst s
 exact dw (.cell rfl (cv (k := 0) a1 rfl (TR.agg ai.t a0)) .nil) (cd (TR.clo ai.t a0)) a0

def RF119 (i0_ w0_ : Nat) (R_ : List Ent) (res : bf) (r : PV) (h : Heap) : Prop := ∃ uF0 : PV, Mem h (⟨.op i0_ w0_ 0, 171, 16, [uF0]⟩ :: R_) ∧ (bf.t.R res uF0) ∧ r = .tup []
theorem cx6 {x0 : bf} {x1 : av} {v1 f9 : PV} {R_ : List Ent} {h_ : Heap} {d6 d5 : Nat} (r1 : av.t.R x1 v1) (d3 : bf.t.R x0 f9) (M_ : Mem h_ (⟨.op d6 d5 0, 171, 16, [f9]⟩ :: R_)) (hE : EB x0.env) : ∃ r g0, FnX Tryz.prog 119 [.op d6 d5 0, v1] h_ r g0 ∧ RF119 d6 d5 R_ (jh x0 x1) r g0 := by
 refine fnXX (R := RF119 d6 d5 R_) be6 rfl fun res s => ?_
 unfold jh at s
 refine sR (ae (cz rfl (TR.cnt av.t r1)) (nS (bb (mV rfl (mV rfl (ae (dp rfl rfl) (ae (bv rfl) (ae (bv rfl) ?_))))))))
 obtain ⟨g4, f3, f6⟩ := bf.g_scope d3
 obtain ⟨g2, f8, e3⟩ := aj.g_Program f6
 refine ae (cq (k := 0) M_ rfl rfl (nq f3 f8)) (mV rfl (ae (dp rfl rfl) (ae (bv rfl) ?_)))
 obtain ⟨g3, f4, d7⟩ := bf.g_env d3
 refine ae (cq (k := 0) M_ rfl rfl f4) (fL rfl (av.g_Header r1) rfl rfl ?_)
 obtain ⟨f5, d8, s⟩ := bn s
 obtain ⟨g1, f1, e0⟩ := ci0 (x2 := x1.Header) e3 d7 (by assumption)
 rw [d8] at e0
 refine cL f1 rfl rfl (ab (TR.clo af.t e3) (ab (TR.clo ai.t d7) (ab rfl ay))) (ae (dp rfl rfl) (ae (bv rfl) ?_))
 obtain ⟨a7, a9, b0, b3, b1, b2, a6, b4, a8, a1, f0, e2, e9, e5, a0, f2, b7, d0, d1, d2, b9, c9, c8, c5, c7, b6, e8, e4, d9, e1, b5⟩ := d3
 subst f2
 obtain ⟨a5, a4, a2, a3, f7, c6, c1, b8, c4⟩ := e0
 subst f7
 refine mg (k := 0) (v := .agg [a5, a4, a2, a3]) M_ rfl rfl rfl rfl rfl (by ((simp only [List.length_cons, List.length_nil]; omega))) (fun e6 d4 => ?_)
 replace d4 : Mem e6 (⟨.op d6 d5 0, 171, 16, [.agg [vs x0.scope.Program.Name, a7, a9, b0, b3, b1, b2, a6, b4, a8, a1, a5, a4, a2, a3, a0]]⟩ :: R_) := d4
 refine cf ?_
 have e7 : Mem e6 (⟨.op d6 d5 0, 171, 16, [.agg [vs x0.scope.Program.Name, a7, a9, b0, b3, b1, b2, a6, b4, a8, a1, a5, a4, a2, a3, a0]]⟩ :: R_) := (Mem.front (k := 0) d4 rfl)
 subst s
 exact yt .nil ⟨(.agg [vs x0.scope.Program.Name, a7, a9, b0, b3, b1, b2, a6, b4, a8, a1, a5, a4, a2, a3, a0]), Mem.sub e7 (.cons_cons _ (List.Sublist.refl R_)), (show bf.t.R ({ scope := x0.scope, args := x0.args, env := f5, regs := x0.regs } : bf) (.agg [vs x0.scope.Program.Name, a7, a9, b0, b3, b1, b2, a6, b4, a8, a1, a5, a4, a2, a3, a0]) from ⟨a7, a9, b0, b3, b1, b2, a6, b4, a8, a1, a5, a4, a2, a3, a0, rfl, b7, d0, d1, d2, b9, c9, c8, c5, c7, b6, c6, c1, b8, c4, b5⟩), rfl⟩

def RF191 (res : ai) (r : PV) : Prop := ai.t.R res r
theorem cl9 {x0 : af} {x1 : ai} {x2 : Int} {v0 v1 : PV} (r0 : af.t.R x0 v0) (r1 : ai.t.R x1 v1) (hE : EB x1) : ∃ r, FnR Tryz.prog 191 [v0, v1, vi x2] r ∧ ai.t.R (nf x0 x1 x2) r := by
 refine fnT (R := RF191) bg6 rfl fun res s => ?_
 unfold nf at s
 refine sR (ae (cz rfl (TR.cnt af.t r0)) (ae (cz rfl (TR.cnt ai.t r1)) ?_))
 refine di (x := .agg [nilS, nilS, nilS, nilS]) (Mem.nil ⟨0, []⟩) rfl rfl (fun a4 a7 b0 a6 => ?_)
 refine nR (lD r0 rfl rfl rfl (lD r1 rfl rfl rfl (mV rfl ?_)))
 obtain ⟨a9, a3, s⟩ := bn s
 obtain ⟨a2, a5, a0⟩ := bj4 (x2 := x2) (x3 := false) (x4 := false) r0 r1 (by assumption)
 rw [a3] at a0
 refine cL a5 rfl rfl (ab (TR.clo af.t r0) (ab (TR.clo ai.t r1) (ab rfl (ab rfl (ab rfl ay))))) ?_
 refine ci (k := 0) (v := a2) a6 rfl rfl rfl (TR.cnt ai.t a0) (fun a8 a1 => ?_)
 replace a1 : Mem a8 [⟨.op a4 a7 0, 46, 4, [a2]⟩] := a1
 refine nS ?_
 subst s
 exact dw (.cell rfl (cv (k := 0) a1 rfl (TR.agg ai.t a0)) .nil) (cd (TR.clo ai.t a0)) a0

def RF120 (i0_ w0_ : Nat) (R_ : List Ent) (res : bf) (r : PV) (h : Heap) : Prop := ∃ uF0 : PV, Mem h (⟨.op i0_ w0_ 0, 171, 16, [uF0]⟩ :: R_) ∧ (bf.t.R res uF0) ∧ r = .tup []
theorem ch2 {x0 : bf} {x1 : av} {v1 f9 : PV} {R_ : List Ent} {h_ : Heap} {d6 d5 : Nat} (r1 : av.t.R x1 v1) (d3 : bf.t.R x0 f9) (M_ : Mem h_ (⟨.op d6 d5 0, 171, 16, [f9]⟩ :: R_)) (hE : EB x0.env) : ∃ r g0, FnX Tryz.prog 120 [.op d6 d5 0, v1] h_ r g0 ∧ RF120 d6 d5 R_ (ig x0 x1) r g0 := by
 refine fnXX (R := RF120 d6 d5 R_) bb6 rfl fun res s => ?_
 unfold ig at s
 refine sR (ae (cz rfl (TR.cnt av.t r1)) (nS (bb (mV rfl (mV rfl (ae (dp rfl rfl) (ae (bv rfl) (ae (bv rfl) ?_))))))))
 obtain ⟨g4, f3, f6⟩ := bf.g_scope d3
 obtain ⟨g2, f8, e3⟩ := aj.g_Program f6
 refine ae (cq (k := 0) M_ rfl rfl (nq f3 f8)) (mV rfl (ae (dp rfl rfl) (ae (bv rfl) ?_)))
 obtain ⟨g3, f4, d7⟩ := bf.g_env d3
 refine ae (cq (k := 0) M_ rfl rfl f4) (fL rfl (av.g_Header r1) rfl rfl ?_)
 obtain ⟨f5, d8, s⟩ := bn s
 obtain ⟨g1, f1, e0⟩ := cl9 (x2 := x1.Header) e3 d7 (by assumption)
 rw [d8] at e0
 refine cL f1 rfl rfl (ab (TR.clo af.t e3) (ab (TR.clo ai.t d7) (ab rfl ay))) (ae (dp rfl rfl) (ae (bv rfl) ?_))
 obtain ⟨a7, a9, b0, b3, b1, b2, a6, b4, a8, a1, f0, e2, e9, e5, a0, f2, b7, d0, d1, d2, b9, c9, c8, c5, c7, b6, e8, e4, d9, e1, b5⟩ := d3
 subst f2
 obtain ⟨a5, a4, a2, a3, f7, c6, c1, b8, c4⟩ := e0
 subst f7
 refine mg (k := 0) (v := .agg [a5, a4, a2, a3]) M_ rfl rfl rfl rfl rfl (by ((simp only [List.length_cons, List.length_nil]; omega))) (fun e6 d4 => ?_)
 replace d4 : Mem e6 (⟨.op d6 d5 0, 171, 16, [.agg [vs x0.scope.Program.Name, a7, a9, b0, b3, b1, b2, a6, b4, a8, a1, a5, a4, a2, a3, a0]]⟩ :: R_) := d4
 refine cf ?_
 have e7 : Mem e6 (⟨.op d6 d5 0, 171, 16, [.agg [vs x0.scope.Program.Name, a7, a9, b0, b3, b1, b2, a6, b4, a8, a1, a5, a4, a2, a3, a0]]⟩ :: R_) := (Mem.front (k := 0) d4 rfl)
 subst s
 exact yt .nil ⟨(.agg [vs x0.scope.Program.Name, a7, a9, b0, b3, b1, b2, a6, b4, a8, a1, a5, a4, a2, a3, a0]), Mem.sub e7 (.cons_cons _ (List.Sublist.refl R_)), (show bf.t.R ({ scope := x0.scope, args := x0.args, env := f5, regs := x0.regs } : bf) (.agg [vs x0.scope.Program.Name, a7, a9, b0, b3, b1, b2, a6, b4, a8, a1, a5, a4, a2, a3, a0]) from ⟨a7, a9, b0, b3, b1, b2, a6, b4, a8, a1, a5, a4, a2, a3, a0, rfl, b7, d0, d1, d2, b9, c9, c8, c5, c7, b6, c6, c1, b8, c4, b5⟩), rfl⟩

def RF230 (res : Bool) (r : PV) : Prop := r = vb res
theorem bi2 {x0 : dq} {x1 : Int} {x2 : BitVec 32} {v0 : PV} (r0 : dq.t.R x0 v0) : FnR Tryz.prog 230 [v0, vi x1, bd x2] (vb (fb x0 x1 x2)) := by
 refine fnS (R := RF230) bk0 (fun _ h => h) rfl fun res s => ?_
 unfold fb at s
 refine sR (ae (cz rfl (TR.cnt dq.t r0)) (mB rfl (nS (au (sR (mV rfl (bN ct rfl rfl (mV rfl ?_))))))))
 refine bw 7 (d := 16) (v := vb ((decide (x1 < 0)) || (decide ((x0.p.Registers.length : Int) ≤ x1)))) ?_ ?_
 ·intro S Q r
  cases a8 : (decide (x1 < 0))
  ·intro k
   have a3 := a8
   try simp only [qa] at a3
   refine ah rfl rfl (ax rfl) ?_
   obtain ⟨c7, c4, b5⟩ := dq.g_p r0
   refine ah rfl rfl (br rfl c4) ?_
   obtain ⟨d0, b4, a0⟩ := af.g_Registers b5
   refine ah rfl rfl (br rfl b4) (ah rfl rfl (bq rfl (TR.cnt (tSl cg.t) a0) (TR.agg (tSl cg.t) a0)) (ah rfl rfl (cy rfl (co a0 Tryz.underlying24 _)) (ah rfl rfl (bp rfl rfl ja) ?_)))
   exact gK rfl rfl rfl rfl rfl k
  ·exact gN 6 rfl rfl rfl rfl rfl rfl
 refine mV rfl ?_
 refine bw 6 (d := 23) (v := vb (((decide (x1 < 0)) || (decide ((x0.p.Registers.length : Int) ≤ x1))) || (decide ((x0.cells.length : Int) ≤ x1)))) ?_ ?_
 ·intro S Q r
  cases a9 : ((decide (x1 < 0)) || (decide ((x0.p.Registers.length : Int) ≤ x1)))
  ·intro k
   have a4 := a9
   try simp only [qa] at a4
   refine ah rfl rfl (ax rfl) ?_
   obtain ⟨c5, b3, a5⟩ := dq.g_cells r0
   refine ah rfl rfl (br rfl b3) (ah rfl rfl (bq rfl (TR.cnt (tSl (tSl dg)) a5) (TR.agg (tSl (tSl dg)) a5)) (ah rfl rfl (cy rfl (co a5 Tryz.underlying42 _)) (ah rfl rfl (bp rfl rfl ja) ?_)))
   exact gK rfl rfl rfl rfl rfl k
  ·exact gN 5 rfl rfl rfl rfl rfl rfl
 refine nS ?_
 refine bt s rfl ?_ ?_ <;> clear s <;> intro c s <;> try simp only [qa] at c
 ·refine sR (mB rfl (nS ?_))
  exact rR s rfl rfl rfl
 ·refine ba (aq (sR (mV rfl (ae (gi (a := bd x2) rfl (c_wi Tryz.underlying89 Tryz.underlying3)) ?_))))
  obtain ⟨c9, b1, b8⟩ := dq.g_p r0
  refine fA rfl b1 ?_
  obtain ⟨d1, c1, b0⟩ := af.g_Registers b8
  refine fA rfl c1 (lD b0 rfl rfl rfl (mV rfl ?_))
  obtain ⟨c6, b2, b7⟩ := cr (i := x1) b0 (by omega) (by omega)
  refine ae (bh rfl rfl b2) (fL rfl (cg.g_Size b7) rfl rfl (bN ct rfl rfl (mV rfl ?_)))
  refine bw 10 (d := 44) (v := vb ((decide ((x2.toNat : Int) < ((ix x0.p.Registers x1).Size))) && (decide ((x2.toNat : Int) < ((ix x0.cells x1).length : Int))))) ?_ ?_
  ·intro S Q r
   cases a7 : (decide ((x2.toNat : Int) < ((ix x0.p.Registers x1).Size)))
   ·exact gN 9 rfl rfl rfl rfl rfl rfl
   ·intro k
    have a2 := a7
    try simp only [qa] at a2
    refine ah rfl rfl (ax rfl) (ah rfl rfl (gi (a := bd x2) rfl (c_wi Tryz.underlying89 Tryz.underlying3)) ?_)
    obtain ⟨d2, b6, a1⟩ := dq.g_cells r0
    refine ah rfl rfl (br rfl b6) (ah rfl rfl (bq rfl (TR.cnt (tSl (tSl dg)) a1) (TR.agg (tSl (tSl dg)) a1)) (ah rfl rfl (ax rfl) ?_))
    obtain ⟨c8, b9, a6⟩ := cr (i := x1) a1 (by omega) (by omega)
    refine ah rfl rfl (bh rfl rfl b9) (ah rfl rfl (bq rfl (TR.cnt (tSl dg) a6) (TR.agg (tSl dg) a6)) (ah rfl rfl (cy rfl (co a6 Tryz.underlying43 _)) (ah rfl rfl (bp rfl rfl ct) ?_)))
    exact gK rfl rfl rfl rfl rfl k
  refine mV rfl (nS ?_)
  exact rR s rfl rfl rfl

def RF192 (res : (BitVec 32)) (r : PV) : Prop := r = bd res
theorem cl3 {x0 : af} {x1 : List (List (BitVec 32))} {x2 : Int} {x3 : BitVec 32} {v0 v1 : PV} (r0 : af.t.R x0 v0) (r1 : (tSl (tSl dg)).R x1 v1) : FnR Tryz.prog 192 [v0, v1, vi x2, bd x3] (bd (pt x0 x1 x2 x3)) := by
 refine fnS (R := RF192) bc8 (fun _ h => h) rfl fun res s => ?_
 unfold pt at s
 refine sR (ae (cz rfl (TR.cnt af.t r0)) (ae (v := bd 0#32) (ax rfl) (nR (mV rfl (nS (au (sR (mV rfl ?_))))))))
 refine lD r0 rfl rfl rfl (mV rfl ?_)
 obtain ⟨a0, a1, a2, a7, a3, a6, a5, a4, b9, b2, a9, b5, b3, b0, a8, b4, b1⟩ := r0
 subst b9
 refine ae (v := .agg [vs x0.Name, a0, a1, a2, a7, a3, a6, a5, a4, v1]) (eg (cs := [vs x0.Name, a0, a1, a2, a7, a3, a6, a5, a4, v1]) rfl (by simp only [buildV, og (TR.cnt (tSl (tSl dg)) r1) (TR.agg (tSl (tSl dg)) r1)]; rfl)) (mV rfl (mV rfl ?_))
 obtain ⟨c5, b7, s⟩ := bn s
 have b8 := bi2 (x1 := x2) (x2 := x3) (show dq.t.R ({ p := x0, cells := x1 } : dq) (.agg [vs x0.Name, a0, a1, a2, a7, a3, a6, a5, a4, v1]) from ⟨a0, a1, a2, a7, a3, a6, a5, a4, v1, rfl, b2, a9, b5, b3, b0, a8, b4, b1, r1⟩) 
 rw [b7] at b8
 refine cL b8 rfl rfl (ab (TR.clo dq.t (show dq.t.R ({ p := x0, cells := x1 } : dq) (.agg [vs x0.Name, a0, a1, a2, a7, a3, a6, a5, a4, v1]) from ⟨a0, a1, a2, a7, a3, a6, a5, a4, v1, rfl, b2, a9, b5, b3, b0, a8, b4, b1, r1⟩)) (ab rfl (ab rfl ay))) (ae (gv rfl) (nS ?_))
 refine bt s rfl ?_ ?_ <;> clear s <;> intro c s <;> try simp only [qa] at c
 ·refine sR (ae (v := bd 0#32) (ax rfl) (nS ?_))
  exact rR s rfl rfl rfl
 ·refine ba (aq (sR (mV rfl (mV rfl ?_))))
  obtain ⟨c4, c1, b6⟩ := cr (i := x2) r1 (by ((have hk := ca8 (by assumption) (by assumption); try dsimp only at hk; omega))) (by ((have hk := ca8 (by assumption) (by assumption); try dsimp only at hk; omega)))
  refine ae (bh rfl rfl c1) (lD b6 rfl rfl rfl (mV rfl (ae (bh rfl rfl (dc0 (vv b6 (by omega) (by ((have hk := ca8 (by assumption) (by assumption); try dsimp only at hk; omega)))))) (lR rfl rfl rfl (mV rfl (nS ?_))))))
  exact rR s rfl rfl rfl

def RF121 (i0_ w0_ : Nat) (R_ : List Ent) (res : bf) (r : PV) (h : Heap) : Prop := ∃ uF0 : PV, Mem h (⟨.op i0_ w0_ 0, 171, 16, [uF0]⟩ :: R_) ∧ (bf.t.R res uF0) ∧ r = .tup []
theorem cs8 {x0 : bf} {x1 : av} {v1 h5 : PV} {R_ : List Ent} {h_ : Heap} {d6 d7 : Nat} (r1 : av.t.R x1 v1) (b5 : bf.t.R x0 h5) (M_ : Mem h_ (⟨.op d6 d7 0, 171, 16, [h5]⟩ :: R_)) (hE : EB x0.env) : ∃ r h6, FnX Tryz.prog 121 [.op d6 d7 0, v1] h_ r h6 ∧ RF121 d6 d7 R_ (kx x0 x1) r h6 := by
 refine fnXX (R := RF121 d6 d7 R_) bk8 rfl fun res s => ?_
 unfold kx at s
 refine sR (ae (cz rfl (TR.cnt av.t r1)) (nR (mV rfl (ae (dp rfl rfl) (ae (bv rfl) (ae (bv rfl) ?_))))))
 obtain ⟨i2, g4, g9⟩ := bf.g_scope b5
 obtain ⟨i3, g1, f4⟩ := aj.g_Program g9
 refine ae (cq (k := 0) M_ rfl rfl (nq g4 g1)) (mV rfl (ae (dp rfl rfl) (ae (bv rfl) ?_)))
 obtain ⟨i0, g8, f2⟩ := bf.g_regs b5
 refine ae (cq (k := 0) M_ rfl rfl g8) (fL rfl (av.g_Register r1) rfl rfl (mV rfl ?_))
 obtain ⟨h7, h4, d5⟩ := av.g_Index r1
 refine fA rfl h4 (lD d5 rfl rfl rfl ?_)
 have g3 := ad1 (P := Tryz.prog) (k := 0) M_ rfl (TR.clo bf.t b5)
 obtain ⟨h0, e4, s⟩ := bn s
 have e9 := ad4  b5 d5 
 rw [e4] at e9
 refine rp (ro rfl rfl (lc g3 (lc (cd (TR.clo (tSl aa.t) d5)) tx)) e9 rfl) ?_
 obtain ⟨h2, e3, s⟩ := bn s
 have e8 := cl3 (x2 := x1.Register) (x3 := h0) f4 f2 
 rw [e3] at e8
 refine cL e8 rfl rfl (ab (TR.clo af.t f4) (ab (TR.clo (tSl (tSl dg)) f2) (ab rfl (ab rfl ay)))) (mV rfl (nS (bb (mV rfl (mV rfl (ae (dp rfl rfl) (ae (bv rfl) (ae (bv rfl) ?_))))))))
 obtain ⟨i1, g6, h3⟩ := bf.g_scope b5
 obtain ⟨i4, h1, f8⟩ := aj.g_Program h3
 refine ae (cq (k := 0) M_ rfl rfl (nq g6 h1)) (mV rfl (ae (dp rfl rfl) (ae (bv rfl) ?_)))
 obtain ⟨h9, g5, e2⟩ := bf.g_env b5
 refine ae (cq (k := 0) M_ rfl rfl g5) (gL (av.g_Dst r1) rfl rfl rfl fun h8 d8 => (mV rfl ?_))
 obtain ⟨g7, e6, s⟩ := bn s
 obtain ⟨i5, g2, f5⟩ := bj6 (x3 := h2) f8 e2 d8 (by assumption)
 rw [e6] at f5
 refine cL g2 rfl rfl (ab (TR.clo af.t f8) (ab (TR.clo ai.t e2) (ab (TR.clo ak.t d8) (ab rfl ay)))) (ae (dp rfl rfl) (ae (bv rfl) ?_))
 obtain ⟨a7, b0, a6, b2, b1, a9, b4, a8, b3, a1, f1, e5, f6, f7, a0, f9, d3, c4, b8, c9, b9, c7, d0, d2, c1, b6, e7, e1, f0, e0, b7⟩ := b5
 subst f9
 obtain ⟨a5, a4, a3, a2, g0, d1, c5, c6, c8⟩ := f5
 subst g0
 refine mg (k := 0) (v := .agg [a5, a4, a3, a2]) M_ rfl rfl rfl rfl rfl (by ((simp only [List.length_cons, List.length_nil]; omega))) (fun f3 d4 => ?_)
 replace d4 : Mem f3 (⟨.op d6 d7 0, 171, 16, [.agg [vs x0.scope.Program.Name, a7, b0, a6, b2, b1, a9, b4, a8, b3, a1, a5, a4, a3, a2, a0]]⟩ :: R_) := d4
 refine cf ?_
 have d9 : Mem f3 (⟨.op d6 d7 0, 171, 16, [.agg [vs x0.scope.Program.Name, a7, b0, a6, b2, b1, a9, b4, a8, b3, a1, a5, a4, a3, a2, a0]]⟩ :: R_) := (Mem.front (k := 0) d4 rfl)
 subst s
 exact yt .nil ⟨(.agg [vs x0.scope.Program.Name, a7, b0, a6, b2, b1, a9, b4, a8, b3, a1, a5, a4, a3, a2, a0]), Mem.sub d9 (.cons_cons _ (List.Sublist.refl R_)), (show bf.t.R ({ scope := x0.scope, args := x0.args, env := g7, regs := x0.regs } : bf) (.agg [vs x0.scope.Program.Name, a7, b0, a6, b2, b1, a9, b4, a8, b3, a1, a5, a4, a3, a2, a0]) from ⟨a7, b0, a6, b2, b1, a9, b4, a8, b3, a1, a5, a4, a3, a2, a0, rfl, d3, c4, b8, c9, b9, c7, d0, d2, c1, b6, d1, c5, c6, c8, b7⟩), rfl⟩

theorem OR.inner {h : Heap} {rs : List (List (BitVec 32))} {b : PV} {ef : List PV} {I R : List Ent} (H : OR h rs b ef I R) {i : Int} (h0 : 0 ≤ i) (h1 : i < rs.length) :
  ∃ v es, ef[i.toNat]? = some v ∧ I[i.toNat]? = some ⟨v, 89, 1, es⟩ ∧ (⟨b, 43, 1, ef⟩ :: (I ++ R))[i.toNat + 1]? = some (⟨v, 89, 1, es⟩ : Ent) ∧ All2 dg.R (ix rs i) es ∧ isL v = true ∧ (ix rs i).length ≤ 4611686018427387904 ∧ Wri v es := by
 obtain ⟨v, es, g1, g2, g3, g4, g5, g6⟩ := db3 H.f h0 h1
 refine ⟨v, es, g1, g2, ?_, g3, g4, g5, g6⟩
 rw [List.getElem?_cons_succ, List.getElem?_append_left (List.getElem?_eq_some_iff.1 g2).1]
 exact g2
theorem OR.setF {h : Heap} {rs : List (List (BitVec 32))} {b : PV} {ef : List PV} {I R : List Ent} (H : OR h rs b ef I R) {h' : Heap} {x : BitVec 32} {i : Int} {k : Nat} {v : PV} {es : List PV} (g1 : ef[i.toNat]? = some v) (g2 : I[i.toNat]? = some ⟨v, 89, 1, es⟩) (g3 : All2 dg.R (ix rs i) es) (g4 : isL v = true) (g5 : (ix rs i).length ≤ 4611686018427387904)
  (M : Mem h' ((⟨b, 43, 1, ef⟩ :: (I ++ R)).set (i.toNat + 1) ⟨v, 89, 1, es.set k (bd x)⟩)) (hw : ∃ id ver n, v = .os id ver 0 n) : OR h' (rs.set i.toNat ((ix rs i).set k x)) b ef (I.set i.toNat ⟨v, 89, 1, es.set k (bd x)⟩) R := by
 refine { H with M := ?_, f := an9 H.f g1 (All2.set g3 rfl) g4 (by rw [List.length_set]; exact g5) (.inr hw) }
 rw [List.set_cons_succ] at M
 rwa [List.set_append_left _ _ (List.getElem?_eq_some_iff.1 g2).1] at M
theorem yn {S : List Fr} {E : TEnv} {h : Heap} {rs : List (List (BitVec 32))} {b : PV} {ef : List PV} {I R : List Ent} {d t r : Nat} (H : OR h rs b ef I R) (hE : RB rs) (hb : Pb.look t E = some b) : RC Tryz.prog (.seq (.region false [⟨some d, .move (.tmp t), none, false⟩, ⟨some r, .move (.tmp d), none, false⟩]) .ret) S (QR Tryz.prog [(r, none)] ((tSl (tSl dg)).R rs)) E h := by
 obtain ⟨d', hd, hr⟩ := H.deep hE
 have e1 : evE ((d, b) :: E) (.tmp d) = some b := by simp [evE, Pb.look]
 exact sR (ae (ax hb) (ae (ax e1) (nS (dw (.tmp (by simp [Pb.look]) .nil) hd hr))))
theorem cb6 {p : af} {rs : List (List (BitVec 32))} {r : Int} {i : BitVec 32} (h : fb { p := p, cells := rs } r i = true) : (0 ≤ r ∧ r < p.Registers.length) ∧ r < rs.length ∧ i.toNat < (ix rs r).length := by
 unfold fb at h
 split at h
 ·cases h
 ·rename_i hc
  simp only [Bool.or_eq_true, decide_eq_true_eq, not_or] at hc
  simp only [Bool.and_eq_true, decide_eq_true_eq] at h
  omega
theorem cg3 {x0 : af} {x1 : List (List (BitVec 32))} {x2 : Int} {x3 x4 : BitVec 32} {v0 v1 : PV} (r0 : af.t.R x0 v0) (r1 : (tSl (tSl dg)).R x1 v1) (hE : RB x1) : ∃ r, FnR Tryz.prog 193 [v0, v1, vi x2, bd x3, bd x4] r ∧ (tSl (tSl dg)).R (jn x0 x1 x2 x3 x4) r := by
 refine fnE bg8 (by simp) ?_
 refine au (bb (ae (cz rfl (TR.cnt af.t r0)) (ae (v := nilS) (ax rfl) (cf (aq (au (gc ?_)))))))
 refine db (ae (ax rfl) (da ?_))
 obtain ⟨b, k, X, ef, I, H⟩ := bg7 be9 r1 hE (Mem.nil ⟨0, []⟩)
 refine iw rfl rfl X ?_
 refine db (ae (ax rfl) (da (mc ?_)))
 refine aq (au (bb (ae (ax rfl) (cf (aq (au (au (bb ?_))))))))
 have a0 := r0
 obtain ⟨c1, c2, c3, c4, c5, c6, c7, c8, e0, p1, p2, p3, p4, p5, p6, p7, p8⟩ := a0
 have hfile : dq.t.R ({ p := x0, cells := x1 } : dq) (.agg [vs x0.Name, c1, c2, c3, c4, c5, c6, c7, c8, v1]) := ⟨c1, c2, c3, c4, c5, c6, c7, c8, v1, rfl, p1, p2, p3, p4, p5, p6, p7, p8, r1⟩
 refine ae (ax rfl) (lD r0 rfl rfl rfl (ae (ax rfl) ?_))
 refine ae (v := .agg [vs x0.Name, c1, c2, c3, c4, c5, c6, c7, c8, v1]) (eg (cs := [vs x0.Name, c1, c2, c3, c4, c5, c6, c7, c8, v1]) rfl (by rw [e0]; simp only [buildV, og (TR.cnt _ r1) (TR.agg _ r1)]; rfl)) ?_
 refine mV rfl (mV rfl ?_)
 refine cL (bi2 (x1 := x2) (x2 := x3) hfile) rfl rfl (ab (TR.clo _ hfile) (ab rfl (ab rfl ay))) (mV rfl ?_)
 refine bw 9 (d := 31) (v := vb (fb { p := x0, cells := x1 } x2 x3 && decide (0#32 < ca (ix x0.Registers x2).Width))) ?_ ?_
 ·intro S Q r
  cases hb : fb { p := x0, cells := x1 } x2 x3
  ·exact gN 8 rfl rfl rfl rfl rfl rfl
  ·intro k
   have hh := cb6 hb
   obtain ⟨w3, g3, q3⟩ := af.g_Registers r0
   refine ah rfl rfl (br rfl g3) (ah rfl rfl (bq rfl (TR.cnt _ q3) (TR.agg _ q3)) (ah rfl rfl (ax rfl) ?_))
   obtain ⟨w4, g4, q4⟩ := cr (i := x2) q3 hh.1.1 hh.1.2
   refine ah rfl rfl (bh rfl rfl g4) (ah rfl rfl (br rfl (cg.g_Width q4)) (ah rfl rfl (bq rfl rfl rfl) ?_))
   refine jm rfl rfl (qq rfl rfl (ab rfl ay) (kt (x0 := (ix x0.Registers x2).Width))) (ah rfl rfl (bp (a := bd (ca (ix x0.Registers x2).Width)) (b := bd 0#32) rfl rfl ed7) ?_)
   exact gK rfl rfl rfl rfl rfl k
 refine cf (aq (cw rfl (fun hc => ?_) fun hc => ?_))
 ·have hs : jn x0 x1 x2 x3 x4 = x1.set x2.toNat ((ix x1 x2).set x3.toNat (x4 &&& ca (ix x0.Registers x2).Width)) := by unfold jn; rw [if_pos hc]
  rw [hs]
  simp only [Bool.and_eq_true] at hc
  have hh := cb6 hc.1
  have hlen := H.f.len.1
  obtain ⟨id, ver, n, rfl⟩ := ae7 H.wb (by omega)
  have hn := oi H.M (k := 0) rfl
  obtain ⟨v, es, e1, e2, e3, e4, e5, e6, e7⟩ := H.inner hh.1.1 hh.2.1
  refine bb (ae (ax rfl) (mV rfl ?_))
  refine ae (bh rfl rfl (qs 1 (i := x2) hh.1.1 (by omega))) ?_
  refine ae (vd (k := 0) H.M rfl rfl e1 (gx H.M e3 e5).2) (mV rfl (mV rfl ?_))
  obtain ⟨w3, g3, q3⟩ := af.g_Registers r0
  refine ae (br rfl g3) (lD q3 rfl rfl rfl (mV rfl ?_))
  obtain ⟨w4, g4, q4⟩ := cr (i := x2) q3 hh.1.1 hh.1.2
  refine ae (bh rfl rfl g4) (fL rfl (cg.g_Width q4) rfl rfl ?_)
  refine cL (kt (x0 := (ix x0.Registers x2).Width)) rfl rfl (ab rfl ay) (bN qe rfl rfl ?_)
  obtain ⟨id', ver', n', rfl⟩ := ut e7 e4 (i := (x3.toNat : Int)) (by omega) (by omega)
  have hn' := oi H.M e3
  have hl := e4.length
  refine ae (bh rfl rfl (qs 1 (i := (x3.toNat : Int)) (by omega) (by omega))) ?_
  refine rq (i := x3.toNat) H.M rfl rfl e3 (by omega) rfl (fun h' M' => cf (aq ?_))
  exact yn (H.setF e1 e2 e4 e5 e6 M' ⟨_, _, _, rfl⟩) (hE.set (by rw [List.length_set]; exact hE.i _ (xz hh.1.1 hh.2.1))) rfl
 ·have hs : jn x0 x1 x2 x3 x4 = x1 := by unfold jn; rw [if_neg (by rw [hc]; simp)]
  rw [hs]
  exact ba (aq (yn H hE rfl))

def RF122 (i0_ w0_ : Nat) (R_ : List Ent) (res : bf) (r : PV) (h : Heap) : Prop := ∃ uF0 : PV, Mem h (⟨.op i0_ w0_ 0, 171, 16, [uF0]⟩ :: R_) ∧ (bf.t.R res uF0) ∧ r = .tup []
theorem cu5 {x0 : bf} {x1 : av} {v1 g2 : PV} {R_ : List Ent} {h_ : Heap} {d6 d7 : Nat} (r1 : av.t.R x1 v1) (b4 : bf.t.R x0 g2) (M_ : Mem h_ (⟨.op d6 d7 0, 171, 16, [g2]⟩ :: R_)) (hE : RB x0.regs) : ∃ r g3, FnX Tryz.prog 122 [.op d6 d7 0, v1] h_ r g3 ∧ RF122 d6 d7 R_ (km x0 x1) r g3 := by
 refine fnXX (R := RF122 d6 d7 R_) bh8 rfl fun res s => ?_
 unfold km at s
 refine sR (ae (cz rfl (TR.cnt av.t r1)) (nS (bb (mV rfl (mV rfl (ae (dp rfl rfl) (ae (bv rfl) (ae (bv rfl) ?_))))))))
 obtain ⟨g6, f3, f6⟩ := bf.g_scope b4
 obtain ⟨g7, f1, e5⟩ := aj.g_Program f6
 refine ae (cq (k := 0) M_ rfl rfl (nq f3 f1)) (mV rfl (ae (dp rfl rfl) (ae (bv rfl) ?_)))
 obtain ⟨g5, f5, e4⟩ := bf.g_regs b4
 refine ae (cq (k := 0) M_ rfl rfl f5) (fL rfl (av.g_Register r1) rfl rfl (mV rfl (gL (av.g_Index r1) rfl rfl rfl fun g4 e7 => ?_)))
 have f2 := ad1 (P := Tryz.prog) (k := 0) M_ rfl (TR.clo bf.t b4)
 obtain ⟨f7, e2, s⟩ := bn s
 have e3 := ad4  b4 e7 
 rw [e2] at e3
 refine rp (ro rfl rfl (lc f2 (lc (cd (TR.clo (tSl aa.t) e7)) tx)) e3 rfl) (mV rfl ?_)
 obtain ⟨g8, f8, d5⟩ := av.g_Value r1
 refine fA rfl f8 (lD d5 rfl rfl rfl ?_)
 have f4 := ad1 (P := Tryz.prog) (k := 0) M_ rfl (TR.clo bf.t b4)
 obtain ⟨g0, d9, s⟩ := bn s
 have e0 := ad4  b4 d5 
 rw [d9] at e0
 refine rp (ro rfl rfl (lc f4 (lc (cd (TR.clo (tSl aa.t) d5)) tx)) e0 rfl) ?_
 obtain ⟨f0, e1, s⟩ := bn s
 obtain ⟨b5, g1, c5⟩ := cg3 (x2 := x1.Register) (x3 := f7) (x4 := g0) e5 e4 (by assumption)
 rw [e1] at c5
 refine cL g1 rfl rfl (ab (TR.clo af.t e5) (ab (TR.clo (tSl (tSl dg)) e4) (ab rfl (ab rfl (ab rfl ay))))) (ae (dp rfl rfl) (ae (bv rfl) ?_))
 obtain ⟨b3, a8, a9, a5, b0, b2, b1, a6, a7, a4, a1, a3, a0, a2, d8, f9, d0, c8, d1, c7, c6, d2, d3, c4, c9, b7, c1, b8, b9, b6, e9⟩ := b4
 subst f9
 refine mg (k := 0) (v := b5) M_ rfl rfl rfl (og (TR.cnt (tSl (tSl dg)) c5) (TR.agg (tSl (tSl dg)) c5)) rfl (by ((simp only [List.length_cons, List.length_nil]; omega))) (fun e8 d4 => ?_)
 replace d4 : Mem e8 (⟨.op d6 d7 0, 171, 16, [.agg [vs x0.scope.Program.Name, b3, a8, a9, a5, b0, b2, b1, a6, a7, a4, a1, a3, a0, a2, b5]]⟩ :: R_) := d4
 refine cf ?_
 have e6 : Mem e8 (⟨.op d6 d7 0, 171, 16, [.agg [vs x0.scope.Program.Name, b3, a8, a9, a5, b0, b2, b1, a6, a7, a4, a1, a3, a0, a2, b5]]⟩ :: R_) := (Mem.front (k := 0) d4 rfl)
 subst s
 exact yt .nil ⟨(.agg [vs x0.scope.Program.Name, b3, a8, a9, a5, b0, b2, b1, a6, a7, a4, a1, a3, a0, a2, b5]), Mem.sub e6 (.cons_cons _ (List.Sublist.refl R_)), (show bf.t.R ({ scope := x0.scope, args := x0.args, env := x0.env, regs := f0 } : bf) (.agg [vs x0.scope.Program.Name, b3, a8, a9, a5, b0, b2, b1, a6, a7, a4, a1, a3, a0, a2, b5]) from ⟨b3, a8, a9, a5, b0, b2, b1, a6, a7, a4, a1, a3, a0, a2, b5, rfl, d0, c8, d1, c7, c6, d2, d3, c4, c9, b7, c1, b8, b9, b6, c5⟩), rfl⟩

def RF44 (res : ai × (List (List (BitVec 32)))) (r : PV) : Prop := ∃ c0, ∃ c1, r = .tup [c0, c1] ∧ ai.t.R res.1 c0 ∧ (tSl (tSl dg)).R res.2 c1
theorem wn {S : List Fr} {res : ai × (List (List (BitVec 32)))} {x0 : af} {x1 : bm} {x2 : ai} {x3 : List (List (BitVec 32))} {f5 : ai} {g5 : (List (List (BitVec 32)))} {e1 : Int × Int} {e5 : PV} {a8 a7 a6 a9 : Nat} (hE : EB x2) (hR : RB x3) (h9 : wy x2 = f5) (h7 : po x3 = g5) (h4 : jy x0 x1.Action = e1) (e0 : ((!decide (e1.2 = 0)) || (!decide ((ik x0 x1) = 0))) = false) (b4 : (tSl av.t).R ((ix x0.Actions x1.Action).Body) e5) {K0 : bf → (ai × (List (List (BitVec 32))))}
  (i8 : ∀ {a2 : bf} {a1 : PV} (a3 : bf.t.R a2 a1) {h : Heap} (M0 : Mem h [⟨.op a6 a9 0, 171, 16, [a1]⟩, ⟨.op a8 a7 0, 46, 4, [.agg [nilS, nilS, nilS, nilS]]⟩]), K0 a2 = res → PX Tryz.prog 0 S (QR Tryz.prog [(8, some (4, true)), (9, none)] (RF44 res)) [(8, .op a8 a7 0), (10, .op a6 a9 0)] h) :
  ∀ {m : Nat} {a0 : Int} {a2 : bf} {a1 : PV} (a3 : bf.t.R a2 a1) (h6 : m = Int.toNat ((((ix x0.Actions x1.Action).Body).length : Int) - a0)) (e3 : 0 ≤ a0) (d3 : SB a2) {h : Heap} (M0 : Mem h [⟨.op a6 a9 0, 171, 16, [a1]⟩, ⟨.op a8 a7 0, 46, 4, [.agg [nilS, nilS, nilS, nilS]]⟩]), gf x0 x1 K0 m a0 a2 = res → RC Tryz.prog (.loop cz5) S (QR Tryz.prog [(8, some (4, true)), (9, none)] (RF44 res)) [(67, vi a0), (66, vi (((ix x0.Actions x1.Action).Body).length : Int)), (65, e5), (10, .op a6 a9 0), (8, .op a8 a7 0)] h := by
 have d9 := e0
 try simp only [qa] at d9
 intro m
 induction m with
 | zero =>
  intro a0 a2 a1 a3 h6 e3 d3 h M0 s
  rw [gf] at s
  refine de (sR (bN ct rfl rfl (nS (au ?_))))
  refine cw rfl ?_ ?_ <;> intro c <;> try simp only [qa] at c
  ·omega
  refine fc (gh (dy ?_))
  exact wP (i8 a3 (Mem.sub M0 (.cons_cons _ (.cons_cons _ .slnil))) s) rfl
 | succ m ih =>
  intro a0 a2 a1 a3 h6 e3 d3 h M0 s
  rw [gf] at s
  refine de (sR (bN ct rfl rfl (nS (au ?_))))
  refine cw rfl ?_ ?_ <;> intro c <;> try simp only [qa] at c
  rotate_left
  ·omega
  refine ba (aq (au (cb (sR ?_))))
  obtain ⟨b0, f4, a5⟩ := cr (i := a0) b4 (by omega) (by omega)
  refine ae (bh rfl rfl f4) (lD a5 rfl rfl rfl ?_)
  refine di (x := .agg [vi 0, vi 0, vi 0, vi 0, vi 0, nilS, nilS]) M0 rfl rfl (fun b2 b1 i9 f7 => ?_)
  refine ci (k := 0) (v := b0) f7 rfl rfl rfl (TR.cnt av.t a5) (fun b3 a4 => ?_)
  replace a4 : Mem b3 [⟨.op b2 b1 0, 135, 7, [b0]⟩, ⟨.op a6 a9 0, 171, 16, [a1]⟩, ⟨.op a8 a7 0, 46, 4, [.agg [nilS, nilS, nilS, nilS]]⟩] := a4
  refine nR (mV rfl (nS (au (sR (ae (bv rfl) (ae (cq (k := 0) a4 rfl rfl (av.g_Kind a5)) (nS (cb ?_))))))))
  refine sR (bN dn rfl rfl (mV rfl (nS ?_)))
  refine bt s rfl ?_ ?_ <;> clear s <;> intro c s <;> try simp only [qa] at c
  ·refine bb (mV rfl (cf (dj (aq (gc (db (mV rfl (da ?_))))))))
   refine db (mV rfl (da (db (ae (fq (k := 0) a4 rfl rfl (TR.agg av.t a5)) (da ?_)))))
   have f6 : Mem b3 [⟨.op a6 a9 0, 171, 16, [a1]⟩, ⟨.op b2 b1 0, 135, 7, [b0]⟩, ⟨.op a8 a7 0, 46, 4, [.agg [nilS, nilS, nilS, nilS]]⟩] := (Mem.front (k := 1) a4 rfl)
   obtain ⟨g8, c9, s⟩ := bn s
   obtain ⟨i0, j0, e8, d8⟩ := cx6 (x0 := a2) (x1 := (ix ((ix x0.Actions x1.Action).Body) a0)) a5 a3 f6 (by exact And.left (by assumption : SB _))
   rw [c9] at d8
   obtain ⟨h1, g3, c4, b7⟩ := d8
   replace b7 := b7.symm; subst b7
   refine iw rfl rfl e8 ?_
   have i1 : SB g8 := sb2 (by assumption) c9
   refine mc (dj (aq (bb (bN fy rfl rfl (mV rfl (cf (du ?_)))))))
   have hbd := fg b4
   have u : wr (a0 + 1) = a0 + 1 := ek (by omega) (by omega)
   erw [u]
   exact wC (ih  c4 (by omega) (by omega) (by assumption) (Mem.sub g3 (.cons_cons _ (.cons _ (.cons_cons _ .slnil)))) s) rfl
  ·refine sR (bN dn rfl rfl (mV rfl (nS ?_)))
   refine bt s rfl ?_ ?_ <;> clear s <;> intro c s <;> try simp only [qa] at c
   ·refine bb (mV rfl (cf (dj (aq (gc (db (mV rfl (da ?_))))))))
    refine db (mV rfl (da (db (ae (fq (k := 0) a4 rfl rfl (TR.agg av.t a5)) (da ?_)))))
    have g2 : Mem b3 [⟨.op a6 a9 0, 171, 16, [a1]⟩, ⟨.op b2 b1 0, 135, 7, [b0]⟩, ⟨.op a8 a7 0, 46, 4, [.agg [nilS, nilS, nilS, nilS]]⟩] := (Mem.front (k := 1) a4 rfl)
    obtain ⟨f3, d7, s⟩ := bn s
    obtain ⟨i4, i7, e2, d6⟩ := ch2 (x0 := a2) (x1 := (ix ((ix x0.Actions x1.Action).Body) a0)) a5 a3 g2 (by exact And.left (by assumption : SB _))
    rw [d7] at d6
    obtain ⟨f0, f1, c1, b9⟩ := d6
    replace b9 := b9.symm; subst b9
    refine iw rfl rfl e2 ?_
    have h8 : SB f3 := sb3 (by assumption) d7
    refine mc (dj (aq (bb (bN fy rfl rfl (mV rfl (cf (du ?_)))))))
    have hbd := fg b4
    have u : wr (a0 + 1) = a0 + 1 := ek (by omega) (by omega)
    erw [u]
    exact wC (ih  c1 (by omega) (by omega) (by assumption) (Mem.sub f1 (.cons_cons _ (.cons _ (.cons_cons _ .slnil)))) s) rfl
   ·refine sR (bN dn rfl rfl (mV rfl (nS ?_)))
    refine bt s rfl ?_ ?_ <;> clear s <;> intro c s <;> try simp only [qa] at c
    ·refine bb (mV rfl (cf (dj (aq (gc (db (mV rfl (da ?_))))))))
     refine db (mV rfl (da (db (ae (fq (k := 0) a4 rfl rfl (TR.agg av.t a5)) (da ?_)))))
     have g9 : Mem b3 [⟨.op a6 a9 0, 171, 16, [a1]⟩, ⟨.op b2 b1 0, 135, 7, [b0]⟩, ⟨.op a8 a7 0, 46, 4, [.agg [nilS, nilS, nilS, nilS]]⟩] := (Mem.front (k := 1) a4 rfl)
     obtain ⟨f8, c8, s⟩ := bn s
     obtain ⟨i3, j1, e7, d4⟩ := cs8 (x0 := a2) (x1 := (ix ((ix x0.Actions x1.Action).Body) a0)) a5 a3 g9 (by exact And.left (by assumption : SB _))
     rw [c8] at d4
     obtain ⟨f2, g1, c7, b6⟩ := d4
     replace b6 := b6.symm; subst b6
     refine iw rfl rfl e7 ?_
     have i6 : SB f8 := sb4 (by assumption) c8
     refine mc (dj (aq (bb (bN fy rfl rfl (mV rfl (cf (du ?_)))))))
     have hbd := fg b4
     have u : wr (a0 + 1) = a0 + 1 := ek (by omega) (by omega)
     erw [u]
     exact wC (ih  c7 (by omega) (by omega) (by assumption) (Mem.sub g1 (.cons_cons _ (.cons _ (.cons_cons _ .slnil)))) s) rfl
    ·refine sR (bN dn rfl rfl (mV rfl (nS ?_)))
     refine bt s rfl ?_ ?_ <;> clear s <;> intro c s <;> try simp only [qa] at c
     ·refine bb (mV rfl (cf (dj (aq (gc (db (mV rfl (da ?_))))))))
      refine db (mV rfl (da (db (ae (fq (k := 0) a4 rfl rfl (TR.agg av.t a5)) (da ?_)))))
      have g0 : Mem b3 [⟨.op a6 a9 0, 171, 16, [a1]⟩, ⟨.op b2 b1 0, 135, 7, [b0]⟩, ⟨.op a8 a7 0, 46, 4, [.agg [nilS, nilS, nilS, nilS]]⟩] := (Mem.front (k := 1) a4 rfl)
      obtain ⟨g7, d1, s⟩ := bn s
      obtain ⟨i2, j3, e4, d0⟩ := cu5 (x0 := a2) (x1 := (ix ((ix x0.Actions x1.Action).Body) a0)) a5 a3 g0 (by exact And.right (by assumption : SB _))
      rw [d1] at d0
      obtain ⟨g6, h2, c6, b8⟩ := d0
      replace b8 := b8.symm; subst b8
      refine iw rfl rfl e4 ?_
      have i5 : SB g7 := sb5 (by assumption) d1
      refine mc (dj (aq (bb (bN fy rfl rfl (mV rfl (cf (du ?_)))))))
      have hbd := fg b4
      have u : wr (a0 + 1) = a0 + 1 := ek (by omega) (by omega)
      erw [u]
      exact wC (ih  c6 (by omega) (by omega) (by assumption) (Mem.sub h2 (.cons_cons _ (.cons _ (.cons_cons _ .slnil)))) s) rfl
     ·refine ba (dj (aq (gc (db (mV rfl (da (db (mV rfl ?_))))))))
      refine da (db (ae (fq (k := 0) a4 rfl rfl (TR.agg av.t a5)) (da ?_)))
      have h0 : Mem b3 [⟨.op a6 a9 0, 171, 16, [a1]⟩, ⟨.op b2 b1 0, 135, 7, [b0]⟩, ⟨.op a8 a7 0, 46, 4, [.agg [nilS, nilS, nilS, nilS]]⟩] := (Mem.front (k := 1) a4 rfl)
      obtain ⟨g4, d5, s⟩ := bn s
      obtain ⟨h5, j2, e6, d2⟩ := cm7 (x0 := a2) (x1 := (ix ((ix x0.Actions x1.Action).Body) a0)) a5 a3 h0 (by exact And.left (by assumption : SB _))
      rw [d5] at d2
      obtain ⟨f9, e9, c5, b5⟩ := d2
      replace b5 := b5.symm; subst b5
      refine iw rfl rfl e6 ?_
      have h3 : SB g4 := sb1 (by assumption) d5
      refine mc (dj (aq (bb (bN fy rfl rfl (mV rfl (cf (du ?_)))))))
      have hbd := fg b4
      have u : wr (a0 + 1) = a0 + 1 := ek (by omega) (by omega)
      erw [u]
      exact wC (ih  c5 (by omega) (by omega) (by assumption) (Mem.sub e9 (.cons_cons _ (.cons _ (.cons_cons _ .slnil)))) s) rfl

theorem do0 {x0 : af} {x1 : bm} {x2 : ai} {x3 : List (List (BitVec 32))} {v0 v1 v2 v3 : PV} (r0 : af.t.R x0 v0) (r1 : bm.t.R x1 v1) (r2 : ai.t.R x2 v2) (r3 : (tSl (tSl dg)).R x3 v3) (hE : EB x2) (hR : RB x3) : ∃ c0, ∃ c1, FnR Tryz.prog 44 [v0, v1, v2, v3] (.tup [c0, c1]) ∧ ai.t.R (mf x0 x1 x2 x3).1 c0 ∧ (tSl (tSl dg)).R (mf x0 x1 x2 x3).2 c1 := by
 obtain ⟨res, s⟩ : ∃ res, mf x0 x1 x2 x3 = res := ⟨_, rfl⟩
 suffices H : RC Tryz.prog di6 [] (QR Tryz.prog [(8, some (4, true)), (9, none)] (RF44 res)) (argE 0 [v0, v1, v2, v3]) ⟨0, []⟩ by
  rw [s]
  obtain ⟨r, h1, c0, c1, rfl, j4, j1⟩ := fnE bz8 (by simp) H
  exact ⟨c0, c1, h1, j4, j1⟩
 unfold mf at s
 refine sR (ae (cz rfl (TR.cnt af.t r0)) (ae (cz rfl (TR.cnt bm.t r1)) (ae (cz rfl (TR.cnt ai.t r2)) ?_)))
 refine di (x := .agg [nilS, nilS, nilS, nilS]) (Mem.nil ⟨0, []⟩) rfl rfl (fun b8 b7 j3 h0 => ?_)
 refine ae (v := nilS) (ax rfl) (nR (lD r2 rfl rfl rfl ?_))
 obtain ⟨g3, e5, s⟩ := bn s
 obtain ⟨j0, i6, g5⟩ := ci6  r2 (by assumption)
 rw [e5] at g5
 refine cL i6 rfl rfl (ab (TR.clo ai.t r2) ay) (mV rfl ?_)
 obtain ⟨i4, e4, s⟩ := bn s
 obtain ⟨b3, h6, c4⟩ := ch0  r3 (by assumption)
 rw [e4] at c4
 refine cL h6 rfl rfl (ab (TR.clo (tSl (tSl dg)) r3) ay) ?_
 obtain ⟨a3, a0, a1, a2, i5, b5, b4, b9, b6⟩ := g5
 subst i5
 refine ae (v := .agg [vs [], nilS, nilS, nilS, nilS, nilS, nilS, nilS, nilS, nilS, nilS, a3, a0, a1, a2, b3]) (eg (cs := [vs [], nilS, nilS, nilS, nilS, nilS, nilS, nilS, nilS, nilS, nilS, a3, a0, a1, a2, b3]) rfl (by simp only [buildV, og (TR.cnt (tSl (tSl dg)) c4) (TR.agg (tSl (tSl dg)) c4)]; rfl)) ?_
 refine bd6 (x := .agg [vs [], nilS, nilS, nilS, nilS, nilS, nilS, nilS, nilS, nilS, nilS, a3, a0, a1, a2, b3]) h0 rfl rfl (fun e7 f9 j5 g2 => ?_)
 refine mV rfl (nS (au (sR (lD r0 rfl rfl rfl (fL rfl (bm.g_Action r1) rfl rfl ?_)))))
 obtain ⟨b2, e3, s⟩ := bn s
 have g7 := dq4 (x1 := x1.Action) r0 
 rw [e3] at g7
 refine cL g7 rfl rfl (ab (TR.clo af.t r0) (ab rfl ay)) (mV rfl (xT rfl rfl (xT rfl rfl (mV rfl (mV rfl (nR (mV rfl (bN kg rfl rfl ?_))))))))
 refine mV rfl ?_
 refine bw 5 (d := 37) (v := vb ((!decide (b2.2 = 0)) || (!decide ((ik x0 x1) = 0)))) ?_ ?_
 ·intro S Q r
  cases g6 : (!decide (b2.2 = 0))
  ·intro k
   have f1 := g6
   try simp only [qa] at f1
   refine ah rfl rfl (bq rfl (TR.cnt af.t r0) (TR.agg af.t r0)) (ah rfl rfl (bq rfl (TR.cnt bm.t r1) (TR.agg bm.t r1)) ?_)
   have h2 := dj8  r0 r1 
   refine jm rfl rfl (qq rfl rfl (ab (TR.clo af.t r0) (ab (TR.clo bm.t r1) ay)) h2) (ah rfl rfl (bp rfl rfl kg) ?_)
   exact gK rfl rfl rfl rfl rfl k
  ·exact gN 4 rfl rfl rfl rfl rfl rfl
 refine nS ?_
 refine bt s rfl ?_ ?_ <;> clear s <;> intro e2 s <;> have f8 := e2 <;> try simp only [qa] at f8
 ·refine au ?_
  refine af2 (k := 0) (E' := [(37, vb ((!decide (b2.2 = 0)) || (!decide ((ik x0 x1) = 0)))), (32, vb (!decide (b2.2 = 0))), (31, vb (!decide (b2.2 = 0))), (30, vi b2.2), (12, vi b2.2), (11, vi b2.1), (29, vi b2.2), (28, vi b2.1), (23, .tup [vi b2.1, vi b2.2]), (27, .tup [vi b2.1, vi b2.2]), (26, vi x1.Action), (25, .fp (vi x1.Action)), (24, v0), (10, .fp (.agg [vs [], nilS, nilS, nilS, nilS, nilS, nilS, nilS, nilS, nilS, nilS, a3, a0, a1, a2, b3])), (22, .fp (.agg [vs [], nilS, nilS, nilS, nilS, nilS, nilS, nilS, nilS, nilS, nilS, a3, a0, a1, a2, b3])), (21, .agg [vs [], nilS, nilS, nilS, nilS, nilS, nilS, nilS, nilS, nilS, nilS, a3, a0, a1, a2, b3]), (20, b3), (19, v3), (18, .agg [a3, a0, a1, a2]), (17, v2), (9, nilS), (8, .op b8 b7 0), (6, .fp v2), (5, .fp v1), (4, .fp v0), (0, v0), (1, v1), (2, v2), (3, v3)]) g2 rfl (df rfl (df rfl (df rfl (df rfl (df rfl (df rfl (df rfl (df rfl (df rfl (df rfl (df rfl (df rfl (df rfl (wj rfl (wj rfl (df rfl (df rfl (df rfl (df rfl (df rfl (df rfl (df rfl (df rfl (df rfl (df rfl (df rfl (df rfl (df rfl (df rfl ad9))))))))))))))))))))))))))))) (fun i1 f0 => ?_)
  replace f0 : Mem i1 [⟨.op b8 b7 0, 46, 4, [.agg [nilS, nilS, nilS, nilS]]⟩] := f0
  refine mV rfl (ae (dp rfl rfl) (fL rfl rfl rfl rfl (mV rfl (ae (dp rfl rfl) (fA rfl (mk1 (TR.agg (tSl (tSl dg)) c4)) (lD c4 rfl rfl rfl ?_))))))
  refine ci (k := 0) (v := .agg [a3, a0, a1, a2]) f0 rfl rfl rfl rfl (fun h3 f5 => ?_)
  replace f5 : Mem h3 [⟨.op b8 b7 0, 46, 4, [.agg [a3, a0, a1, a2]]⟩] := f5
  refine mV rfl (nS ?_)
  subst s
  exact dw (.cell rfl (cv (k := 0) f5 rfl rfl) (.tmp rfl .nil)) (cd (show closed (.tup _) = true from (ab (TR.clo ai.t (show ai.t.R g3 (.agg [a3, a0, a1, a2]) from ⟨a3, a0, a1, a2, rfl, b5, b4, b9, b6⟩)) (ab (TR.clo (tSl (tSl dg)) c4) ay)))) ⟨.agg [a3, a0, a1, a2], b3, rfl, ⟨a3, a0, a1, a2, rfl, b5, b4, b9, b6⟩, c4⟩
 ·refine ba (aq (sR (gL (af.g_Actions r0) rfl rfl rfl fun j2 g8 => (fL rfl (bm.g_Action r1) rfl rfl ?_))))
  obtain ⟨d5, h7, d0⟩ := cr (i := x1.Action) g8 (by ((have hk := bt7 (by assumption) (And.left (by assumption : _ ∧ ik x0 x1 = 0)); omega))) (by ((have hk := bt7 (by assumption) (And.left (by assumption : _ ∧ ik x0 x1 = 0)); omega)))
  refine ae (bh rfl rfl h7) (lD d0 rfl rfl rfl ?_)
  refine di (x := .agg [vs [], nilS, nilS]) g2 rfl rfl (fun e9 f4 j9 i3 => ?_)
  refine ci (k := 0) (v := d5) i3 rfl rfl rfl (TR.cnt bz.t d0) (fun h4 d8 => ?_)
  replace d8 : Mem h4 [⟨.op e9 f4 0, 97, 3, [d5]⟩, ⟨.op e7 f9 0, 171, 16, [.agg [vs [], nilS, nilS, nilS, nilS, nilS, nilS, nilS, nilS, nilS, nilS, a3, a0, a1, a2, b3]]⟩, ⟨.op b8 b7 0, 46, 4, [.agg [nilS, nilS, nilS, nilS]]⟩] := d8
  refine nR (mV rfl (lD r0 rfl rfl rfl (ae (bv rfl) ?_)))
  obtain ⟨c6, i2, e8⟩ := bz.g_Params d0
  refine ae (cq (k := 0) d8 rfl rfl i2) ?_
  obtain ⟨a4, a9, b0, b1, a8, a5, a7, a6, h8, d2, e0, c8, d9, d1, d3, d6, c9⟩ := r0
  subst h8
  refine ae (v := .agg [vs x0.Name, a4, a9, b0, b1, a8, a5, a7, a6, c6]) (eg (cs := [vs x0.Name, a4, a9, b0, b1, a8, a5, a7, a6, c6]) rfl (by simp only [buildV, og (TR.cnt (tSl aw.t) e8) (TR.agg (tSl aw.t) e8)]; rfl)) (ae (dp rfl rfl) (ae (bv rfl) ?_))
  refine mg (k := 1) (v := .agg [vs x0.Name, a4, a9, b0, b1, a8, a5, a7, a6, c6]) d8 rfl rfl rfl rfl rfl (by ((simp only [List.length_cons, List.length_nil]; omega))) (fun h5 f6 => ?_)
  replace f6 : Mem h5 [⟨.op e9 f4 0, 97, 3, [d5]⟩, ⟨.op e7 f9 0, 171, 16, [.agg [vs x0.Name, a4, a9, b0, b1, a8, a5, a7, a6, c6, nilS, a3, a0, a1, a2, b3]]⟩, ⟨.op b8 b7 0, 46, 4, [.agg [nilS, nilS, nilS, nilS]]⟩] := f6
  refine nR (mV rfl (gL (bm.g_Args r1) rfl rfl rfl fun d7 e6 => (ae (dp rfl rfl) (ae (bv rfl) ?_))))
  refine mg (k := 1) (v := d7) f6 rfl rfl rfl (og (TR.cnt (tSl dg) e6) (TR.agg (tSl dg) e6)) rfl (by ((simp only [List.length_cons, List.length_nil]; omega))) (fun i0 e1 => ?_)
  replace e1 : Mem i0 [⟨.op e9 f4 0, 97, 3, [d5]⟩, ⟨.op e7 f9 0, 171, 16, [.agg [vs x0.Name, a4, a9, b0, b1, a8, a5, a7, a6, c6, d7, a3, a0, a1, a2, b3]]⟩, ⟨.op b8 b7 0, 46, 4, [.agg [nilS, nilS, nilS, nilS]]⟩] := e1
  refine nS (au (sR (ae (bv rfl) ?_)))
  obtain ⟨j6, i7, g4⟩ := bz.g_Body d0
  refine ae (cq (k := 0) e1 rfl rfl i7) (ae (cy rfl (co g4 Tryz.underlying95 _)) (mI rfl (nS (cb ?_))))
  have j7 : ai.t.R ({ Valid := ([] : List Bool), Fields := ([] : List (List (BitVec 32))), Metd := ([] : List (BitVec 32)), Payload := ([] : List UInt8) } : ai) (.agg [nilS, nilS, nilS, nilS]) := ⟨nilS, nilS, nilS, nilS, rfl, rk, rk, rk, rk⟩
  refine wC (wn hE hR e5 e4 e3 e2 g4 ?_  (show bf.t.R ({ scope := ({ Program := x0, Params := (ix x0.Actions x1.Action).Params } : aj), args := x1.Args, env := g3, regs := i4 } : bf) (.agg [vs x0.Name, a4, a9, b0, b1, a8, a5, a7, a6, c6, d7, a3, a0, a1, a2, b3]) from ⟨a4, a9, b0, b1, a8, a5, a7, a6, c6, d7, a3, a0, a1, a2, b3, rfl, d2, e0, c8, d9, d1, d3, d6, c9, e8, e6, b5, b4, b9, b6, c4⟩) rfl (by omega) (by exact sb0 hE hR (by assumption) (by assumption)) (Mem.sub e1 (.cons _ (.cons_cons _ (.cons_cons _ .slnil)))) s) rfl
  ·intro g0 c7 c5 j8 h9 s
   refine gy (aq (au ?_))
   refine af2 (k := 0) (E' := [(8, .op b8 b7 0), (10, .fp c7)]) h9 rfl (df rfl (wj rfl ad9)) (fun g9 f3 => ?_)
   replace f3 : Mem g9 [⟨.op b8 b7 0, 46, 4, [.agg [nilS, nilS, nilS, nilS]]⟩] := f3
   refine mV rfl (ae (dp rfl rfl) (gL (bf.g_env c5) rfl rfl rfl fun f7 d4 => (mV rfl (ae (dp rfl rfl) (gL (bf.g_regs c5) rfl rfl rfl fun i9 g1 => ?_)))))
   refine ci (k := 0) (v := f7) f3 rfl rfl rfl (TR.cnt ai.t d4) (fun i8 f2 => ?_)
   replace f2 : Mem i8 [⟨.op b8 b7 0, 46, 4, [f7]⟩] := f2
   refine mV rfl (nS ?_)
   subst s
   exact dw (.cell rfl (cv (k := 0) f2 rfl (TR.agg ai.t d4)) (.tmp rfl .nil)) (cd (show closed (.tup _) = true from (ab (TR.clo ai.t d4) (ab (TR.clo (tSl (tSl dg)) g1) ay)))) ⟨f7, i9, rfl, d4, g1⟩

end Go.Proofs.YtmonnlkagniolaaGreat
