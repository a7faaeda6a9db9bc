/-
 The code of each function does what its plain program says.
-/
import Derived.Test.YtmonnlkagniolaaGreatL8W4
set_option linter.unusedVariables false
set_option linter.unusedSimpArgs false
set_option maxRecDepth 100000
namespace Go.Proofs.YtmonnlkagniolaaGreat
open Go Go.Pb Go.RowKit
def RF295 (res : (BitVec 32)) (r : PV) : Prop := r = bh res
theorem ct8 {x0 : BitVec 32} {x1 : Int} : FnR Tryz.prog 295 [bh x0, vi x1] (bh (xi x0 x1)) := by
 refine fnS (R := RF295) bl4 (fun _ h => h) rfl fun res s => ?_
 unfold xi at s
 refine sR (ae (v := bh 0#32) (av rfl) (nR (mV rfl (ae (dw3 (a := bh x0) rfl dp3) (mV rfl ?_)))))
 obtain ⟨a2, a1, s⟩ := bt s
 have a0 := ky (x0 := x1)  
 rw [a1] at a0
 refine cL a0 rfl rfl (ai rfl bf) (ae (bq (a := bh (~~~x0)) (b := bh a2) rfl rfl qd) (mV rfl (nS ?_)))
 exact rR s rfl rfl rfl

def RF296 (res : (BitVec 32)) (r : PV) : Prop := r = bh res
theorem ch5 {x0 : BitVec 32} {x1 x2 : Int} : FnR Tryz.prog 296 [bh x0, vi x1, vi x2] (bh (xl x0 x1 x2)) := by
 refine fnS (R := RF296) bg1 (fun _ h => h) rfl fun res s => ?_
 unfold xl at s
 refine sR (ae (v := bh 0#32) (av rfl) (nR (mV rfl (mV rfl (ae (cv rfl (am7 _ _)) (ae (bq (a := bh x0) (b := vi (max x1 0)) rfl rfl (cx3 (by first | omega | exact yr (by assumption) (by assumption) | (rw [ee (by omega) (by omega)]; omega) | (have hk := an4 (by assumption) (And.left (by assumption)); omega)))) (mV rfl ?_)))))))
 obtain ⟨a2, a1, s⟩ := bt s
 have a0 := ky (x0 := x2)  
 rw [a1] at a0
 refine cL a0 rfl rfl (ai rfl bf) (ae (bq (a := bh (x0 <<< (max x1 0).toNat)) (b := bh a2) rfl rfl qd) (mV rfl (nS ?_)))
 exact rR s rfl rfl rfl

def RF297 (res : (BitVec 32)) (r : PV) : Prop := r = bh res
theorem cn8 {x0 : BitVec 32} {x1 x2 : Int} : FnR Tryz.prog 297 [bh x0, vi x1, vi x2] (bh (xt x0 x1 x2)) := by
 refine fnS (R := RF297) bn0 (fun _ h => h) rfl fun res s => ?_
 unfold xt at s
 refine sR (ae (v := bh 0#32) (av rfl) (nR (mV rfl (mV rfl ?_))))
 obtain ⟨a0, a2, s⟩ := bt s
 have a1 := ky (x0 := x2)  
 rw [a2] at a1
 refine cL a1 rfl rfl (ai rfl bf) (ae (bq (a := bh x0) (b := bh a0) rfl rfl qd) (mV rfl (ae (cv rfl (am7 _ _)) (ae (bq (a := bh (x0 &&& a0)) (b := vi (max x1 0)) rfl rfl (bz1 (by first | omega | exact yr (by assumption) (by assumption) | (rw [ee (by omega) (by omega)]; omega) | (have hk := an4 (by assumption) (And.left (by assumption)); omega)))) (mV rfl (nS ?_))))))
 exact rR s rfl rfl rfl

def RF298 (res : (BitVec 32)) (r : PV) : Prop := r = bh res
theorem cq0 {x0 : BitVec 32} {x1 x2 : Int} : FnR Tryz.prog 298 [bh x0, vi x1, vi x2] (bh (tq x0 x1 x2)) := by
 refine fnS (R := RF298) bh8 (fun _ h => h) rfl fun res s => ?_
 unfold tq at s
 refine sR (ae (v := bh 0#32) (av rfl) (nS (am (sR (mV rfl (ae (v := .fs true [vi x2]) (kt rfl (all_cons rfl nn)) ?_))))))
 have a4 : (tSl tI).R ([x2] : List Int) (.fs true [vi x2]) := vj ⟨rfl, trivial⟩ (by simp)
 obtain ⟨a0, a5, s⟩ := bt s
 have a6 := ad7  a4 
 rw [a5] at a6
 refine cL a6 rfl rfl (ai (TR.clo (tSl tI) a4) bf) (ae (ju rfl) (mV rfl ?_))
 refine cq 3 (d := 14) (v := vb ((!a0) || (decide (x1 < 0)))) ?_ ?_
 ·intro S Q r
  cases a8 : (!a0)
  ·intro k
   have a1 := a8
   try simp only [qa] at a1
   refine ah rfl rfl (av rfl) (ah rfl rfl (bq rfl rfl cw) ?_)
   exact gK rfl rfl rfl rfl rfl k
  ·exact gN 2 rfl rfl rfl rfl rfl rfl
 refine mV rfl ?_
 refine cq 5 (d := 20) (v := vb (((!a0) || (decide (x1 < 0))) || (decide ((wr (32 - x2)) < x1)))) ?_ ?_
 ·intro S Q r
  cases a9 : ((!a0) || (decide (x1 < 0)))
  ·intro k
   have a2 := a9
   try simp only [qa] at a2
   refine ah rfl rfl (av rfl) (ah rfl rfl (av rfl) (ah rfl rfl (bq rfl rfl ah5) (ah rfl rfl (bq rfl rfl nj) ?_)))
   exact gK rfl rfl rfl rfl rfl k
  ·exact gN 4 rfl rfl rfl rfl rfl rfl
 refine nS ?_
 refine cg s rfl ?_ ?_ <;> clear s <;> intro c s <;> try simp only [qa] at c
 ·refine sR (ae (v := bh 0#32) (av rfl) (nS ?_))
  exact rR s rfl rfl rfl
 ·refine az (aq (sR (mV rfl (mV rfl (ae (bq (a := bh x0) (b := vi x1) rfl rfl (bz1 (by first | omega | exact yr (by assumption) (by assumption) | (rw [ee (by omega) (by omega)]; omega) | (have hk := an4 (by assumption) (And.left (by assumption)); omega)))) (mV rfl ?_))))))
  obtain ⟨b0, a7, s⟩ := bt s
  have a3 := ky (x0 := x2)  
  rw [a7] at a3
  refine cL a3 rfl rfl (ai rfl bf) (ae (bq (a := bh (x0 >>> x1.toNat)) (b := bh b0) rfl rfl qd) (mV rfl (nS ?_)))
  exact rR s rfl rfl rfl

def RF290 (res : aj) (r : PV) : Prop := aj.t.R res r
theorem ck7 {x0 : af} {x1 : aj} {v0 v1 : PV} (r0 : af.t.R x0 v0) (r1 : aj.t.R x1 v1) : ∃ r, FnR Tryz.prog 290 [v0, v1] r ∧ aj.t.R (ya x0 x1) r := by
 refine fnT (R := RF290) bf8 rfl fun res s => ?_
 unfold ya at s
 refine sR (ae (dm rfl (TR.cnt af.t r0)) (ae (dm rfl (TR.cnt aj.t r1)) ?_))
 refine ej (x := .agg [bh 0#32, vi 0]) (Mem.nil ⟨0, []⟩) rfl rfl (fun a6 a5 c3 a4 => ?_)
 refine nS (am (sR (fL rfl (af.g_Op r0) rfl rfl (nS (bm (sR (bN fi rfl rfl (mV rfl ?_))))))))
 refine nS ?_
 refine cg s rfl ?_ ?_ <;> clear s <;> intro c s <;> try simp only [qa] at c
 ·refine sR (fL rfl (aj.g_v r1) rfl rfl (fL rfl (aj.g_w r1) rfl rfl ?_))
  obtain ⟨a0, b3, s⟩ := bt s
  have b1 := ct8 (x0 := x1.v) (x1 := x1.w)  
  rw [b3] at b1
  refine cL b1 rfl rfl (ai rfl (ai rfl bf)) (fL rfl (aj.g_w r1) rfl rfl (ae (v := .agg [bh a0, vi x1.w]) (fk (cs := [bh a0, vi x1.w]) rfl rfl) ?_))
  refine ct (k := 0) (v := .agg [bh a0, vi x1.w]) a4 rfl rfl rfl rfl (fun c1 a7 => ?_)
  replace a7 : Mem c1 [⟨.op a6 a5 0, 301, 2, [.agg [bh a0, vi x1.w]]⟩] := a7
  refine nS ?_
  subst s
  exact fu (.cell rfl (dg (k := 0) a7 rfl rfl) .nil) (cp (TR.clo aj.t (show aj.t.R ({ v := a0, w := x1.w } : aj) (.agg [bh a0, vi x1.w]) from rfl))) (show aj.t.R ({ v := a0, w := x1.w } : aj) (.agg [bh a0, vi x1.w]) from rfl)
 ·refine sR (bN fi rfl rfl (mV rfl (nS ?_)))
  refine cg s rfl ?_ ?_ <;> clear s <;> intro c s <;> try simp only [qa] at c
  ·refine sR (fL rfl (aj.g_v r1) rfl rfl (fL rfl (af.g_N r0) rfl rfl (fL rfl (aj.g_w r1) rfl rfl ?_)))
   obtain ⟨a1, b4, s⟩ := bt s
   have b6 := ch5 (x0 := x1.v) (x1 := x0.N) (x2 := x1.w)  
   rw [b4] at b6
   refine cL b6 rfl rfl (ai rfl (ai rfl (ai rfl bf))) (fL rfl (aj.g_w r1) rfl rfl (ae (v := .agg [bh a1, vi x1.w]) (fk (cs := [bh a1, vi x1.w]) rfl rfl) ?_))
   refine ct (k := 0) (v := .agg [bh a1, vi x1.w]) a4 rfl rfl rfl rfl (fun c2 a8 => ?_)
   replace a8 : Mem c2 [⟨.op a6 a5 0, 301, 2, [.agg [bh a1, vi x1.w]]⟩] := a8
   refine nS ?_
   subst s
   exact fu (.cell rfl (dg (k := 0) a8 rfl rfl) .nil) (cp (TR.clo aj.t (show aj.t.R ({ v := a1, w := x1.w } : aj) (.agg [bh a1, vi x1.w]) from rfl))) (show aj.t.R ({ v := a1, w := x1.w } : aj) (.agg [bh a1, vi x1.w]) from rfl)
  ·refine sR (bN fi rfl rfl (mV rfl (nS ?_)))
   refine cg s rfl ?_ ?_ <;> clear s <;> intro c s <;> try simp only [qa] at c
   ·refine sR (fL rfl (aj.g_v r1) rfl rfl (fL rfl (af.g_N r0) rfl rfl (fL rfl (aj.g_w r1) rfl rfl ?_)))
    obtain ⟨a2, b8, s⟩ := bt s
    have b7 := cn8 (x0 := x1.v) (x1 := x0.N) (x2 := x1.w)  
    rw [b8] at b7
    refine cL b7 rfl rfl (ai rfl (ai rfl (ai rfl bf))) (fL rfl (aj.g_w r1) rfl rfl (ae (v := .agg [bh a2, vi x1.w]) (fk (cs := [bh a2, vi x1.w]) rfl rfl) ?_))
    refine ct (k := 0) (v := .agg [bh a2, vi x1.w]) a4 rfl rfl rfl rfl (fun c0 a9 => ?_)
    replace a9 : Mem c0 [⟨.op a6 a5 0, 301, 2, [.agg [bh a2, vi x1.w]]⟩] := a9
    refine nS ?_
    subst s
    exact fu (.cell rfl (dg (k := 0) a9 rfl rfl) .nil) (cp (TR.clo aj.t (show aj.t.R ({ v := a2, w := x1.w } : aj) (.agg [bh a2, vi x1.w]) from rfl))) (show aj.t.R ({ v := a2, w := x1.w } : aj) (.agg [bh a2, vi x1.w]) from rfl)
   ·refine az (de (aq (sR (fL rfl (aj.g_v r1) rfl rfl (fL rfl (af.g_N r0) rfl rfl (fL rfl (af.g_W r0) rfl rfl ?_))))))
    obtain ⟨a3, b5, s⟩ := bt s
    have b2 := cq0 (x0 := x1.v) (x1 := x0.N) (x2 := x0.W)  
    rw [b5] at b2
    refine cL b2 rfl rfl (ai rfl (ai rfl (ai rfl bf))) (fL rfl (af.g_W r0) rfl rfl (ae (v := .agg [bh a3, vi x0.W]) (fk (cs := [bh a3, vi x0.W]) rfl rfl) ?_))
    refine ct (k := 0) (v := .agg [bh a3, vi x0.W]) a4 rfl rfl rfl rfl (fun b9 b0 => ?_)
    replace b0 : Mem b9 [⟨.op a6 a5 0, 301, 2, [.agg [bh a3, vi x0.W]]⟩] := b0
    refine nS ?_
    subst s
    exact fu (.cell rfl (dg (k := 0) b0 rfl rfl) .nil) (cp (TR.clo aj.t (show aj.t.R ({ v := a3, w := x0.W } : aj) (.agg [bh a3, vi x0.W]) from rfl))) (show aj.t.R ({ v := a3, w := x0.W } : aj) (.agg [bh a3, vi x0.W]) from rfl)

def RF299 (res : (BitVec 32)) (r : PV) : Prop := r = bh res
theorem ci4 {x0 : BitVec 32} {x1 : BitVec 32} {x2 : Int} : FnR Tryz.prog 299 [bh x0, bh x1, vi x2] (bh (xu x0 x1 x2)) := by
 refine fnS (R := RF299) bd7 (fun _ h => h) rfl fun res s => ?_
 unfold xu at s
 refine sR (ae (v := bh 0#32) (av rfl) (nR (mV rfl (mV rfl (ae (bq (a := bh x0) (b := bh x1) rfl rfl ds4) (mV rfl ?_))))))
 obtain ⟨a2, a1, s⟩ := bt s
 have a0 := ky (x0 := x2)  
 rw [a1] at a0
 refine cL a0 rfl rfl (ai rfl bf) (ae (bq (a := bh (x0 + x1)) (b := bh a2) rfl rfl qd) (mV rfl (nS ?_)))
 exact rR s rfl rfl rfl

def RF300 (res : (BitVec 32)) (r : PV) : Prop := r = bh res
theorem cl9 {x0 : BitVec 32} {x1 : BitVec 32} {x2 : Int} : FnR Tryz.prog 300 [bh x0, bh x1, vi x2] (bh (xz x0 x1 x2)) := by
 refine fnS (R := RF300) bk4 (fun _ h => h) rfl fun res s => ?_
 unfold xz at s
 refine sR (ae (v := bh 0#32) (av rfl) (nR (mV rfl (mV rfl (ae (bq (a := bh x0) (b := bh x1) rfl rfl dr6) (mV rfl ?_))))))
 obtain ⟨a2, a1, s⟩ := bt s
 have a0 := ky (x0 := x2)  
 rw [a1] at a0
 refine cL a0 rfl rfl (ai rfl bf) (ae (bq (a := bh (x0 - x1)) (b := bh a2) rfl rfl qd) (mV rfl (nS ?_)))
 exact rR s rfl rfl rfl

def RF301 (res : (BitVec 32) × Bool) (r : PV) : Prop := r = .tup [bh res.1, vb res.2]
theorem cf0 {x0 : BitVec 32} {x1 : Int} {x2 : BitVec 32} {x3 : Int} : FnR Tryz.prog 301 [bh x0, vi x1, bh x2, vi x3] (.tup [bh ((qp x0 x1 x2 x3).1), vb ((qp x0 x1 x2 x3).2)]) := by
 refine fnS (R := RF301) bk1 (fun _ h => h) rfl fun res s => ?_
 unfold qp at s
 refine sR (ae (v := bh 0#32) (av rfl) (mB rfl (nS (am (sR (mV rfl (mV rfl (ae (v := .fs true [vi x1, vi x3]) (kt rfl (all_cons rfl (all_cons rfl nn))) ?_))))))))
 have a4 : (tSl tI).R ([x1, x3] : List Int) (.fs true [vi x1, vi x3]) := vj ⟨rfl, ⟨rfl, trivial⟩⟩ (by simp)
 obtain ⟨b1, a5, s⟩ := bt s
 have a6 := ad7  a4 
 rw [a5] at a6
 refine cL a6 rfl rfl (ai (TR.clo (tSl tI) a4) bf) (ae (ju rfl) (mV rfl ?_))
 refine cq 5 (d := 20) (v := vb ((!b1) || (decide (32 < (wr (x1 + x3)))))) ?_ ?_
 ·intro S Q r
  cases a9 : (!b1)
  ·intro k
   have a0 := a9
   try simp only [qa] at a0
   refine ah rfl rfl (av rfl) (ah rfl rfl (av rfl) (ah rfl rfl (bq rfl rfl gv) (ah rfl rfl (bq rfl rfl nj) ?_)))
   exact gK rfl rfl rfl rfl rfl k
  ·exact gN 4 rfl rfl rfl rfl rfl rfl
 refine nS ?_
 refine cg s rfl ?_ ?_ <;> clear s <;> intro c s <;> try simp only [qa] at c
 ·refine sR (ae (v := bh 0#32) (av rfl) (mB rfl (nS ?_)))
  exact rT s rfl rfl rfl rfl rfl
 ·refine az (aq (sR (mV rfl (mV rfl ?_))))
  obtain ⟨a1, a8, s⟩ := bt s
  have a3 := ky (x0 := x1)  
  rw [a8] at a3
  refine cL a3 rfl rfl (ai rfl bf) (ae (bq (a := bh x0) (b := bh a1) rfl rfl qd) (mV rfl (ae (bq (a := bh (x0 &&& a1)) (b := vi x3) rfl rfl (cx3 (by first | omega | exact yr (by assumption) (by assumption) | (rw [ee (by omega) (by omega)]; omega) | (have hk := an4 (by assumption) (And.left (by assumption)); omega)))) (mV rfl (mV rfl ?_)))))
  obtain ⟨b0, a7, s⟩ := bt s
  have a2 := ky (x0 := x3)  
  rw [a7] at a2
  refine cL a2 rfl rfl (ai rfl bf) (ae (bq (a := bh x2) (b := bh b0) rfl rfl qd) (ae (bq (a := bh ((x0 &&& a1) <<< x3.toNat)) (b := bh (x2 &&& b0)) rfl rfl w_or) (mV rfl (mB rfl (nS ?_)))))
  exact rT s rfl rfl rfl rfl rfl

def RF302 (res : aj) (r : PV) : Prop := aj.t.R res r
theorem bf5 {x0 : Bool} : ∃ r, FnR Tryz.prog 302 [vb x0] r ∧ aj.t.R (tl x0) r := by
 refine fnT (R := RF302) bj2 rfl fun res s => ?_
 unfold tl at s
 refine sR ?_
 refine ej (x := .agg [bh 0#32, vi 0]) (Mem.nil ⟨0, []⟩) rfl rfl (fun a3 a4 a7 a2 => ?_)
 refine nS (am (sR (mV rfl (nS ?_))))
 refine cg s rfl ?_ ?_ <;> clear s <;> intro c s <;> try simp only [qa] at c
 ·refine sR (ae (v := .agg [bh 1#32, vi 1]) (fk (cs := [bh 1#32, vi 1]) rfl rfl) ?_)
  refine ct (k := 0) (v := .agg [bh 1#32, vi 1]) a2 rfl rfl rfl rfl (fun a5 a0 => ?_)
  replace a0 : Mem a5 [⟨.op a3 a4 0, 301, 2, [.agg [bh 1#32, vi 1]]⟩] := a0
  refine nS ?_
  subst s
  exact fu (.cell rfl (dg (k := 0) a0 rfl rfl) .nil) (cp (TR.clo aj.t (show aj.t.R ({ v := 1#32, w := 1 } : aj) (.agg [bh 1#32, vi 1]) from rfl))) (show aj.t.R ({ v := 1#32, w := 1 } : aj) (.agg [bh 1#32, vi 1]) from rfl)
 ·refine az (aq (sR (ae (v := .agg [bh 0#32, vi 1]) (fk (cs := [bh 0#32, vi 1]) rfl rfl) ?_)))
  refine ct (k := 0) (v := .agg [bh 0#32, vi 1]) a2 rfl rfl rfl rfl (fun a6 a1 => ?_)
  replace a1 : Mem a6 [⟨.op a3 a4 0, 301, 2, [.agg [bh 0#32, vi 1]]⟩] := a1
  refine nS ?_
  subst s
  exact fu (.cell rfl (dg (k := 0) a1 rfl rfl) .nil) (cp (TR.clo aj.t (show aj.t.R ({ v := 0#32, w := 1 } : aj) (.agg [bh 0#32, vi 1]) from rfl))) (show aj.t.R ({ v := 0#32, w := 1 } : aj) (.agg [bh 0#32, vi 1]) from rfl)

def RF291 (res : aj) (r : PV) : Prop := aj.t.R res r
theorem ct4 {x0 : Int} {x1 : aj} {x2 : aj} {v1 v2 : PV} (r1 : aj.t.R x1 v1) (r2 : aj.t.R x2 v2) : ∃ r, FnR Tryz.prog 291 [vi x0, v1, v2] r ∧ aj.t.R (vn x0 x1 x2) r := by
 refine fnT (R := RF291) be7 rfl fun res s => ?_
 unfold vn at s
 refine sR (ae (dm rfl (TR.cnt aj.t r1)) (ae (dm rfl (TR.cnt aj.t r2)) ?_))
 refine ej (x := .agg [bh 0#32, vi 0]) (Mem.nil ⟨0, []⟩) rfl rfl (fun a5 a4 d6 a1 => ?_)
 refine nS (am (sR (mV rfl (nS (bm (sR (bN fi rfl rfl (mV rfl ?_))))))))
 refine nS ?_
 refine cg s rfl ?_ ?_ <;> clear s <;> intro c s <;> try simp only [qa] at c
 ·refine sR (fL rfl (aj.g_v r1) rfl rfl (fL rfl (aj.g_v r2) rfl rfl (fL rfl (aj.g_w r1) rfl rfl ?_)))
  obtain ⟨a2, b8, s⟩ := bt s
  have b6 := ci4 (x0 := x1.v) (x1 := x2.v) (x2 := x1.w)  
  rw [b8] at b6
  refine cL b6 rfl rfl (ai rfl (ai rfl (ai rfl bf))) (fL rfl (aj.g_w r1) rfl rfl (ae (v := .agg [bh a2, vi x1.w]) (fk (cs := [bh a2, vi x1.w]) rfl rfl) ?_))
  refine ct (k := 0) (v := .agg [bh a2, vi x1.w]) a1 rfl rfl rfl rfl (fun d2 a8 => ?_)
  replace a8 : Mem d2 [⟨.op a5 a4 0, 301, 2, [.agg [bh a2, vi x1.w]]⟩] := a8
  refine nS ?_
  subst s
  exact fu (.cell rfl (dg (k := 0) a8 rfl rfl) .nil) (cp (TR.clo aj.t (show aj.t.R ({ v := a2, w := x1.w } : aj) (.agg [bh a2, vi x1.w]) from rfl))) (show aj.t.R ({ v := a2, w := x1.w } : aj) (.agg [bh a2, vi x1.w]) from rfl)
 ·refine sR (bN fi rfl rfl (mV rfl (nS ?_)))
  refine cg s rfl ?_ ?_ <;> clear s <;> intro c s <;> try simp only [qa] at c
  ·refine sR (fL rfl (aj.g_v r1) rfl rfl (fL rfl (aj.g_v r2) rfl rfl (fL rfl (aj.g_w r1) rfl rfl ?_)))
   obtain ⟨a3, b9, s⟩ := bt s
   have c1 := cl9 (x0 := x1.v) (x1 := x2.v) (x2 := x1.w)  
   rw [b9] at c1
   refine cL c1 rfl rfl (ai rfl (ai rfl (ai rfl bf))) (fL rfl (aj.g_w r1) rfl rfl (ae (v := .agg [bh a3, vi x1.w]) (fk (cs := [bh a3, vi x1.w]) rfl rfl) ?_))
   refine ct (k := 0) (v := .agg [bh a3, vi x1.w]) a1 rfl rfl rfl rfl (fun d4 a9 => ?_)
   replace a9 : Mem d4 [⟨.op a5 a4 0, 301, 2, [.agg [bh a3, vi x1.w]]⟩] := a9
   refine nS ?_
   subst s
   exact fu (.cell rfl (dg (k := 0) a9 rfl rfl) .nil) (cp (TR.clo aj.t (show aj.t.R ({ v := a3, w := x1.w } : aj) (.agg [bh a3, vi x1.w]) from rfl))) (show aj.t.R ({ v := a3, w := x1.w } : aj) (.agg [bh a3, vi x1.w]) from rfl)
  ·refine sR (bN fi rfl rfl (mV rfl (nS ?_)))
   refine cg s rfl ?_ ?_ <;> clear s <;> intro c s <;> try simp only [qa] at c
   ·refine sR (fL rfl (aj.g_v r1) rfl rfl (fL rfl (aj.g_v r2) rfl rfl (ae (bq (a := bh x1.v) (b := bh x2.v) rfl rfl qd) (fL rfl (aj.g_w r1) rfl rfl (ae (v := .agg [bh (x1.v &&& x2.v), vi x1.w]) (fk (cs := [bh (x1.v &&& x2.v), vi x1.w]) rfl rfl) ?_)))))
    refine ct (k := 0) (v := .agg [bh (x1.v &&& x2.v), vi x1.w]) a1 rfl rfl rfl rfl (fun d1 b3 => ?_)
    replace b3 : Mem d1 [⟨.op a5 a4 0, 301, 2, [.agg [bh (x1.v &&& x2.v), vi x1.w]]⟩] := b3
    refine nS ?_
    subst s
    exact fu (.cell rfl (dg (k := 0) b3 rfl rfl) .nil) (cp (TR.clo aj.t (show aj.t.R ({ v := (x1.v &&& x2.v), w := x1.w } : aj) (.agg [bh (x1.v &&& x2.v), vi x1.w]) from rfl))) (show aj.t.R ({ v := (x1.v &&& x2.v), w := x1.w } : aj) (.agg [bh (x1.v &&& x2.v), vi x1.w]) from rfl)
   ·refine sR (bN fi rfl rfl (mV rfl (nS ?_)))
    refine cg s rfl ?_ ?_ <;> clear s <;> intro c s <;> try simp only [qa] at c
    ·refine sR (fL rfl (aj.g_v r1) rfl rfl (fL rfl (aj.g_v r2) rfl rfl (ae (bq (a := bh x1.v) (b := bh x2.v) rfl rfl w_or) (fL rfl (aj.g_w r1) rfl rfl (ae (v := .agg [bh (x1.v ||| x2.v), vi x1.w]) (fk (cs := [bh (x1.v ||| x2.v), vi x1.w]) rfl rfl) ?_)))))
     refine ct (k := 0) (v := .agg [bh (x1.v ||| x2.v), vi x1.w]) a1 rfl rfl rfl rfl (fun d3 b1 => ?_)
     replace b1 : Mem d3 [⟨.op a5 a4 0, 301, 2, [.agg [bh (x1.v ||| x2.v), vi x1.w]]⟩] := b1
     refine nS ?_
     subst s
     exact fu (.cell rfl (dg (k := 0) b1 rfl rfl) .nil) (cp (TR.clo aj.t (show aj.t.R ({ v := (x1.v ||| x2.v), w := x1.w } : aj) (.agg [bh (x1.v ||| x2.v), vi x1.w]) from rfl))) (show aj.t.R ({ v := (x1.v ||| x2.v), w := x1.w } : aj) (.agg [bh (x1.v ||| x2.v), vi x1.w]) from rfl)
    ·refine sR (bN fi rfl rfl (mV rfl (nS ?_)))
     refine cg s rfl ?_ ?_ <;> clear s <;> intro c s <;> try simp only [qa] at c
     ·refine sR (fL rfl (aj.g_v r1) rfl rfl (fL rfl (aj.g_v r2) rfl rfl (ae (bq (a := bh x1.v) (b := bh x2.v) rfl rfl dv5) (fL rfl (aj.g_w r1) rfl rfl (ae (v := .agg [bh (x1.v ^^^ x2.v), vi x1.w]) (fk (cs := [bh (x1.v ^^^ x2.v), vi x1.w]) rfl rfl) ?_)))))
      refine ct (k := 0) (v := .agg [bh (x1.v ^^^ x2.v), vi x1.w]) a1 rfl rfl rfl rfl (fun c7 b0 => ?_)
      replace b0 : Mem c7 [⟨.op a5 a4 0, 301, 2, [.agg [bh (x1.v ^^^ x2.v), vi x1.w]]⟩] := b0
      refine nS ?_
      subst s
      exact fu (.cell rfl (dg (k := 0) b0 rfl rfl) .nil) (cp (TR.clo aj.t (show aj.t.R ({ v := (x1.v ^^^ x2.v), w := x1.w } : aj) (.agg [bh (x1.v ^^^ x2.v), vi x1.w]) from rfl))) (show aj.t.R ({ v := (x1.v ^^^ x2.v), w := x1.w } : aj) (.agg [bh (x1.v ^^^ x2.v), vi x1.w]) from rfl)
     ·refine sR (bN fi rfl rfl (mV rfl (nS ?_)))
      refine cg s rfl ?_ ?_ <;> clear s <;> intro c s <;> try simp only [qa] at c
      ·refine sR (fL rfl (aj.g_v r1) rfl rfl (fL rfl (aj.g_w r1) rfl rfl (fL rfl (aj.g_v r2) rfl rfl (fL rfl (aj.g_w r2) rfl rfl ?_))))
       obtain ⟨a0, c2, s⟩ := bt s
       have c5 := cf0 (x0 := x1.v) (x1 := x1.w) (x2 := x2.v) (x3 := x2.w)  
       rw [c2] at c5
       refine cL c5 rfl rfl (ai rfl (ai rfl (ai rfl (ai rfl bf)))) (mV rfl (xT rfl rfl (xT rfl rfl (mV rfl (mV rfl (nR (mV rfl (fL rfl (aj.g_w r1) rfl rfl ?_))))))))
       refine fL rfl (aj.g_w r2) rfl rfl (bN gv rfl rfl (ae (v := .agg [bh a0.1, vi (wr (x1.w + x2.w))]) (fk (cs := [bh a0.1, vi (wr (x1.w + x2.w))]) rfl rfl) ?_))
       refine ct (k := 0) (v := .agg [bh a0.1, vi (wr (x1.w + x2.w))]) a1 rfl rfl rfl rfl (fun c6 b5 => ?_)
       replace b5 : Mem c6 [⟨.op a5 a4 0, 301, 2, [.agg [bh a0.1, vi (wr (x1.w + x2.w))]]⟩] := b5
       refine nS ?_
       subst s
       exact fu (.cell rfl (dg (k := 0) b5 rfl rfl) .nil) (cp (TR.clo aj.t (show aj.t.R ({ v := a0.1, w := (wr (x1.w + x2.w)) } : aj) (.agg [bh a0.1, vi (wr (x1.w + x2.w))]) from rfl))) (show aj.t.R ({ v := a0.1, w := (wr (x1.w + x2.w)) } : aj) (.agg [bh a0.1, vi (wr (x1.w + x2.w))]) from rfl)
      ·refine sR (bN fi rfl rfl (mV rfl (nS ?_)))
       refine cg s rfl ?_ ?_ <;> clear s <;> intro c s <;> try simp only [qa] at c
       ·refine sR (fL rfl (aj.g_v r1) rfl rfl (fL rfl (aj.g_v r2) rfl rfl (ae (bq (a := bh x1.v) (b := bh x2.v) rfl rfl ca5) ?_)))
        obtain ⟨d7, c3, s⟩ := bt s
        obtain ⟨c4, d5, a6⟩ := bf5 (x0 := (decide (x1.v = x2.v)))  
        rw [c3] at a6
        refine cL d5 rfl rfl (ai rfl bf) ?_
        refine ct (k := 0) (v := c4) a1 rfl rfl rfl (TR.cnt aj.t a6) (fun d0 b2 => ?_)
        replace b2 : Mem d0 [⟨.op a5 a4 0, 301, 2, [c4]⟩] := b2
        refine nS ?_
        subst s
        exact fu (.cell rfl (dg (k := 0) b2 rfl (TR.agg aj.t a6)) .nil) (cp (TR.clo aj.t a6)) a6
       ·refine az (de (aq (sR (fL rfl (aj.g_v r1) rfl rfl (fL rfl (aj.g_v r2) rfl rfl (ae (bq (a := bh x1.v) (b := bh x2.v) rfl rfl dn6) ?_))))))
        obtain ⟨d8, c0, s⟩ := bt s
        obtain ⟨b7, c8, a7⟩ := bf5 (x0 := (decide (x1.v < x2.v)))  
        rw [c0] at a7
        refine cL c8 rfl rfl (ai rfl bf) ?_
        refine ct (k := 0) (v := b7) a1 rfl rfl rfl (TR.cnt aj.t a7) (fun c9 b4 => ?_)
        replace b4 : Mem c9 [⟨.op a5 a4 0, 301, 2, [b7]⟩] := b4
        refine nS ?_
        subst s
        exact fu (.cell rfl (dg (k := 0) b4 rfl (TR.agg aj.t a7)) .nil) (cp (TR.clo aj.t a7)) a7

def RF273 (i0_ w0_ : Nat) (R_ : List Ent) (res : aj × ba) (r : PV) (h : Heap) : Prop := ∃ uF0 : PV, ∃ c0_ : PV, Mem h (⟨.op i0_ w0_ 0, 299, 17, [uF0]⟩ :: R_) ∧ (ba.t.R res.2 uF0) ∧ r = c0_ ∧ aj.t.R res.1 c0_
theorem bv1 {rec_ : ba → (aj × ba)} {mu_ : Nat} {x0 : ba} {k8 : PV} {R_ : List Ent} {h_ : Heap} {b8 b7 : Nat} (g7 : ba.t.R x0 k8) (M_ : Mem h_ (⟨.op b8 b7 0, 299, 17, [k8]⟩ :: R_)) (hv : VE x0) (hmu : mu_ = x0.nodes.length - x0.next.toNat) (hrec : HR rec_) (ihR : ∀ {z0 : ba} {k8 : PV} {R_ : List Ent} {h_ : Heap} {b8 b7 : Nat} (g7 : ba.t.R z0 k8) (M_ : Mem h_ (⟨.op b8 b7 0, 299, 17, [k8]⟩ :: R_)) (hv : VE z0), z0.nodes.length - z0.next.toNat < mu_ → ∃ r l7, FnX Tryz.prog 273 [.op b8 b7 0] h_ r l7 ∧ RF273 b8 b7 R_ (rec_ z0) r l7) : ∃ r l7, FnX Tryz.prog 273 [.op b8 b7 0] h_ r l7 ∧ RF273 b8 b7 R_ (jz rec_ x0) r l7 := by
 refine fnXX (R := RF273 b8 b7 R_) bh6 rfl fun res s => ?_
 unfold jz at s
 refine sR ?_
 refine ej (x := .agg [bh 0#32, vi 0]) M_ rfl rfl (fun b6 b5 t3 k3 => ?_)
 refine nR (mV rfl (ae (cx rfl rfl) (ae (bz rfl) ?_)))
 obtain ⟨p2, r7, o6⟩ := ba.g_nodes g7
 refine ae (dj (k := 1) k3 rfl rfl r7) (mV rfl (ae (cx rfl rfl) (ae (bz rfl) (ae (dj (k := 1) k3 rfl rfl (ba.g_next g7)) ?_))))
 obtain ⟨e9, q5, e2⟩ := dq (i := x0.next) o6 (by first | omega | exact (ah2 hv).1 | exact (ah2 hv).2) (by first | omega | exact (ah2 hv).1 | exact (ah2 hv).2)
 refine ae (bg rfl rfl q5) (lD e2 rfl rfl rfl ?_)
 refine ej (x := .agg [vi 0, vi 0, vi 0]) k3 rfl rfl (fun m5 o4 t4 q2 => ?_)
 refine ct (k := 0) (v := e9) q2 rfl rfl rfl (TR.cnt af.t e2) (fun q6 h9 => ?_)
 replace h9 : Mem q6 (⟨.op m5 o4 0, 113, 3, [e9]⟩ :: ⟨.op b6 b5 0, 301, 2, [.agg [bh 0#32, vi 0]]⟩ :: ⟨.op b8 b7 0, 299, 17, [k8]⟩ :: R_) := h9
 refine nS (am (fq (cb (mV rfl (ca (cb (ae (cx rfl rfl) (ca ?_))))))))
 refine cb (ae (bz rfl) (ca (cb (ae (dj (k := 2) h9 rfl rfl (ba.g_next g7)) (ca (cb (bN gv rfl rfl (ca ?_))))))))
 refine cb (ae (cx rfl rfl) (ca (cb (ae (bz rfl) (ca (cb ?_))))))
 obtain ⟨a9, b3, b1, b2, b4, a8, b0, a6, a7, a4, a5, a0, a1, a2, a3, o9, d0, c9, d4, d3, d5, d1, c7, d2, c8, c3, c4, c5, c0, c2, c1⟩ := g7
 subst o9
 refine me (k := 2) (v := vi (wr (x0.next + 1))) h9 rfl rfl rfl rfl rfl (by first | decide | (simp only [List.length_cons, List.length_nil]; omega) | simp) (fun p9 j8 => ?_)
 replace j8 : Mem p9 (⟨.op m5 o4 0, 113, 3, [e9]⟩ :: ⟨.op b6 b5 0, 301, 2, [.agg [bh 0#32, vi 0]]⟩ :: ⟨.op b8 b7 0, 299, 17, [.agg [vs x0.scope.Program.Name, a9, b3, b1, b2, b4, a8, b0, a6, a7, a4, a5, a0, a1, a2, a3, vi (wr (x0.next + 1))]]⟩ :: R_) := j8
 refine ca ?_
 refine xk (k := 0) (E' := [(25, .op b8 b7 (0 + 16)), (24, .op b8 b7 0), (23, vi (wr (x0.next + 1))), (22, vi x0.next), (21, .op b8 b7 (0 + 16)), (20, .op b8 b7 0), (19, .op b8 b7 0), (3, .fp e9), (18, e9), (17, .fp e9), (16, vi x0.next), (15, .op b8 b7 (0 + 16)), (14, .op b8 b7 0), (13, .op b8 b7 0), (12, p2), (11, .op b8 b7 (0 + 15)), (10, .op b8 b7 0), (9, .op b8 b7 0), (2, .op b6 b5 0), (0, .op b8 b7 0)]) j8 rfl (cy rfl (cy rfl (cy rfl (cy rfl (cy rfl (cy rfl (cy rfl (ti rfl (cy rfl (cy rfl (cy rfl (cy rfl (cy rfl (cy rfl (cy rfl (cy rfl (cy rfl (cy rfl (cy rfl (cy rfl zb)))))))))))))))))))) (fun f8 f1 => ?_)
 replace f1 : Mem f8 (⟨.op b6 b5 0, 301, 2, [.agg [bh 0#32, vi 0]]⟩ :: ⟨.op b8 b7 0, 299, 17, [.agg [vs x0.scope.Program.Name, a9, b3, b1, b2, b4, a8, b0, a6, a7, a4, a5, a0, a1, a2, a3, vi (wr (x0.next + 1))]]⟩ :: R_) := f1
 refine kj (aq (am (sR (fL rfl (af.g_Op e2) rfl rfl ?_))))
 obtain ⟨t0, o5, s⟩ := bt s
 have m6 := ad3 (x0 := (ix x0.nodes x0.next).Op)  
 rw [o5] at m6
 refine cL m6 rfl rfl (ai rfl bf) (nS (bm (sR (bN fi rfl rfl (mV rfl (nS ?_))))))
 refine cg s rfl ?_ ?_ <;> clear s <;> intro c s <;> try simp only [qa] at c
 ·refine am (fq (cb (mV rfl (ca (cb (lD e2 rfl rfl rfl (ca ?_)))))))
  have o8 : Mem f8 (⟨.op b8 b7 0, 299, 17, [.agg [vs x0.scope.Program.Name, a9, b3, b1, b2, b4, a8, b0, a6, a7, a4, a5, a0, a1, a2, a3, vi (wr (x0.next + 1))]]⟩ :: ⟨.op b6 b5 0, 301, 2, [.agg [bh 0#32, vi 0]]⟩ :: R_) := (Mem.front (k := 1) f1 rfl)
  obtain ⟨t1, n1, s⟩ := bt s
  obtain ⟨s3, u6, m3, j6⟩ := cs0 (x0 := ({ scope := x0.scope, env := x0.env, args := x0.args, nodes := x0.nodes, next := (wr (x0.next + 1)) } : ba)) (x1 := (ix x0.nodes x0.next)) e2 (show ba.t.R ({ scope := x0.scope, env := x0.env, args := x0.args, nodes := x0.nodes, next := (wr (x0.next + 1)) } : ba) (.agg [vs x0.scope.Program.Name, a9, b3, b1, b2, b4, a8, b0, a6, a7, a4, a5, a0, a1, a2, a3, vi (wr (x0.next + 1))]) from ⟨a9, b3, b1, b2, b4, a8, b0, a6, a7, a4, a5, a0, a1, a2, a3, rfl, d0, c9, d4, d3, d5, d1, c7, d2, c8, c3, c4, c5, c0, c2, c1⟩) o8 (by exact evp hv (by assumption) (by assumption))
  rw [n1] at j6
  obtain ⟨e5, i3, p8, i0, f5, k5⟩ := j6
  replace f5 := f5.symm; subst f5
  refine im rfl rfl m3 (cb ?_)
  refine ct (k := 1) (v := i3) p8 rfl rfl rfl (TR.cnt aj.t k5) (fun n9 i7 => ?_)
  replace i7 : Mem n9 (⟨.op b8 b7 0, 299, 17, [e5]⟩ :: ⟨.op b6 b5 0, 301, 2, [i3]⟩ :: R_) := i7
  refine ca (kj (aq ?_))
  have l2 : Mem n9 (⟨.op b8 b7 0, 299, 17, [e5]⟩ :: ⟨.op b6 b5 0, 301, 2, [i3]⟩ :: R_) := (Mem.front (k := 0) i7 rfl)
  subst s
  exact iy (.cell rfl (dg (k := 1) i7 rfl (TR.agg aj.t k5)) .nil) ⟨e5, i3, Mem.sub l2 (.cons_cons _ (.cons _ (List.Sublist.refl R_))), i0, rfl, k5⟩
 ·refine sR (bN fi rfl rfl (mV rfl (nS ?_)))
  refine cg s rfl ?_ ?_ <;> clear s <;> intro c s <;> try simp only [qa] at c
  ·refine am (ae8 (ma (lD e2 rfl rfl rfl (ly (ma (mV rfl (ly ?_)))))))
   have p0 : Mem f8 (⟨.op b8 b7 0, 299, 17, [.agg [vs x0.scope.Program.Name, a9, b3, b1, b2, b4, a8, b0, a6, a7, a4, a5, a0, a1, a2, a3, vi (wr (x0.next + 1))]]⟩ :: ⟨.op b6 b5 0, 301, 2, [.agg [bh 0#32, vi 0]]⟩ :: R_) := (Mem.front (k := 1) f1 rfl)
   obtain ⟨s9, o2, s⟩ := bt s
   obtain ⟨s5, t9, n4, j4⟩ := ihR (z0 := ({ scope := x0.scope, env := x0.env, args := x0.args, nodes := x0.nodes, next := (wr (x0.next + 1)) } : ba)) (show ba.t.R ({ scope := x0.scope, env := x0.env, args := x0.args, nodes := x0.nodes, next := (wr (x0.next + 1)) } : ba) (.agg [vs x0.scope.Program.Name, a9, b3, b1, b2, b4, a8, b0, a6, a7, a4, a5, a0, a1, a2, a3, vi (wr (x0.next + 1))]) from ⟨a9, b3, b1, b2, b4, a8, b0, a6, a7, a4, a5, a0, a1, a2, a3, rfl, d0, c9, d4, d3, d5, d1, c7, d2, c8, c3, c4, c5, c0, c2, c1⟩) p0 (by first | exact ev1 hv (by assumption) (by assumption) | exact ev2 hv (by assumption) (by assumption) (by assumption) hrec (by assumption) | exact ev3 hv (by assumption) (by assumption) (by assumption) (by assumption) hrec (by assumption) (by assumption)) (by rw [hmu]; first | exact dv1 hv (by assumption) (by assumption) | exact dv2 hv (by assumption) (by assumption) (by assumption) hrec (by assumption) | exact dv3 hv (by assumption) (by assumption) (by assumption) (by assumption) hrec (by assumption) (by assumption))
   rw [o2] at j4
   obtain ⟨e7, u2, q7, h8, g8, n6⟩ := j4
   replace g8 := g8.symm; subst g8
   refine wn rfl rfl n4 (ma ?_)
   obtain ⟨u8, l1, s⟩ := bt s
   obtain ⟨i1, p6, i5⟩ := ck7  e2 n6 
   rw [l1] at i5
   refine cL p6 rfl rfl (ai (TR.clo af.t e2) (ai (TR.clo aj.t n6) bf)) (ly (ma ?_))
   refine ct (k := 1) (v := i1) q7 rfl rfl rfl (TR.cnt aj.t i5) (fun m8 i4 => ?_)
   replace i4 : Mem m8 (⟨.op b8 b7 0, 299, 17, [e7]⟩ :: ⟨.op b6 b5 0, 301, 2, [i1]⟩ :: R_) := i4
   refine ly (bv6 (aq ?_))
   have n8 : Mem m8 (⟨.op b8 b7 0, 299, 17, [e7]⟩ :: ⟨.op b6 b5 0, 301, 2, [i1]⟩ :: R_) := (Mem.front (k := 0) i4 rfl)
   subst s
   exact iy (.cell rfl (dg (k := 1) i4 rfl (TR.agg aj.t i5)) .nil) ⟨e7, i1, Mem.sub n8 (.cons_cons _ (.cons _ (List.Sublist.refl R_))), h8, rfl, i5⟩
  ·refine sR (bN fi rfl rfl (mV rfl (nS ?_)))
   refine cg s rfl ?_ ?_ <;> clear s <;> intro c s <;> try simp only [qa] at c
   ·refine am (fq (cb (mV rfl (ca ?_))))
    have q4 : Mem f8 (⟨.op b8 b7 0, 299, 17, [.agg [vs x0.scope.Program.Name, a9, b3, b1, b2, b4, a8, b0, a6, a7, a4, a5, a0, a1, a2, a3, vi (wr (x0.next + 1))]]⟩ :: ⟨.op b6 b5 0, 301, 2, [.agg [bh 0#32, vi 0]]⟩ :: R_) := (Mem.front (k := 1) f1 rfl)
    obtain ⟨q3, n2, s⟩ := bt s
    obtain ⟨s2, t6, n0, j2⟩ := ihR (z0 := ({ scope := x0.scope, env := x0.env, args := x0.args, nodes := x0.nodes, next := (wr (x0.next + 1)) } : ba)) (show ba.t.R ({ scope := x0.scope, env := x0.env, args := x0.args, nodes := x0.nodes, next := (wr (x0.next + 1)) } : ba) (.agg [vs x0.scope.Program.Name, a9, b3, b1, b2, b4, a8, b0, a6, a7, a4, a5, a0, a1, a2, a3, vi (wr (x0.next + 1))]) from ⟨a9, b3, b1, b2, b4, a8, b0, a6, a7, a4, a5, a0, a1, a2, a3, rfl, d0, c9, d4, d3, d5, d1, c7, d2, c8, c3, c4, c5, c0, c2, c1⟩) q4 (by first | exact ev1 hv (by assumption) (by assumption) | exact ev2 hv (by assumption) (by assumption) (by assumption) hrec (by assumption) | exact ev3 hv (by assumption) (by assumption) (by assumption) (by assumption) hrec (by assumption) (by assumption)) (by rw [hmu]; first | exact dv1 hv (by assumption) (by assumption) | exact dv2 hv (by assumption) (by assumption) (by assumption) hrec (by assumption) | exact dv3 hv (by assumption) (by assumption) (by assumption) (by assumption) hrec (by assumption) (by assumption))
    rw [n2] at j2
    obtain ⟨f2, f0, r4, h2, f6, i8⟩ := j2
    replace f6 := f6.symm; subst f6
    refine im rfl rfl n0 (cb ?_)
    refine ej (x := .agg [bh 0#32, vi 0]) r4 rfl rfl (fun g5 g2 t8 q0 => ?_)
    refine ca (cb ?_)
    refine ct (k := 0) (v := f0) q0 rfl rfl rfl (TR.cnt aj.t i8) (fun l5 k4 => ?_)
    replace k4 : Mem l5 (⟨.op g5 g2 0, 301, 2, [f0]⟩ :: ⟨.op b8 b7 0, 299, 17, [f2]⟩ :: ⟨.op b6 b5 0, 301, 2, [.agg [bh 0#32, vi 0]]⟩ :: R_) := k4
    refine ca (kj (aq (am (fq (cb (mV rfl (ca ?_)))))))
    have q8 : Mem l5 (⟨.op b8 b7 0, 299, 17, [f2]⟩ :: ⟨.op g5 g2 0, 301, 2, [f0]⟩ :: ⟨.op b6 b5 0, 301, 2, [.agg [bh 0#32, vi 0]]⟩ :: R_) := (Mem.front (k := 1) k4 rfl)
    obtain ⟨u3, m1, s⟩ := bt s
    obtain ⟨s1, t2, o1, j7⟩ := ihR (z0 := q3.2) h2 q8 (by first | exact ev1 hv (by assumption) (by assumption) | exact ev2 hv (by assumption) (by assumption) (by assumption) hrec (by assumption) | exact ev3 hv (by assumption) (by assumption) (by assumption) (by assumption) hrec (by assumption) (by assumption)) (by rw [hmu]; first | exact dv1 hv (by assumption) (by assumption) | exact dv2 hv (by assumption) (by assumption) (by assumption) hrec (by assumption) | exact dv3 hv (by assumption) (by assumption) (by assumption) (by assumption) hrec (by assumption) (by assumption))
    rw [m1] at j7
    obtain ⟨d9, h6, q1, h5, g3, h7⟩ := j7
    replace g3 := g3.symm; subst g3
    refine im rfl rfl o1 (cb ?_)
    refine ej (x := .agg [bh 0#32, vi 0]) q1 rfl rfl (fun k0 j9 u5 r9 => ?_)
    refine ca (cb ?_)
    refine ct (k := 0) (v := h6) r9 rfl rfl rfl (TR.cnt aj.t h7) (fun p5 g0 => ?_)
    replace g0 : Mem p5 (⟨.op k0 j9 0, 301, 2, [h6]⟩ :: ⟨.op b8 b7 0, 299, 17, [d9]⟩ :: ⟨.op g5 g2 0, 301, 2, [f0]⟩ :: ⟨.op b6 b5 0, 301, 2, [.agg [bh 0#32, vi 0]]⟩ :: R_) := g0
    refine ca (kj (aq (sR (fL rfl (af.g_Op e2) rfl rfl (ae (ir (k := 2) g0 rfl rfl (TR.agg aj.t i8)) (ae (ir (k := 0) g0 rfl rfl (TR.agg aj.t h7)) ?_))))))
    obtain ⟨s7, m7, s⟩ := bt s
    obtain ⟨h4, r8, i9⟩ := ct4 (x0 := (ix x0.nodes x0.next).Op) i8 h7 
    rw [m7] at i9
    refine cL r8 rfl rfl (ai rfl (ai (TR.clo aj.t i8) (ai (TR.clo aj.t h7) bf))) ?_
    refine ct (k := 3) (v := h4) g0 rfl rfl rfl (TR.cnt aj.t i9) (fun l9 j0 => ?_)
    replace j0 : Mem l9 (⟨.op k0 j9 0, 301, 2, [h6]⟩ :: ⟨.op b8 b7 0, 299, 17, [d9]⟩ :: ⟨.op g5 g2 0, 301, 2, [f0]⟩ :: ⟨.op b6 b5 0, 301, 2, [h4]⟩ :: R_) := j0
    refine nS ?_
    have l6 : Mem l9 (⟨.op b8 b7 0, 299, 17, [d9]⟩ :: ⟨.op k0 j9 0, 301, 2, [h6]⟩ :: ⟨.op g5 g2 0, 301, 2, [f0]⟩ :: ⟨.op b6 b5 0, 301, 2, [h4]⟩ :: R_) := (Mem.front (k := 1) j0 rfl)
    subst s
    exact iy (.cell rfl (dg (k := 3) j0 rfl (TR.agg aj.t i9)) .nil) ⟨d9, h4, Mem.sub l6 (.cons_cons _ (.cons _ (.cons _ (.cons _ (List.Sublist.refl R_))))), h5, rfl, i9⟩
   ·refine az (de (aq (am (fq (cb (mV rfl (ca ?_)))))))
    have r3 : Mem f8 (⟨.op b8 b7 0, 299, 17, [.agg [vs x0.scope.Program.Name, a9, b3, b1, b2, b4, a8, b0, a6, a7, a4, a5, a0, a1, a2, a3, vi (wr (x0.next + 1))]]⟩ :: ⟨.op b6 b5 0, 301, 2, [.agg [bh 0#32, vi 0]]⟩ :: R_) := (Mem.front (k := 1) f1 rfl)
    obtain ⟨n3, m4, s⟩ := bt s
    obtain ⟨s6, u7, l3, j1⟩ := ihR (z0 := ({ scope := x0.scope, env := x0.env, args := x0.args, nodes := x0.nodes, next := (wr (x0.next + 1)) } : ba)) (show ba.t.R ({ scope := x0.scope, env := x0.env, args := x0.args, nodes := x0.nodes, next := (wr (x0.next + 1)) } : ba) (.agg [vs x0.scope.Program.Name, a9, b3, b1, b2, b4, a8, b0, a6, a7, a4, a5, a0, a1, a2, a3, vi (wr (x0.next + 1))]) from ⟨a9, b3, b1, b2, b4, a8, b0, a6, a7, a4, a5, a0, a1, a2, a3, rfl, d0, c9, d4, d3, d5, d1, c7, d2, c8, c3, c4, c5, c0, c2, c1⟩) r3 (by first | exact ev1 hv (by assumption) (by assumption) | exact ev2 hv (by assumption) (by assumption) (by assumption) hrec (by assumption) | exact ev3 hv (by assumption) (by assumption) (by assumption) (by assumption) hrec (by assumption) (by assumption)) (by rw [hmu]; first | exact dv1 hv (by assumption) (by assumption) | exact dv2 hv (by assumption) (by assumption) (by assumption) hrec (by assumption) | exact dv3 hv (by assumption) (by assumption) (by assumption) (by assumption) hrec (by assumption) (by assumption))
    rw [m4] at j1
    obtain ⟨f4, d6, o7, i6, f3, m9⟩ := j1
    replace f3 := f3.symm; subst f3
    refine im rfl rfl l3 (cb ?_)
    refine ej (x := .agg [bh 0#32, vi 0]) o7 rfl rfl (fun e1 d8 t5 r5 => ?_)
    refine ca (cb ?_)
    refine ct (k := 0) (v := d6) r5 rfl rfl rfl (TR.cnt aj.t m9) (fun m0 k7 => ?_)
    replace k7 : Mem m0 (⟨.op e1 d8 0, 301, 2, [d6]⟩ :: ⟨.op b8 b7 0, 299, 17, [f4]⟩ :: ⟨.op b6 b5 0, 301, 2, [.agg [bh 0#32, vi 0]]⟩ :: R_) := k7
    refine ca (kj (aq (am (fq (cb (mV rfl (ca ?_)))))))
    have p7 : Mem m0 (⟨.op b8 b7 0, 299, 17, [f4]⟩ :: ⟨.op e1 d8 0, 301, 2, [d6]⟩ :: ⟨.op b6 b5 0, 301, 2, [.agg [bh 0#32, vi 0]]⟩ :: R_) := (Mem.front (k := 1) k7 rfl)
    obtain ⟨p3, n5, s⟩ := bt s
    obtain ⟨s0, u4, l4, j3⟩ := ihR (z0 := n3.2) i6 p7 (by first | exact ev1 hv (by assumption) (by assumption) | exact ev2 hv (by assumption) (by assumption) (by assumption) hrec (by assumption) | exact ev3 hv (by assumption) (by assumption) (by assumption) (by assumption) hrec (by assumption) (by assumption)) (by rw [hmu]; first | exact dv1 hv (by assumption) (by assumption) | exact dv2 hv (by assumption) (by assumption) (by assumption) hrec (by assumption) | exact dv3 hv (by assumption) (by assumption) (by assumption) (by assumption) hrec (by assumption) (by assumption))
    rw [n5] at j3
    obtain ⟨g9, c6, p4, h3, f9, f7⟩ := j3
    replace f9 := f9.symm; subst f9
    refine im rfl rfl l4 (cb ?_)
    refine ej (x := .agg [bh 0#32, vi 0]) p4 rfl rfl (fun e6 e4 u1 r1 => ?_)
    refine ca (cb ?_)
    refine ct (k := 0) (v := c6) r1 rfl rfl rfl (TR.cnt aj.t f7) (fun m2 k6 => ?_)
    replace k6 : Mem m2 (⟨.op e6 e4 0, 301, 2, [c6]⟩ :: ⟨.op b8 b7 0, 299, 17, [g9]⟩ :: ⟨.op e1 d8 0, 301, 2, [d6]⟩ :: ⟨.op b6 b5 0, 301, 2, [.agg [bh 0#32, vi 0]]⟩ :: R_) := k6
    refine ca (kj (aq (am (fq (cb (mV rfl (ca ?_)))))))
    have r6 : Mem m2 (⟨.op b8 b7 0, 299, 17, [g9]⟩ :: ⟨.op e6 e4 0, 301, 2, [c6]⟩ :: ⟨.op e1 d8 0, 301, 2, [d6]⟩ :: ⟨.op b6 b5 0, 301, 2, [.agg [bh 0#32, vi 0]]⟩ :: R_) := (Mem.front (k := 1) k6 rfl)
    obtain ⟨u0, l0, s⟩ := bt s
    obtain ⟨s4, s8, n7, j5⟩ := ihR (z0 := p3.2) h3 r6 (by first | exact ev1 hv (by assumption) (by assumption) | exact ev2 hv (by assumption) (by assumption) (by assumption) hrec (by assumption) | exact ev3 hv (by assumption) (by assumption) (by assumption) (by assumption) hrec (by assumption) (by assumption)) (by rw [hmu]; first | exact dv1 hv (by assumption) (by assumption) | exact dv2 hv (by assumption) (by assumption) (by assumption) hrec (by assumption) | exact dv3 hv (by assumption) (by assumption) (by assumption) (by assumption) hrec (by assumption) (by assumption))
    rw [l0] at j5
    obtain ⟨b9, d7, r2, e8, g6, g4⟩ := j5
    replace g6 := g6.symm; subst g6
    refine im rfl rfl n7 (cb ?_)
    refine ej (x := .agg [bh 0#32, vi 0]) r2 rfl rfl (fun h0 g1 t7 p1 => ?_)
    refine ca (cb ?_)
    refine ct (k := 0) (v := d7) p1 rfl rfl rfl (TR.cnt aj.t g4) (fun q9 e3 => ?_)
    replace e3 : Mem q9 (⟨.op h0 g1 0, 301, 2, [d7]⟩ :: ⟨.op b8 b7 0, 299, 17, [b9]⟩ :: ⟨.op e6 e4 0, 301, 2, [c6]⟩ :: ⟨.op e1 d8 0, 301, 2, [d6]⟩ :: ⟨.op b6 b5 0, 301, 2, [.agg [bh 0#32, vi 0]]⟩ :: R_) := e3
    refine ca (kj (aq (am (sR (ae (bz rfl) (ae (dj (k := 3) e3 rfl rfl (aj.g_v m9)) (ae (bq (a := bh n3.1.v) (b := bh 1#32) rfl rfl ca5) (nS ?_))))))))
    refine cg s rfl ?_ ?_ <;> clear s <;> intro c s <;> try simp only [qa] at c
    ·refine sR (ae (ir (k := 2) e3 rfl rfl (TR.agg aj.t f7)) ?_)
     refine ct (k := 4) (v := c6) e3 rfl rfl rfl (TR.cnt aj.t f7) (fun o3 i2 => ?_)
     replace i2 : Mem o3 (⟨.op h0 g1 0, 301, 2, [d7]⟩ :: ⟨.op b8 b7 0, 299, 17, [b9]⟩ :: ⟨.op e6 e4 0, 301, 2, [c6]⟩ :: ⟨.op e1 d8 0, 301, 2, [d6]⟩ :: ⟨.op b6 b5 0, 301, 2, [c6]⟩ :: R_) := i2
     refine nS ?_
     have o0 : Mem o3 (⟨.op b8 b7 0, 299, 17, [b9]⟩ :: ⟨.op h0 g1 0, 301, 2, [d7]⟩ :: ⟨.op e6 e4 0, 301, 2, [c6]⟩ :: ⟨.op e1 d8 0, 301, 2, [d6]⟩ :: ⟨.op b6 b5 0, 301, 2, [c6]⟩ :: R_) := (Mem.front (k := 1) i2 rfl)
     subst s
     exact iy (.cell rfl (dg (k := 4) i2 rfl (TR.agg aj.t f7)) .nil) ⟨b9, c6, Mem.sub o0 (.cons_cons _ (.cons _ (.cons _ (.cons _ (.cons _ (List.Sublist.refl R_)))))), e8, rfl, f7⟩
    ·refine az (aq (sR (ae (ir (k := 0) e3 rfl rfl (TR.agg aj.t g4)) ?_)))
     refine ct (k := 4) (v := d7) e3 rfl rfl rfl (TR.cnt aj.t g4) (fun l8 h1 => ?_)
     replace h1 : Mem l8 (⟨.op h0 g1 0, 301, 2, [d7]⟩ :: ⟨.op b8 b7 0, 299, 17, [b9]⟩ :: ⟨.op e6 e4 0, 301, 2, [c6]⟩ :: ⟨.op e1 d8 0, 301, 2, [d6]⟩ :: ⟨.op b6 b5 0, 301, 2, [d7]⟩ :: R_) := h1
     refine nS ?_
     have k9 : Mem l8 (⟨.op b8 b7 0, 299, 17, [b9]⟩ :: ⟨.op h0 g1 0, 301, 2, [d7]⟩ :: ⟨.op e6 e4 0, 301, 2, [c6]⟩ :: ⟨.op e1 d8 0, 301, 2, [d6]⟩ :: ⟨.op b6 b5 0, 301, 2, [d7]⟩ :: R_) := (Mem.front (k := 1) h1 rfl)
     subst s
     exact iy (.cell rfl (dg (k := 4) h1 rfl (TR.agg aj.t g4)) .nil) ⟨b9, d7, Mem.sub k9 (.cons_cons _ (.cons _ (.cons _ (.cons _ (.cons _ (List.Sublist.refl R_)))))), e8, rfl, g4⟩
theorem ce6 : ∀ (n_ : Nat) {x0 : ba} {a3 : PV} {R_ : List Ent} {h_ : Heap} {a2 a1 : Nat} (a0 : ba.t.R x0 a3) (M_ : Mem h_ (⟨.op a2 a1 0, 299, 17, [a3]⟩ :: R_)) (hv : VE x0), x0.nodes.length - x0.next.toNat < n_ → ∃ r a4, FnX Tryz.prog 273 [.op a2 a1 0] h_ r a4 ∧ RF273 a2 a1 R_ (fw n_ x0) r a4 := by
 intro n_
 induction n_ with
 | zero => intros; rename_i hlt; exact absurd hlt (Nat.not_lt_zero _)
 | succ n_ ihn =>
  intro x0 a3 R_ h_ a2 a1 a0 M_ hv hlt
  have e_ : fw (n_ + 1) x0 = jz (fw n_) x0 := by rw [fw]
  rw [e_]
  exact bv1 a0 M_ hv rfl (ak4 n_) (fun {z0} {a3} {R_} {h_} {a2} {a1} a0 M_ hv hz => ihn a0 M_ hv (by omega))
theorem ck1 {x0 : ba} {a3 : PV} {R_ : List Ent} {h_ : Heap} {a2 a0 : Nat} (a1 : ba.t.R x0 a3) (M_ : Mem h_ (⟨.op a2 a0 0, 299, 17, [a3]⟩ :: R_)) (hv : VE x0) : ∃ r a4, FnX Tryz.prog 273 [.op a2 a0 0] h_ r a4 ∧ RF273 a2 a0 R_ (oe x0) r a4 := ce6 _ a1 M_ hv (Nat.lt_succ_self _)

def RF228 (res : (BitVec 32)) (r : PV) : Prop := r = bh res
theorem cj6 {x0 : List af} {x1 : bc} {x2 : au} {x3 : List (BitVec 32)} {v0 v1 v2 v3 : PV} (r0 : (tSl af.t).R x0 v0) (r1 : bc.t.R x1 v1) (r2 : au.t.R x2 v2) (r3 : (tSl dn).R x3 v3) : FnR Tryz.prog 228 [v0, v1, v2, v3] (bh (aa4 x0 x1 x2 x3)) := by
 refine fnS (R := RF228) bl2 (fun _ h => h) rfl fun res s => ?_
 unfold aa4 at s
 refine sR (ae (dm rfl (TR.cnt bc.t r1)) (ae (dm rfl (TR.cnt au.t r2)) (ae (v := bh 0#32) (av rfl) (nS (am (sR (mV rfl (lD r1 rfl rfl rfl ?_))))))))
 obtain ⟨e5, d1, s⟩ := bt s
 have d5 := ap9  r0 r1 
 rw [d1] at d5
 refine cL d5 rfl rfl (ai (TR.clo (tSl af.t) r0) (ai (TR.clo bc.t r1) bf)) (mV rfl (xT rfl rfl (xT rfl rfl (mV rfl (mV rfl (nR (mV rfl (bN mi rfl rfl ?_))))))))
 refine nS ?_
 refine cg s rfl ?_ ?_ <;> clear s <;> intro c s <;> try simp only [qa] at c
 ·refine sR (ae (v := bh 0#32) (av rfl) (nS ?_))
  exact rR s rfl rfl rfl
 ·refine az (aq (sR (lD r1 rfl rfl rfl (lD r2 rfl rfl rfl (mV rfl (mV rfl ?_))))))
  obtain ⟨a1, a9, a3, a0, a4, a5, a6, a7, b1, e2, b6, b7, b8, c1, c4, c6, c3, c0, c5⟩ := r1
  subst e2
  obtain ⟨a8, b0, b2, a2, d8, b9, c2, b5, b4⟩ := r2
  subst d8
  refine ae (v := .agg [vs x1.Program.Name, a1, a9, a3, a0, a4, a5, a6, a7, b1, a8, b0, b2, a2, v3, v0, vi 0]) (fk (cs := [vs x1.Program.Name, a1, a9, a3, a0, a4, a5, a6, a7, b1, a8, b0, b2, a2, v3, v0, vi 0]) rfl (by simp only [buildV, ou (TR.cnt (tSl dn) r3) (TR.agg (tSl dn) r3), ou (TR.cnt (tSl af.t) r0) (TR.agg (tSl af.t) r0)]; rfl)) ?_
  refine ej (x := .agg [vs [], nilS, nilS, nilS, nilS, nilS, nilS, nilS, nilS, nilS, nilS, nilS, nilS, nilS, nilS, nilS, vi 0]) (Mem.nil ⟨0, []⟩) rfl rfl (fun d0 d4 e8 d7 => ?_)
  refine ct (k := 0) (v := .agg [vs x1.Program.Name, a1, a9, a3, a0, a4, a5, a6, a7, b1, a8, b0, b2, a2, v3, v0, vi 0]) d7 rfl rfl rfl rfl (fun d2 c8 => ?_)
  replace c8 : Mem d2 [⟨.op d0 d4 0, 299, 17, [.agg [vs x1.Program.Name, a1, a9, a3, a0, a4, a5, a6, a7, b1, a8, b0, b2, a2, v3, v0, vi 0]]⟩] := c8
  refine nS (am (fq ?_))
  have d9 : Mem d2 [⟨.op d0 d4 0, 299, 17, [.agg [vs x1.Program.Name, a1, a9, a3, a0, a4, a5, a6, a7, b1, a8, b0, b2, a2, v3, v0, vi 0]]⟩] := (Mem.front (k := 0) c8 rfl)
  obtain ⟨f0, c9, s⟩ := bt s
  obtain ⟨e4, e7, d3, c7⟩ := ck1 (x0 := ({ scope := x1, env := x2, args := x3, nodes := x0, next := 0 } : ba)) (show ba.t.R ({ scope := x1, env := x2, args := x3, nodes := x0, next := 0 } : ba) (.agg [vs x1.Program.Name, a1, a9, a3, a0, a4, a5, a6, a7, b1, a8, b0, b2, a2, v3, v0, vi 0]) from ⟨a1, a9, a3, a0, a4, a5, a6, a7, b1, a8, b0, b2, a2, v3, v0, rfl, b6, b7, b8, c1, c4, c6, c3, c0, c5, b9, c2, b5, b4, r3, r0⟩) d9 (by exact ev0 (by assumption) (by assumption) _ _)
  rw [c9] at c7
  obtain ⟨e3, e6, e9, d6, b3, e1⟩ := c7
  replace b3 := b3.symm; subst b3
  refine im rfl rfl d3 (cb (ae (ag7 rfl (aj.g_v e1)) (ca (cb (mV rfl (ca (kj (aq ?_))))))))
  exact rR s rfl rfl rfl

def RF189 (res : (BitVec 32)) (r : PV) : Prop := r = bh res
theorem ad6 {x0 : aw} {x1 : List af} {v0 v1 : PV} (r0 : aw.t.R x0 v0) (r1 : (tSl af.t).R x1 v1) : FnR Tryz.prog 189 [.fp v0, v1] (bh (jp x0 x1)) := by
 refine fnS (R := RF189) bi1 (fun _ h => h) rfl fun res s => ?_
 unfold jp at s
 refine sR (ae (v := bh 0#32) (av rfl) (nR (mV rfl (mV rfl (ae (cx rfl rfl) ?_)))))
 obtain ⟨a9, a5, a1⟩ := aw.g_scope r0
 refine fA rfl a5 (lD a1 rfl rfl rfl (mV rfl (ae (cx rfl rfl) ?_)))
 obtain ⟨b0, a7, a2⟩ := aw.g_env r0
 refine fA rfl a7 (lD a2 rfl rfl rfl (mV rfl (ae (cx rfl rfl) ?_)))
 obtain ⟨b1, a6, a0⟩ := aw.g_args r0
 refine fA rfl a6 (lD a0 rfl rfl rfl ?_)
 obtain ⟨a8, a4, s⟩ := bt s
 have a3 := cj6  r1 a1 a2 a0 
 rw [a4] at a3
 refine cL a3 rfl rfl (ai (TR.clo (tSl af.t) r1) (ai (TR.clo bc.t a1) (ai (TR.clo au.t a2) (ai (TR.clo (tSl dn) a0) bf)))) (mV rfl (nS ?_))
 exact rR s rfl rfl rfl

def RF118 (i0_ w0_ : Nat) (R_ : List Ent) (res : aw) (r : PV) (h : Heap) : Prop := ∃ uF0 : PV, Mem h (⟨.op i0_ w0_ 0, 171, 16, [uF0]⟩ :: R_) ∧ (aw.t.R res uF0) ∧ r = .tup []
theorem cu5 {x0 : aw} {x1 : ak} {v1 g3 : PV} {R_ : List Ent} {h_ : Heap} {d3 d2 : Nat} (r1 : ak.t.R x1 v1) (b6 : aw.t.R x0 g3) (M_ : Mem h_ (⟨.op d3 d2 0, 171, 16, [g3]⟩ :: R_)) (hE : EB x0.env) : ∃ r g4, FnX Tryz.prog 118 [.op d3 d2 0, v1] h_ r g4 ∧ RF118 d3 d2 R_ (jy x0 x1) r g4 := by
 refine fnXX (R := RF118 d3 d2 R_) bj7 rfl fun res s => ?_
 unfold jy at s
 refine sR (ae (dm rfl (TR.cnt ak.t r1)) (nS (ay (mV rfl (mV rfl (ae (cx rfl rfl) (ae (bz rfl) (ae (bz rfl) ?_))))))))
 obtain ⟨g9, f3, f4⟩ := aw.g_scope b6
 obtain ⟨g8, f7, e8⟩ := bc.g_Program f4
 refine ae (dj (k := 0) M_ rfl rfl (nl f3 f7)) (mV rfl (ae (cx rfl rfl) (ae (bz rfl) ?_)))
 obtain ⟨g6, g0, d4⟩ := aw.g_env b6
 refine ae (dj (k := 0) M_ rfl rfl g0) (gL (ak.g_Dst r1) rfl rfl rfl fun g5 f1 => (mV rfl (gL (ak.g_Value r1) rfl rfl rfl fun h0 e7 => ?_)))
 have f9 := ae0 (P := Tryz.prog) (k := 0) M_ rfl (TR.clo aw.t b6)
 obtain ⟨f5, d7, s⟩ := bt s
 have e9 := ad6  b6 e7 
 rw [d7] at e9
 refine st (sm rfl rfl (lz f9 (lz (cp (TR.clo (tSl af.t) e7)) ua)) e9 rfl) ?_
 obtain ⟨f8, d5, s⟩ := bt s
 obtain ⟨g7, f6, e3⟩ := bh0 (x3 := f5) e8 d4 f1 (by first | assumption | omega | (rw [ee (by omega) (by omega)]; omega) | (have hk := rval rfl (And.right (And.left (by assumption))); omega) | (have hk := rval (by assumption) (by assumption); omega) | (have hk := rval (by assumption) (And.left (by assumption)); omega) | (have hk := rval (by assumption) (And.left (And.left (by assumption))); have hz := rslc (by assumption); omega) | (simp; done) | (simp only [List.length_append, List.length_nil, List.length_cons]; omega) | (have hk := (dx (by assumption) (by assumption)).1; omega) | (simp only [List.length_cons, List.length_nil]; omega) | (simp only [List.length_append]; have hk := (dx (by assumption) (by assumption)).1; omega) | (simp only [List.length_append, List.length_nil]; have hk := (dx (by assumption) (by assumption)).1; omega))
 rw [d5] at e3
 refine cL f6 rfl rfl (ai (TR.clo ab.t e8) (ai (TR.clo au.t d4) (ai (TR.clo aa.t f1) (ai rfl bf)))) (ae (cx rfl rfl) (ae (bz rfl) ?_))
 obtain ⟨b1, a9, b3, a7, a6, b0, b2, a8, b4, a1, d6, e6, d8, e1, a0, g2, b8, c6, d0, c8, c3, c9, c5, c0, c4, b7, d9, e4, e2, f0, b5⟩ := b6
 subst g2
 obtain ⟨a4, a3, a5, a2, g1, c1, b9, c7, c2⟩ := e3
 subst g1
 refine me (k := 0) (v := .agg [a4, a3, a5, a2]) M_ rfl rfl rfl rfl rfl (by first | decide | (simp only [List.length_cons, List.length_nil]; omega) | simp) (fun e5 d1 => ?_)
 replace d1 : Mem e5 (⟨.op d3 d2 0, 171, 16, [.agg [vs x0.scope.Program.Name, b1, a9, b3, a7, a6, b0, b2, a8, b4, a1, a4, a3, a5, a2, a0]]⟩ :: R_) := d1
 refine br ?_
 have f2 : Mem e5 (⟨.op d3 d2 0, 171, 16, [.agg [vs x0.scope.Program.Name, b1, a9, b3, a7, a6, b0, b2, a8, b4, a1, a4, a3, a5, a2, a0]]⟩ :: R_) := (Mem.front (k := 0) d1 rfl)
 subst s
 exact yu .nil ⟨(.agg [vs x0.scope.Program.Name, b1, a9, b3, a7, a6, b0, b2, a8, b4, a1, a4, a3, a5, a2, a0]), Mem.sub f2 (.cons_cons _ (List.Sublist.refl R_)), (show aw.t.R ({ scope := x0.scope, args := x0.args, env := f8, regs := x0.regs } : aw) (.agg [vs x0.scope.Program.Name, b1, a9, b3, a7, a6, b0, b2, a8, b4, a1, a4, a3, a5, a2, a0]) from ⟨b1, a9, b3, a7, a6, b0, b2, a8, b4, a1, a4, a3, a5, a2, a0, rfl, b8, c6, d0, c8, c3, c9, c5, c0, c4, b7, c1, b9, c7, c2, b5⟩), rfl⟩

def RF274 (res : Bool) (r : PV) : Prop := r = vb res
theorem cp4 {x0 : List cj} {x1 : Int} {v0 : PV} (r0 : (tSl cj.t).R x0 v0) : FnR Tryz.prog 274 [v0, vi x1] (vb (il x0 x1)) := by
 refine fnS (R := RF274) bj9 (fun _ h => h) rfl fun res s => ?_
 unfold il at s
 refine sR (mB rfl (nR (mV rfl (bN mo rfl rfl (mV rfl ?_)))))
 refine cq 5 (d := 12) (v := vb ((decide (0 ≤ x1)) && (decide (x1 < (x0.length : Int))))) ?_ ?_
 ·intro S Q r
  cases a1 : (decide (0 ≤ x1))
  ·exact gN 4 rfl rfl rfl rfl rfl rfl
  ·intro k
   have a0 := a1
   try simp only [qa] at a0
   refine ah rfl rfl (av rfl) (ah rfl rfl (av rfl) (ah rfl rfl (cv rfl (ci r0 Tryz.underlying22 _)) (ah rfl rfl (bq rfl rfl cw) ?_)))
   exact gK rfl rfl rfl rfl rfl k
 refine mV rfl (nS ?_)
 exact rR s rfl rfl rfl

def RF275 (res : Bool) (r : PV) : Prop := r = vb res
theorem co5 {x0 : List Bool} {x1 : Int} {v0 : PV} (r0 : (tSl tB).R x0 v0) : FnR Tryz.prog 275 [v0, vi x1] (vb (lj x0 x1)) := by
 refine fnS (R := RF275) bj6 (fun _ h => h) rfl fun res s => ?_
 unfold lj at s
 refine sR (mB rfl (nR (mV rfl (bN mo rfl rfl (mV rfl ?_)))))
 refine cq 5 (d := 12) (v := vb ((decide (0 ≤ x1)) && (decide (x1 < (x0.length : Int))))) ?_ ?_
 ·intro S Q r
  cases a1 : (decide (0 ≤ x1))
  ·exact gN 4 rfl rfl rfl rfl rfl rfl
  ·intro k
   have a0 := a1
   try simp only [qa] at a0
   refine ah rfl rfl (av rfl) (ah rfl rfl (av rfl) (ah rfl rfl (cv rfl (ci r0 Tryz.underlying41 _)) (ah rfl rfl (bq rfl rfl cw) ?_)))
   exact gK rfl rfl rfl rfl rfl k
 refine mV rfl (nS ?_)
 exact rR s rfl rfl rfl

theorem cr5 {P : Program} {S : List Fr} {Q : Post} {E : TEnv} {h : Heap} {L : List Ent} {k : Nat} {ty : TypeId} {v zz : PV} {es : List PV} {z : Value} {x : Operand} {r : List AOper} {hf : Bool} (M : Mem h L) (ex : evE E x = some v) (hk : L[k]? = some ⟨v, ty, 1, es⟩) (hne : isL v = true) (hw : Wri v es) (hz : z.cells.toList.map PV.sc = [zz]) (hzc : zz.cellsOf = some [zz]) (hzn : cnt zz = some 1)
  (K : ∀ h', Mem h' (L.set k ⟨v, ty, 1, List.replicate es.length zz⟩) → RD P r S Q E h') : RD P (⟨none, .clr 1 z x, none, hf⟩ :: r) S Q E h := by
 obtain ⟨h', lv, M'⟩ := cf5 (P := P) M ex hk hne hw hz hzc hzn
 exact yy lv (K h' M')
theorem cd7 {l : List Bool} {i : Int} (h : lj l i = true) : 0 ≤ i ∧ i < l.length := by
 unfold lj at h
 simpa using h
theorem bg0 {x0 : ab} {x1 : au} {x2 : Int} {x3 x4 : Bool} {v0 v1 : PV} (r0 : ab.t.R x0 v0) (r1 : au.t.R x1 v1) (hE : EB x1) : ∃ r, FnR Tryz.prog 229 [v0, v1, vi x2, vb x3, vb x4] r ∧ au.t.R (ga x0 x1 x2 x3 x4) r := by
 refine fnE bi2 (by simp) ?_
 refine am (ay ?_)
 refine ae (dm rfl (TR.cnt ab.t r0)) (ae (dm rfl (TR.cnt au.t r1)) ?_)
 refine ej (x := .agg [nilS, nilS, nilS, nilS]) (Mem.nil _) rfl rfl (fun i8 w8 h8 M8 => ?_)
 refine br (aq (am (fq ?_)))
 refine cb (ae (bv rfl (TR.cnt au.t r1) (TR.agg au.t r1)) (ca ?_))
 obtain ⟨rr, k, X, a, b, c, d, eb, ef, em, ep, I, rfl, H⟩ := ag1 r1 hE M8
 refine im rfl rfl X ?_
 refine cb (ej (x := .agg [nilS, nilS, nilS, nilS]) H.M rfl rfl (fun i9 w9 h9 M9 => ca ?_))
 refine cb (ct (k := 0) (v := .agg [a, b, c, d]) M9 rfl rfl rfl rfl (fun a3 a1 => ca (kj ?_)))
 replace H := H.push (g := ⟨.op i9 w9 0, 46, 4, [.agg [a, b, c, d]]⟩) a1
 clear M8 M9 a1 X
 obtain ⟨d0, a2, s0⟩ := qj (P := Tryz.prog) (t := tB) H.M (k := 0) rfl H.na H.v (by have := hE.v; omega)
 have g0 : fieldR 0 1 false (.agg [a, b, c, d]) = some a := mk1 (ft H.M (k := 0) rfl H.na).2
 have g1 : fieldR 1 1 false (.agg [a, b, c, d]) = some b := mk1 (ft H.M (k := 1) rfl H.nb).2
 have Mp := H.pull
 refine aq (am (am (ay ?_)))
 refine gL (ab.g_Headers r0) rfl rfl rfl (fun vh rh => mV rfl ?_)
 refine cL (cp4 (x1 := x2) rh) rfl rfl (ai (TR.clo _ rh) (ai rfl bf)) ?_
 refine ae (ju rfl) (mV rfl ?_)
 refine cq 6 (d := 25) (v := vb (!il x0.Headers x2 || !lj x1.Valid x2)) ?_ ?_
 ·intro S Q r
  cases hb : il x0.Headers x2
  ·exact gN 5 rfl rfl rfl rfl rfl rfl
  ·intro k
   refine ah rfl rfl (bz rfl) (ah rfl rfl (dj (k := 0) Mp rfl rfl g0) (ah rfl rfl (av rfl) ?_))
   refine ld rfl rfl (sm rfl rfl (lz a2 (lz (cp rfl) ua)) (co5 (x1 := x2) s0) rfl) (ah rfl rfl (ju rfl) ?_)
   exact gK rfl rfl rfl rfl rfl k
 refine mV rfl ?_
 refine cq 11 (d := 37) (v := vb ((!il x0.Headers x2 || !lj x1.Valid x2) || (x4 && decide (ix x1.Valid x2 = x3)))) ?_ ?_
 ·intro S Q r
  cases a0 : (!il x0.Headers x2 || !lj x1.Valid x2)
  ·intro k
   simp only [Bool.or_eq_false_iff, Bool.not_eq_false'] at a0
   have hi := cd7 a0.2
   refine ah rfl rfl (av rfl) (ah rfl rfl (av rfl) ?_)
   cases x4
   ·refine skips 7 rfl (ah rfl rfl (qx rfl rfl rfl rfl) ?_)
    exact gK rfl rfl rfl rfl rfl k
   ·obtain ⟨xx, he, rx⟩ := qq (i := x2) H.v hi.1 hi.2
    have rx : xx = vb (ix x1.Valid x2) := rx
    subst rx
    obtain ⟨id, ver, n, rfl⟩ := xy H.wa H.v hi.1 hi.2
    have hn := qn H.M (k := 0) rfl
    have hl := H.v.length
    refine ah rfl rfl (bz rfl) (ah rfl rfl (dj (k := 0) Mp rfl rfl g0) (ah rfl rfl (av rfl) ?_))
    refine ah rfl rfl (bg rfl rfl (qe 1 (i := x2) hi.1 (by omega))) (ah rfl rfl (oc (k := 1) Mp rfl rfl he rfl) (ah rfl rfl (av rfl) ?_))
    refine ah rfl rfl (bq rfl rfl (au5 (by rw [Tryz.underlying4]; rfl))) (ah rfl rfl (qx rfl rfl rfl rfl) ?_)
    exact gK rfl rfl rfl rfl rfl k
  ·exact gN 10 rfl rfl rfl rfl rfl rfl
 refine br (aq (am (cd rfl (fun hc => ?_) fun hc => ?_)))
 ·have hs : ga x0 x1 x2 x3 x4 = x1 := by unfold ga; rw [if_pos hc]
  rw [hs]
  exact wm H hE rfl rfl rfl
 ·have hs : ga x0 x1 x2 x3 x4 = swE x1 x2 x3 := by unfold ga; rw [if_neg (by rw [hc]; simp)]
  rw [hs]
  simp only [Bool.or_eq_false_iff, Bool.not_eq_false'] at hc
  have hi := cd7 hc.1.2
  obtain ⟨id, ver, n, rfl⟩ := xy H.wa H.v hi.1 hi.2
  have hn := qn H.M (k := 0) rfl
  have hl := H.v.length
  refine az (aq (am (ay ?_)))
  refine ae (bz rfl) (ae (dj (k := 0) Mp rfl rfl g0) (mV rfl (mV rfl ?_)))
  refine ae (bg rfl rfl (qe 1 (i := x2) hi.1 (by omega))) ?_
  refine ug (k := 0) (i := x2.toNat) H.M rfl rfl rfl (by omega) rfl (fun h' M' => ?_)
  replace H := H.setV M' ⟨_, _, _, rfl⟩
  replace hE := hE.setV (k := x2.toNat) (v := x3)
  clear M' Mp
  have Mp := H.pull
  refine br (aq (am (fq ?_)))
  refine cb (ae (bz rfl) (ca (cb (ae (dj (k := 0) Mp rfl rfl g1) (ca (cb (ae (av rfl) (ca ?_))))))))
  refine im rfl rfl (cy2 H.M (k := 1) rfl H.nb H.wb H.aggs (i := x2)) ?_
  have hlf := H.f.len.1
  by_cases hf : x2 < (ef.length : Int)
  ·obtain ⟨v, es, e1, e2, e3, e4, e5, e6, e7⟩ := H.inner (i := x2) hi.1 (by omega)
   have ev : (if 0 ≤ x2 ∧ x2 < (ef.length : Int) then ef.getD x2.toNat nilS else nilS) = v := by rw [if_pos ⟨hi.1, hf⟩, List.getD_eq_getElem?_getD, e1]; rfl
   rw [ev]
   refine cb (cr5 (zz := bh 0#32) H.M rfl e3 e5 e7 rfl rfl rfl (fun h2 M2 => ca (kj ?_)))
   exact aq (wm (H.clrF e1 e2 e4 e5 e6 e7 M2) (hE.setF (by rw [List.length_replicate]; exact hE.i _ (aq2 hi.1 (by omega)))) rfl rfl rfl)
  ·have ev : (if 0 ≤ x2 ∧ x2 < (ef.length : Int) then ef.getD x2.toNat nilS else nilS) = nilS := if_neg (by omega)
   rw [ev]
   refine cb (yy (v := .tup []) (h' := h') ⟨rfl, fun T hT => by simp only [opL, fg hT (show evE ((47, nilS) :: _) (.tmp 47) = some nilS from rfl)]⟩ (ca (kj ?_)))
   have es : swE x1 x2 x3 = { x1 with Valid := x1.Valid.set x2.toNat x3 } := by
    have : x1.Fields.set x2.toNat (List.replicate (ix x1.Fields x2).length 0#32) = x1.Fields := List.set_eq_of_length_le (by have hlf : ef.length = x1.Fields.length := hlf; omega)
    unfold swE
    rw [this]
   rw [es]
   exact aq (wm H hE rfl rfl rfl)

end Go.Proofs.YtmonnlkagniolaaGreat
