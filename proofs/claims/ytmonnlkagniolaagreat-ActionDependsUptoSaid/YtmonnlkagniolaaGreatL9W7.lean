/-
 The code of each function does what its plain program says.
-/
import Derived.Test.YtmonnlkagniolaaGreatL9W6
set_option linter.unusedVariables false
set_option linter.unusedSimpArgs false
set_option maxRecDepth 100000
namespace Go.Proofs.YtmonnlkagniolaaGreat
open Go Go.Pb Go.RowKit
def RF295 (res : (BitVec 32)) (r : PV) : Prop := r = bm res
theorem cr9 {x0 : BitVec 32} {x1 : Int} : FnR Tryz.prog 295 [bm x0, vi x1] (bm (wu x0 x1)) := by
 refine fnS (R := RF295) bm0 (fun _ h => h) rfl fun res s => ?_
 unfold wu at s
 refine sR (ab (v := bm 0#32) (au rfl) (nR (mV rfl (ab (du4 (a := bm x0) rfl dm2) (mV rfl ?_)))))
 obtain ⟨a2, a1, s⟩ := bn s
 have a0 := lc (x0 := x1)  
 rw [a1] at a0
 refine cL a0 rfl rfl (ai rfl bg) (ab (bz (a := bm (~~~x0)) (b := bm a2) rfl rfl qf) (mV rfl (nS ?_)))
 exact rR s rfl rfl rfl

def RF296 (res : (BitVec 32)) (r : PV) : Prop := r = bm res
theorem cr8 {x0 : BitVec 32} {x1 x2 : Int} : FnR Tryz.prog 296 [bm x0, vi x1, vi x2] (bm (xi x0 x1 x2)) := by
 refine fnS (R := RF296) bk2 (fun _ h => h) rfl fun res s => ?_
 unfold xi at s
 refine sR (ab (v := bm 0#32) (au rfl) (nR (mV rfl (mV rfl (ab (cy rfl (am9 _ _)) (ab (bz (a := bm x0) (b := vi (max x1 0)) rfl rfl (cy5 (by omega))) (mV rfl ?_)))))))
 obtain ⟨a2, a1, s⟩ := bn s
 have a0 := lc (x0 := x2)  
 rw [a1] at a0
 refine cL a0 rfl rfl (ai rfl bg) (ab (bz (a := bm (x0 <<< (max x1 0).toNat)) (b := bm a2) rfl rfl qf) (mV rfl (nS ?_)))
 exact rR s rfl rfl rfl

def RF297 (res : (BitVec 32)) (r : PV) : Prop := r = bm res
theorem cu7 {x0 : BitVec 32} {x1 x2 : Int} : FnR Tryz.prog 297 [bm x0, vi x1, vi x2] (bm (xj x0 x1 x2)) := by
 refine fnS (R := RF297) bn0 (fun _ h => h) rfl fun res s => ?_
 unfold xj at s
 refine sR (ab (v := bm 0#32) (au rfl) (nR (mV rfl (mV rfl ?_))))
 obtain ⟨a2, a1, s⟩ := bn s
 have a0 := lc (x0 := x2)  
 rw [a1] at a0
 refine cL a0 rfl rfl (ai rfl bg) (ab (bz (a := bm x0) (b := bm a2) rfl rfl qf) (mV rfl (ab (cy rfl (am9 _ _)) (ab (bz (a := bm (x0 &&& a2)) (b := vi (max x1 0)) rfl rfl (bu9 (by omega))) (mV rfl (nS ?_))))))
 exact rR s rfl rfl rfl

def RF298 (res : (BitVec 32)) (r : PV) : Prop := r = bm res
theorem cs0 {x0 : BitVec 32} {x1 x2 : Int} : FnR Tryz.prog 298 [bm x0, vi x1, vi x2] (bm (ua x0 x1 x2)) := by
 refine fnS (R := RF298) bg1 (fun _ h => h) rfl fun res s => ?_
 unfold ua at s
 refine sR (ab (v := bm 0#32) (au rfl) (nS (aq (sR (mV rfl (ab (v := .fs true [vi x2]) (jh rfl (all_cons rfl lw)) ?_))))))
 have a6 : (tSl tI).R ([x2] : List Int) (.fs true [vi x2]) := qw ⟨rfl, trivial⟩ (by simp)
 obtain ⟨a0, a4, s⟩ := bn s
 have a9 := ae1  a6 
 rw [a4] at a9
 refine cL a9 rfl rfl (ai (TR.clo (tSl tI) a6) bg) (ab (ks rfl) (mV rfl ?_))
 refine cn 3 (d := 14) (v := vb ((!a0) || (decide (x1 < 0)))) ?_ ?_
 ·intro S Q r
  cases a5 : (!a0)
  ·intro k
   have a2 := a5
   try simp only [qa] at a2
   refine ah rfl rfl (au rfl) (ah rfl rfl (bz rfl rfl cz) ?_)
   exact gK rfl rfl rfl rfl rfl k
  ·exact gN 2 rfl rfl rfl rfl rfl rfl
 refine mV rfl ?_
 refine cn 5 (d := 20) (v := vb (((!a0) || (decide (x1 < 0))) || (decide ((wr (32 - x2)) < x1)))) ?_ ?_
 ·intro S Q r
  cases a7 : ((!a0) || (decide (x1 < 0)))
  ·intro k
   have a1 := a7
   try simp only [qa] at a1
   refine ah rfl rfl (au rfl) (ah rfl rfl (au rfl) (ah rfl rfl (bz rfl rfl ai6) (ah rfl rfl (bz rfl rfl nu) ?_)))
   exact gK rfl rfl rfl rfl rfl k
  ·exact gN 4 rfl rfl rfl rfl rfl rfl
 refine nS ?_
 refine ci s rfl ?_ ?_ <;> clear s <;> intro c s <;> try simp only [qa] at c
 ·refine sR (ab (v := bm 0#32) (au rfl) (nS ?_))
  exact rR s rfl rfl rfl
 ·refine bb (am (sR (mV rfl (mV rfl (ab (bz (a := bm x0) (b := vi x1) rfl rfl (bu9 (by omega))) (mV rfl ?_))))))
  obtain ⟨b0, a3, s⟩ := bn s
  have a8 := lc (x0 := x2)  
  rw [a3] at a8
  refine cL a8 rfl rfl (ai rfl bg) (ab (bz (a := bm (x0 >>> x1.toNat)) (b := bm b0) rfl rfl qf) (mV rfl (nS ?_)))
  exact rR s rfl rfl rfl

def RF290 (res : aj) (r : PV) : Prop := aj.t.R res r
theorem cg9 {x0 : af} {x1 : aj} {v0 v1 : PV} (r0 : af.t.R x0 v0) (r1 : aj.t.R x1 v1) : ∃ r, FnR Tryz.prog 290 [v0, v1] r ∧ aj.t.R (wv x0 x1) r := by
 refine fnT (R := RF290) bk4 rfl fun res s => ?_
 unfold wv at s
 refine sR (ab (dq rfl (TR.cnt af.t r0)) (ab (dq rfl (TR.cnt aj.t r1)) ?_))
 refine dz (x := .agg [bm 0#32, vi 0]) (Mem.nil ⟨0, []⟩) rfl rfl (fun a6 a5 c3 a4 => ?_)
 refine nS (aq (sR (fL rfl (af.g_Op r0) rfl rfl (nS (br (sR (bN fe rfl rfl (mV rfl ?_))))))))
 refine nS ?_
 refine ci s rfl ?_ ?_ <;> clear s <;> intro c s <;> try simp only [qa] at c
 ·refine sR (fL rfl (aj.g_v r1) rfl rfl (fL rfl (aj.g_w r1) rfl rfl ?_))
  obtain ⟨a3, b4, s⟩ := bn s
  have b7 := cr9 (x0 := x1.v) (x1 := x1.w)  
  rw [b4] at b7
  refine cL b7 rfl rfl (ai rfl (ai rfl bg)) (fL rfl (aj.g_w r1) rfl rfl (ab (v := .agg [bm a3, vi x1.w]) (fu (cs := [bm a3, vi x1.w]) rfl rfl) ?_))
  refine cw (k := 0) (v := .agg [bm a3, vi x1.w]) a4 rfl rfl rfl rfl (fun c2 b0 => ?_)
  replace b0 : Mem c2 [⟨.op a6 a5 0, 301, 2, [.agg [bm a3, vi x1.w]]⟩] := b0
  refine nS ?_
  subst s
  exact fy (.cell rfl (dn (k := 0) b0 rfl rfl) .nil) (cv (TR.clo aj.t (show aj.t.R ({ v := a3, w := x1.w } : aj) (.agg [bm a3, vi x1.w]) from rfl))) (show aj.t.R ({ v := a3, w := x1.w } : aj) (.agg [bm a3, vi x1.w]) from rfl)
 ·refine sR (bN fe rfl rfl (mV rfl (nS ?_)))
  refine ci s rfl ?_ ?_ <;> clear s <;> intro c s <;> try simp only [qa] at c
  ·refine sR (fL rfl (aj.g_v r1) rfl rfl (fL rfl (af.g_N r0) rfl rfl (fL rfl (aj.g_w r1) rfl rfl ?_)))
   obtain ⟨a2, b8, s⟩ := bn s
   have b2 := cr8 (x0 := x1.v) (x1 := x0.N) (x2 := x1.w)  
   rw [b8] at b2
   refine cL b2 rfl rfl (ai rfl (ai rfl (ai rfl bg))) (fL rfl (aj.g_w r1) rfl rfl (ab (v := .agg [bm a2, vi x1.w]) (fu (cs := [bm a2, vi x1.w]) rfl rfl) ?_))
   refine cw (k := 0) (v := .agg [bm a2, vi x1.w]) a4 rfl rfl rfl rfl (fun c0 a8 => ?_)
   replace a8 : Mem c0 [⟨.op a6 a5 0, 301, 2, [.agg [bm a2, vi x1.w]]⟩] := a8
   refine nS ?_
   subst s
   exact fy (.cell rfl (dn (k := 0) a8 rfl rfl) .nil) (cv (TR.clo aj.t (show aj.t.R ({ v := a2, w := x1.w } : aj) (.agg [bm a2, vi x1.w]) from rfl))) (show aj.t.R ({ v := a2, w := x1.w } : aj) (.agg [bm a2, vi x1.w]) from rfl)
  ·refine sR (bN fe rfl rfl (mV rfl (nS ?_)))
   refine ci s rfl ?_ ?_ <;> clear s <;> intro c s <;> try simp only [qa] at c
   ·refine sR (fL rfl (aj.g_v r1) rfl rfl (fL rfl (af.g_N r0) rfl rfl (fL rfl (aj.g_w r1) rfl rfl ?_)))
    obtain ⟨a0, b1, s⟩ := bn s
    have b6 := cu7 (x0 := x1.v) (x1 := x0.N) (x2 := x1.w)  
    rw [b1] at b6
    refine cL b6 rfl rfl (ai rfl (ai rfl (ai rfl bg))) (fL rfl (aj.g_w r1) rfl rfl (ab (v := .agg [bm a0, vi x1.w]) (fu (cs := [bm a0, vi x1.w]) rfl rfl) ?_))
    refine cw (k := 0) (v := .agg [bm a0, vi x1.w]) a4 rfl rfl rfl rfl (fun b9 a7 => ?_)
    replace a7 : Mem b9 [⟨.op a6 a5 0, 301, 2, [.agg [bm a0, vi x1.w]]⟩] := a7
    refine nS ?_
    subst s
    exact fy (.cell rfl (dn (k := 0) a7 rfl rfl) .nil) (cv (TR.clo aj.t (show aj.t.R ({ v := a0, w := x1.w } : aj) (.agg [bm a0, vi x1.w]) from rfl))) (show aj.t.R ({ v := a0, w := x1.w } : aj) (.agg [bm a0, vi x1.w]) from rfl)
   ·refine bb (de (am (sR (fL rfl (aj.g_v r1) rfl rfl (fL rfl (af.g_N r0) rfl rfl (fL rfl (af.g_W r0) rfl rfl ?_))))))
    obtain ⟨a1, b3, s⟩ := bn s
    have b5 := cs0 (x0 := x1.v) (x1 := x0.N) (x2 := x0.W)  
    rw [b3] at b5
    refine cL b5 rfl rfl (ai rfl (ai rfl (ai rfl bg))) (fL rfl (af.g_W r0) rfl rfl (ab (v := .agg [bm a1, vi x0.W]) (fu (cs := [bm a1, vi x0.W]) rfl rfl) ?_))
    refine cw (k := 0) (v := .agg [bm a1, vi x0.W]) a4 rfl rfl rfl rfl (fun c1 a9 => ?_)
    replace a9 : Mem c1 [⟨.op a6 a5 0, 301, 2, [.agg [bm a1, vi x0.W]]⟩] := a9
    refine nS ?_
    subst s
    exact fy (.cell rfl (dn (k := 0) a9 rfl rfl) .nil) (cv (TR.clo aj.t (show aj.t.R ({ v := a1, w := x0.W } : aj) (.agg [bm a1, vi x0.W]) from rfl))) (show aj.t.R ({ v := a1, w := x0.W } : aj) (.agg [bm a1, vi x0.W]) from rfl)

def RF299 (res : (BitVec 32)) (r : PV) : Prop := r = bm res
theorem cl4 {x0 : BitVec 32} {x1 : BitVec 32} {x2 : Int} : FnR Tryz.prog 299 [bm x0, bm x1, vi x2] (bm (xf x0 x1 x2)) := by
 refine fnS (R := RF299) bf3 (fun _ h => h) rfl fun res s => ?_
 unfold xf at s
 refine sR (ab (v := bm 0#32) (au rfl) (nR (mV rfl (mV rfl (ab (bz (a := bm x0) (b := bm x1) rfl rfl dt0) (mV rfl ?_))))))
 obtain ⟨a2, a1, s⟩ := bn s
 have a0 := lc (x0 := x2)  
 rw [a1] at a0
 refine cL a0 rfl rfl (ai rfl bg) (ab (bz (a := bm (x0 + x1)) (b := bm a2) rfl rfl qf) (mV rfl (nS ?_)))
 exact rR s rfl rfl rfl

def RF300 (res : (BitVec 32)) (r : PV) : Prop := r = bm res
theorem ch7 {x0 : BitVec 32} {x1 : BitVec 32} {x2 : Int} : FnR Tryz.prog 300 [bm x0, bm x1, vi x2] (bm (xb x0 x1 x2)) := by
 refine fnS (R := RF300) bk8 (fun _ h => h) rfl fun res s => ?_
 unfold xb at s
 refine sR (ab (v := bm 0#32) (au rfl) (nR (mV rfl (mV rfl (ab (bz (a := bm x0) (b := bm x1) rfl rfl dp3) (mV rfl ?_))))))
 obtain ⟨a2, a1, s⟩ := bn s
 have a0 := lc (x0 := x2)  
 rw [a1] at a0
 refine cL a0 rfl rfl (ai rfl bg) (ab (bz (a := bm (x0 - x1)) (b := bm a2) rfl rfl qf) (mV rfl (nS ?_)))
 exact rR s rfl rfl rfl

def RF301 (res : (BitVec 32) × Bool) (r : PV) : Prop := r = .tup [bm res.1, vb res.2]
theorem co5 {x0 : BitVec 32} {x1 : Int} {x2 : BitVec 32} {x3 : Int} : FnR Tryz.prog 301 [bm x0, vi x1, bm x2, vi x3] (.tup [bm ((qq x0 x1 x2 x3).1), vb ((qq x0 x1 x2 x3).2)]) := by
 refine fnS (R := RF301) bk1 (fun _ h => h) rfl fun res s => ?_
 unfold qq at s
 refine sR (ab (v := bm 0#32) (au rfl) (mB rfl (nS (aq (sR (mV rfl (mV rfl (ab (v := .fs true [vi x1, vi x3]) (jh rfl (all_cons rfl (all_cons rfl lw))) ?_))))))))
 have a7 : (tSl tI).R ([x1, x3] : List Int) (.fs true [vi x1, vi x3]) := qw ⟨rfl, ⟨rfl, trivial⟩⟩ (by simp)
 obtain ⟨a8, a4, s⟩ := bn s
 have b1 := ae1  a7 
 rw [a4] at b1
 refine cL b1 rfl rfl (ai (TR.clo (tSl tI) a7) bg) (ab (ks rfl) (mV rfl ?_))
 refine cn 5 (d := 20) (v := vb ((!a8) || (decide (32 < (wr (x1 + x3)))))) ?_ ?_
 ·intro S Q r
  cases a5 : (!a8)
  ·intro k
   have a0 := a5
   try simp only [qa] at a0
   refine ah rfl rfl (au rfl) (ah rfl rfl (au rfl) (ah rfl rfl (bz rfl rfl gm) (ah rfl rfl (bz rfl rfl nu) ?_)))
   exact gK rfl rfl rfl rfl rfl k
  ·exact gN 4 rfl rfl rfl rfl rfl rfl
 refine nS ?_
 refine ci s rfl ?_ ?_ <;> clear s <;> intro c s <;> try simp only [qa] at c
 ·refine sR (ab (v := bm 0#32) (au rfl) (mB rfl (nS ?_)))
  exact rT s rfl rfl rfl rfl rfl
 ·refine bb (am (sR (mV rfl (mV rfl ?_))))
  obtain ⟨a1, a6, s⟩ := bn s
  have b0 := lc (x0 := x1)  
  rw [a6] at b0
  refine cL b0 rfl rfl (ai rfl bg) (ab (bz (a := bm x0) (b := bm a1) rfl rfl qf) (mV rfl (ab (bz (a := bm (x0 &&& a1)) (b := vi x3) rfl rfl (cy5 (by ((have hk := dd1 (by assumption) (And.left (by assumption)); omega))))) (mV rfl (mV rfl ?_)))))
  obtain ⟨a2, a3, s⟩ := bn s
  have a9 := lc (x0 := x3)  
  rw [a3] at a9
  refine cL a9 rfl rfl (ai rfl bg) (ab (bz (a := bm x2) (b := bm a2) rfl rfl qf) (ab (bz (a := bm ((x0 &&& a1) <<< x3.toNat)) (b := bm (x2 &&& a2)) rfl rfl w_or) (mV rfl (mB rfl (nS ?_)))))
  exact rT s rfl rfl rfl rfl rfl

def RF302 (res : aj) (r : PV) : Prop := aj.t.R res r
theorem bk9 {x0 : Bool} : ∃ r, FnR Tryz.prog 302 [vb x0] r ∧ aj.t.R (ub x0) r := by
 refine fnT (R := RF302) bg9 rfl fun res s => ?_
 unfold ub at s
 refine sR ?_
 refine dz (x := .agg [bm 0#32, vi 0]) (Mem.nil ⟨0, []⟩) rfl rfl (fun a4 a2 a7 a3 => ?_)
 refine nS (aq (sR (mV rfl (nS ?_))))
 refine ci s rfl ?_ ?_ <;> clear s <;> intro c s <;> try simp only [qa] at c
 ·refine sR (ab (v := .agg [bm 1#32, vi 1]) (fu (cs := [bm 1#32, vi 1]) rfl rfl) ?_)
  refine cw (k := 0) (v := .agg [bm 1#32, vi 1]) a3 rfl rfl rfl rfl (fun a6 a1 => ?_)
  replace a1 : Mem a6 [⟨.op a4 a2 0, 301, 2, [.agg [bm 1#32, vi 1]]⟩] := a1
  refine nS ?_
  subst s
  exact fy (.cell rfl (dn (k := 0) a1 rfl rfl) .nil) (cv (TR.clo aj.t (show aj.t.R ({ v := 1#32, w := 1 } : aj) (.agg [bm 1#32, vi 1]) from rfl))) (show aj.t.R ({ v := 1#32, w := 1 } : aj) (.agg [bm 1#32, vi 1]) from rfl)
 ·refine bb (am (sR (ab (v := .agg [bm 0#32, vi 1]) (fu (cs := [bm 0#32, vi 1]) rfl rfl) ?_)))
  refine cw (k := 0) (v := .agg [bm 0#32, vi 1]) a3 rfl rfl rfl rfl (fun a5 a0 => ?_)
  replace a0 : Mem a5 [⟨.op a4 a2 0, 301, 2, [.agg [bm 0#32, vi 1]]⟩] := a0
  refine nS ?_
  subst s
  exact fy (.cell rfl (dn (k := 0) a0 rfl rfl) .nil) (cv (TR.clo aj.t (show aj.t.R ({ v := 0#32, w := 1 } : aj) (.agg [bm 0#32, vi 1]) from rfl))) (show aj.t.R ({ v := 0#32, w := 1 } : aj) (.agg [bm 0#32, vi 1]) from rfl)

def RF291 (res : aj) (r : PV) : Prop := aj.t.R res r
theorem co0 {x0 : Int} {x1 : aj} {x2 : aj} {v1 v2 : PV} (r1 : aj.t.R x1 v1) (r2 : aj.t.R x2 v2) : ∃ r, FnR Tryz.prog 291 [vi x0, v1, v2] r ∧ aj.t.R (vc x0 x1 x2) r := by
 refine fnT (R := RF291) bg3 rfl fun res s => ?_
 unfold vc at s
 refine sR (ab (dq rfl (TR.cnt aj.t r1)) (ab (dq rfl (TR.cnt aj.t r2)) ?_))
 refine dz (x := .agg [bm 0#32, vi 0]) (Mem.nil ⟨0, []⟩) rfl rfl (fun a5 a1 d6 a0 => ?_)
 refine nS (aq (sR (mV rfl (nS (br (sR (bN fe rfl rfl (mV rfl ?_))))))))
 refine nS ?_
 refine ci s rfl ?_ ?_ <;> clear s <;> intro c s <;> try simp only [qa] at c
 ·refine sR (fL rfl (aj.g_v r1) rfl rfl (fL rfl (aj.g_v r2) rfl rfl (fL rfl (aj.g_w r1) rfl rfl ?_)))
  obtain ⟨a4, b7, s⟩ := bn s
  have c4 := cl4 (x0 := x1.v) (x1 := x2.v) (x2 := x1.w)  
  rw [b7] at c4
  refine cL c4 rfl rfl (ai rfl (ai rfl (ai rfl bg))) (fL rfl (aj.g_w r1) rfl rfl (ab (v := .agg [bm a4, vi x1.w]) (fu (cs := [bm a4, vi x1.w]) rfl rfl) ?_))
  refine cw (k := 0) (v := .agg [bm a4, vi x1.w]) a0 rfl rfl rfl rfl (fun d3 b4 => ?_)
  replace b4 : Mem d3 [⟨.op a5 a1 0, 301, 2, [.agg [bm a4, vi x1.w]]⟩] := b4
  refine nS ?_
  subst s
  exact fy (.cell rfl (dn (k := 0) b4 rfl rfl) .nil) (cv (TR.clo aj.t (show aj.t.R ({ v := a4, w := x1.w } : aj) (.agg [bm a4, vi x1.w]) from rfl))) (show aj.t.R ({ v := a4, w := x1.w } : aj) (.agg [bm a4, vi x1.w]) from rfl)
 ·refine sR (bN fe rfl rfl (mV rfl (nS ?_)))
  refine ci s rfl ?_ ?_ <;> clear s <;> intro c s <;> try simp only [qa] at c
  ·refine sR (fL rfl (aj.g_v r1) rfl rfl (fL rfl (aj.g_v r2) rfl rfl (fL rfl (aj.g_w r1) rfl rfl ?_)))
   obtain ⟨a2, c5, s⟩ := bn s
   have b6 := ch7 (x0 := x1.v) (x1 := x2.v) (x2 := x1.w)  
   rw [c5] at b6
   refine cL b6 rfl rfl (ai rfl (ai rfl (ai rfl bg))) (fL rfl (aj.g_w r1) rfl rfl (ab (v := .agg [bm a2, vi x1.w]) (fu (cs := [bm a2, vi x1.w]) rfl rfl) ?_))
   refine cw (k := 0) (v := .agg [bm a2, vi x1.w]) a0 rfl rfl rfl rfl (fun c9 b2 => ?_)
   replace b2 : Mem c9 [⟨.op a5 a1 0, 301, 2, [.agg [bm a2, vi x1.w]]⟩] := b2
   refine nS ?_
   subst s
   exact fy (.cell rfl (dn (k := 0) b2 rfl rfl) .nil) (cv (TR.clo aj.t (show aj.t.R ({ v := a2, w := x1.w } : aj) (.agg [bm a2, vi x1.w]) from rfl))) (show aj.t.R ({ v := a2, w := x1.w } : aj) (.agg [bm a2, vi x1.w]) from rfl)
  ·refine sR (bN fe rfl rfl (mV rfl (nS ?_)))
   refine ci s rfl ?_ ?_ <;> clear s <;> intro c s <;> try simp only [qa] at c
   ·refine sR (fL rfl (aj.g_v r1) rfl rfl (fL rfl (aj.g_v r2) rfl rfl (ab (bz (a := bm x1.v) (b := bm x2.v) rfl rfl qf) (fL rfl (aj.g_w r1) rfl rfl (ab (v := .agg [bm (x1.v &&& x2.v), vi x1.w]) (fu (cs := [bm (x1.v &&& x2.v), vi x1.w]) rfl rfl) ?_)))))
    refine cw (k := 0) (v := .agg [bm (x1.v &&& x2.v), vi x1.w]) a0 rfl rfl rfl rfl (fun c8 b1 => ?_)
    replace b1 : Mem c8 [⟨.op a5 a1 0, 301, 2, [.agg [bm (x1.v &&& x2.v), vi x1.w]]⟩] := b1
    refine nS ?_
    subst s
    exact fy (.cell rfl (dn (k := 0) b1 rfl rfl) .nil) (cv (TR.clo aj.t (show aj.t.R ({ v := (x1.v &&& x2.v), w := x1.w } : aj) (.agg [bm (x1.v &&& x2.v), vi x1.w]) from rfl))) (show aj.t.R ({ v := (x1.v &&& x2.v), w := x1.w } : aj) (.agg [bm (x1.v &&& x2.v), vi x1.w]) from rfl)
   ·refine sR (bN fe rfl rfl (mV rfl (nS ?_)))
    refine ci s rfl ?_ ?_ <;> clear s <;> intro c s <;> try simp only [qa] at c
    ·refine sR (fL rfl (aj.g_v r1) rfl rfl (fL rfl (aj.g_v r2) rfl rfl (ab (bz (a := bm x1.v) (b := bm x2.v) rfl rfl w_or) (fL rfl (aj.g_w r1) rfl rfl (ab (v := .agg [bm (x1.v ||| x2.v), vi x1.w]) (fu (cs := [bm (x1.v ||| x2.v), vi x1.w]) rfl rfl) ?_)))))
     refine cw (k := 0) (v := .agg [bm (x1.v ||| x2.v), vi x1.w]) a0 rfl rfl rfl rfl (fun c7 b0 => ?_)
     replace b0 : Mem c7 [⟨.op a5 a1 0, 301, 2, [.agg [bm (x1.v ||| x2.v), vi x1.w]]⟩] := b0
     refine nS ?_
     subst s
     exact fy (.cell rfl (dn (k := 0) b0 rfl rfl) .nil) (cv (TR.clo aj.t (show aj.t.R ({ v := (x1.v ||| x2.v), w := x1.w } : aj) (.agg [bm (x1.v ||| x2.v), vi x1.w]) from rfl))) (show aj.t.R ({ v := (x1.v ||| x2.v), w := x1.w } : aj) (.agg [bm (x1.v ||| x2.v), vi x1.w]) from rfl)
    ·refine sR (bN fe rfl rfl (mV rfl (nS ?_)))
     refine ci s rfl ?_ ?_ <;> clear s <;> intro c s <;> try simp only [qa] at c
     ·refine sR (fL rfl (aj.g_v r1) rfl rfl (fL rfl (aj.g_v r2) rfl rfl (ab (bz (a := bm x1.v) (b := bm x2.v) rfl rfl du2) (fL rfl (aj.g_w r1) rfl rfl (ab (v := .agg [bm (x1.v ^^^ x2.v), vi x1.w]) (fu (cs := [bm (x1.v ^^^ x2.v), vi x1.w]) rfl rfl) ?_)))))
      refine cw (k := 0) (v := .agg [bm (x1.v ^^^ x2.v), vi x1.w]) a0 rfl rfl rfl rfl (fun d4 a8 => ?_)
      replace a8 : Mem d4 [⟨.op a5 a1 0, 301, 2, [.agg [bm (x1.v ^^^ x2.v), vi x1.w]]⟩] := a8
      refine nS ?_
      subst s
      exact fy (.cell rfl (dn (k := 0) a8 rfl rfl) .nil) (cv (TR.clo aj.t (show aj.t.R ({ v := (x1.v ^^^ x2.v), w := x1.w } : aj) (.agg [bm (x1.v ^^^ x2.v), vi x1.w]) from rfl))) (show aj.t.R ({ v := (x1.v ^^^ x2.v), w := x1.w } : aj) (.agg [bm (x1.v ^^^ x2.v), vi x1.w]) from rfl)
     ·refine sR (bN fe rfl rfl (mV rfl (nS ?_)))
      refine ci s rfl ?_ ?_ <;> clear s <;> intro c s <;> try simp only [qa] at c
      ·refine sR (fL rfl (aj.g_v r1) rfl rfl (fL rfl (aj.g_w r1) rfl rfl (fL rfl (aj.g_v r2) rfl rfl (fL rfl (aj.g_w r2) rfl rfl ?_))))
       obtain ⟨a3, b8, s⟩ := bn s
       have c0 := co5 (x0 := x1.v) (x1 := x1.w) (x2 := x2.v) (x3 := x2.w)  
       rw [b8] at c0
       refine cL c0 rfl rfl (ai rfl (ai rfl (ai rfl (ai rfl bg)))) (mV rfl (xT rfl rfl (xT rfl rfl (mV rfl (mV rfl (nR (mV rfl (fL rfl (aj.g_w r1) rfl rfl ?_))))))))
       refine fL rfl (aj.g_w r2) rfl rfl (bN gm rfl rfl (ab (v := .agg [bm a3.1, vi (wr (x1.w + x2.w))]) (fu (cs := [bm a3.1, vi (wr (x1.w + x2.w))]) rfl rfl) ?_))
       refine cw (k := 0) (v := .agg [bm a3.1, vi (wr (x1.w + x2.w))]) a0 rfl rfl rfl rfl (fun d1 b5 => ?_)
       replace b5 : Mem d1 [⟨.op a5 a1 0, 301, 2, [.agg [bm a3.1, vi (wr (x1.w + x2.w))]]⟩] := b5
       refine nS ?_
       subst s
       exact fy (.cell rfl (dn (k := 0) b5 rfl rfl) .nil) (cv (TR.clo aj.t (show aj.t.R ({ v := a3.1, w := (wr (x1.w + x2.w)) } : aj) (.agg [bm a3.1, vi (wr (x1.w + x2.w))]) from rfl))) (show aj.t.R ({ v := a3.1, w := (wr (x1.w + x2.w)) } : aj) (.agg [bm a3.1, vi (wr (x1.w + x2.w))]) from rfl)
      ·refine sR (bN fe rfl rfl (mV rfl (nS ?_)))
       refine ci s rfl ?_ ?_ <;> clear s <;> intro c s <;> try simp only [qa] at c
       ·refine sR (fL rfl (aj.g_v r1) rfl rfl (fL rfl (aj.g_v r2) rfl rfl (ab (bz (a := bm x1.v) (b := bm x2.v) rfl rfl bs3) ?_)))
        obtain ⟨d7, c1, s⟩ := bn s
        obtain ⟨c2, d2, a6⟩ := bk9 (x0 := (decide (x1.v = x2.v)))  
        rw [c1] at a6
        refine cL d2 rfl rfl (ai rfl bg) ?_
        refine cw (k := 0) (v := c2) a0 rfl rfl rfl (TR.cnt aj.t a6) (fun c6 b3 => ?_)
        replace b3 : Mem c6 [⟨.op a5 a1 0, 301, 2, [c2]⟩] := b3
        refine nS ?_
        subst s
        exact fy (.cell rfl (dn (k := 0) b3 rfl (TR.agg aj.t a6)) .nil) (cv (TR.clo aj.t a6)) a6
       ·refine bb (de (am (sR (fL rfl (aj.g_v r1) rfl rfl (fL rfl (aj.g_v r2) rfl rfl (ab (bz (a := bm x1.v) (b := bm x2.v) rfl rfl dn3) ?_))))))
        obtain ⟨d8, c3, s⟩ := bn s
        obtain ⟨b9, d0, a7⟩ := bk9 (x0 := (decide (x1.v < x2.v)))  
        rw [c3] at a7
        refine cL d0 rfl rfl (ai rfl bg) ?_
        refine cw (k := 0) (v := b9) a0 rfl rfl rfl (TR.cnt aj.t a7) (fun d5 a9 => ?_)
        replace a9 : Mem d5 [⟨.op a5 a1 0, 301, 2, [b9]⟩] := a9
        refine nS ?_
        subst s
        exact fy (.cell rfl (dn (k := 0) a9 rfl (TR.agg aj.t a7)) .nil) (cv (TR.clo aj.t a7)) a7

def RF273 (i0_ w0_ : Nat) (R_ : List Ent) (res : aj × ba) (r : PV) (h : Heap) : Prop := ∃ uF0 : PV, ∃ c0_ : PV, Mem h (⟨.op i0_ w0_ 0, 299, 17, [uF0]⟩ :: R_) ∧ (ba.t.R res.2 uF0) ∧ r = c0_ ∧ aj.t.R res.1 c0_
theorem bu4 {rec_ : ba → (aj × ba)} {mu_ : Nat} {x0 : ba} {k8 : PV} {R_ : List Ent} {h_ : Heap} {b7 b8 : Nat} (g3 : ba.t.R x0 k8) (M_ : Mem h_ (⟨.op b7 b8 0, 299, 17, [k8]⟩ :: R_)) (hv : VE x0) (hmu : mu_ = x0.nodes.length - x0.next.toNat) (hrec : HR rec_) (ihR : ∀ {z0 : ba} {k8 : PV} {R_ : List Ent} {h_ : Heap} {b7 b8 : Nat} (g3 : ba.t.R z0 k8) (M_ : Mem h_ (⟨.op b7 b8 0, 299, 17, [k8]⟩ :: R_)) (hv : VE z0), z0.nodes.length - z0.next.toNat < mu_ → ∃ r n8, FnX Tryz.prog 273 [.op b7 b8 0] h_ r n8 ∧ RF273 b7 b8 R_ (rec_ z0) r n8) : ∃ r n8, FnX Tryz.prog 273 [.op b7 b8 0] h_ r n8 ∧ RF273 b7 b8 R_ (js rec_ x0) r n8 := by
 refine fnXX (R := RF273 b7 b8 R_) bf5 rfl fun res s => ?_
 unfold js at s
 refine sR ?_
 refine dz (x := .agg [bm 0#32, vi 0]) M_ rfl rfl (fun b6 b5 t6 j9 => ?_)
 refine nR (mV rfl (ab (cx rfl rfl) (ab (bf rfl) ?_)))
 obtain ⟨r5, p2, q3⟩ := ba.g_nodes g3
 refine ab (cg (k := 1) j9 rfl rfl p2) (mV rfl (ab (cx rfl rfl) (ab (bf rfl) (ab (cg (k := 1) j9 rfl rfl (ba.g_next g3)) ?_))))
 obtain ⟨e9, q4, e1⟩ := dt (i := x0.next) q3 (by exact (au8 hv).1) (by exact (au8 hv).2)
 refine ab (bh rfl rfl q4) (lD e1 rfl rfl rfl ?_)
 refine dz (x := .agg [vi 0, vi 0, vi 0]) j9 rfl rfl (fun m0 m7 u3 r7 => ?_)
 refine cw (k := 0) (v := e9) r7 rfl rfl rfl (TR.cnt af.t e1) (fun p5 i6 => ?_)
 replace i6 : Mem p5 (⟨.op m0 m7 0, 113, 3, [e9]⟩ :: ⟨.op b6 b5 0, 301, 2, [.agg [bm 0#32, vi 0]]⟩ :: ⟨.op b7 b8 0, 299, 17, [k8]⟩ :: R_) := i6
 refine nS (aq (dv (bw (mV rfl (bv (bw (ab (cx rfl rfl) (bv ?_))))))))
 refine bw (ab (bf rfl) (bv (bw (ab (cg (k := 2) i6 rfl rfl (ba.g_next g3)) (bv (bw (bN gm rfl rfl (bv ?_))))))))
 refine bw (ab (cx rfl rfl) (bv (bw (ab (bf rfl) (bv (bw ?_))))))
 obtain ⟨a6, b2, a9, b3, b4, b0, a7, b1, a8, a1, a3, a2, a4, a0, a5, p3, c7, d5, d4, c8, c9, d2, d3, d1, d0, c4, c3, c5, c1, c0, c2⟩ := g3
 subst p3
 refine ip (k := 2) (v := vi (wr (x0.next + 1))) i6 rfl rfl rfl rfl rfl (by ((simp only [List.length_cons, List.length_nil]; omega))) (fun p1 k6 => ?_)
 replace k6 : Mem p1 (⟨.op m0 m7 0, 113, 3, [e9]⟩ :: ⟨.op b6 b5 0, 301, 2, [.agg [bm 0#32, vi 0]]⟩ :: ⟨.op b7 b8 0, 299, 17, [.agg [vs x0.scope.Program.Name, a6, b2, a9, b3, b4, b0, a7, b1, a8, a1, a3, a2, a4, a0, a5, vi (wr (x0.next + 1))]]⟩ :: R_) := k6
 refine bv ?_
 refine xa (k := 0) (E' := [(25, .op b7 b8 (0 + 16)), (24, .op b7 b8 0), (23, vi (wr (x0.next + 1))), (22, vi x0.next), (21, .op b7 b8 (0 + 16)), (20, .op b7 b8 0), (19, .op b7 b8 0), (3, .fp e9), (18, e9), (17, .fp e9), (16, vi x0.next), (15, .op b7 b8 (0 + 16)), (14, .op b7 b8 0), (13, .op b7 b8 0), (12, r5), (11, .op b7 b8 (0 + 15)), (10, .op b7 b8 0), (9, .op b7 b8 0), (2, .op b6 b5 0), (0, .op b7 b8 0)]) k6 rfl (db rfl (db rfl (db rfl (db rfl (db rfl (db rfl (db rfl (te rfl (db rfl (db rfl (db rfl (db rfl (db rfl (db rfl (db rfl (db rfl (db rfl (db rfl (db rfl (db rfl xw)))))))))))))))))))) (fun f8 f1 => ?_)
 replace f1 : Mem f8 (⟨.op b6 b5 0, 301, 2, [.agg [bm 0#32, vi 0]]⟩ :: ⟨.op b7 b8 0, 299, 17, [.agg [vs x0.scope.Program.Name, a6, b2, a9, b3, b4, b0, a7, b1, a8, a1, a3, a2, a4, a0, a5, vi (wr (x0.next + 1))]]⟩ :: R_) := f1
 refine je (am (aq (sR (fL rfl (af.g_Op e1) rfl rfl ?_))))
 obtain ⟨t9, m8, s⟩ := bn s
 have m6 := ad2 (x0 := (ix x0.nodes x0.next).Op)  
 rw [m8] at m6
 refine cL m6 rfl rfl (ai rfl bg) (nS (br (sR (bN fe rfl rfl (mV rfl (nS ?_))))))
 refine ci s rfl ?_ ?_ <;> clear s <;> intro c s <;> try simp only [qa] at c
 ·refine aq (dv (bw (mV rfl (bv (bw (lD e1 rfl rfl rfl (bv ?_)))))))
  have q8 : Mem f8 (⟨.op b7 b8 0, 299, 17, [.agg [vs x0.scope.Program.Name, a6, b2, a9, b3, b4, b0, a7, b1, a8, a1, a3, a2, a4, a0, a5, vi (wr (x0.next + 1))]]⟩ :: ⟨.op b6 b5 0, 301, 2, [.agg [bm 0#32, vi 0]]⟩ :: R_) := (Mem.front (k := 1) f1 rfl)
  obtain ⟨u8, o2, s⟩ := bn s
  obtain ⟨s1, s8, l7, j4⟩ := ci6 (x0 := ({ scope := x0.scope, env := x0.env, args := x0.args, nodes := x0.nodes, next := (wr (x0.next + 1)) } : ba)) (x1 := (ix x0.nodes x0.next)) e1 (show ba.t.R ({ scope := x0.scope, env := x0.env, args := x0.args, nodes := x0.nodes, next := (wr (x0.next + 1)) } : ba) (.agg [vs x0.scope.Program.Name, a6, b2, a9, b3, b4, b0, a7, b1, a8, a1, a3, a2, a4, a0, a5, vi (wr (x0.next + 1))]) from ⟨a6, b2, a9, b3, b4, b0, a7, b1, a8, a1, a3, a2, a4, a0, a5, rfl, c7, d5, d4, c8, c9, d2, d3, d1, d0, c4, c3, c5, c1, c0, c2⟩) q8 (by exact evp hv (by assumption) (by assumption))
  rw [o2] at j4
  obtain ⟨e6, i1, q9, h5, f4, k0⟩ := j4
  replace f4 := f4.symm; subst f4
  refine fx rfl rfl l7 (bw ?_)
  refine cw (k := 1) (v := i1) q9 rfl rfl rfl (TR.cnt aj.t k0) (fun l5 h9 => ?_)
  replace h9 : Mem l5 (⟨.op b7 b8 0, 299, 17, [e6]⟩ :: ⟨.op b6 b5 0, 301, 2, [i1]⟩ :: R_) := h9
  refine bv (je (am ?_))
  have o1 : Mem l5 (⟨.op b7 b8 0, 299, 17, [e6]⟩ :: ⟨.op b6 b5 0, 301, 2, [i1]⟩ :: R_) := (Mem.front (k := 0) h9 rfl)
  subst s
  exact ji (.cell rfl (dn (k := 1) h9 rfl (TR.agg aj.t k0)) .nil) ⟨e6, i1, Mem.sub o1 (.cons_cons _ (.cons _ (List.Sublist.refl R_))), h5, rfl, k0⟩
 ·refine sR (bN fe rfl rfl (mV rfl (nS ?_)))
  refine ci s rfl ?_ ?_ <;> clear s <;> intro c s <;> try simp only [qa] at c
  ·refine aq (ah6 (me (lD e1 rfl rfl rfl (md (me (mV rfl (md ?_)))))))
   have q5 : Mem f8 (⟨.op b7 b8 0, 299, 17, [.agg [vs x0.scope.Program.Name, a6, b2, a9, b3, b4, b0, a7, b1, a8, a1, a3, a2, a4, a0, a5, vi (wr (x0.next + 1))]]⟩ :: ⟨.op b6 b5 0, 301, 2, [.agg [bm 0#32, vi 0]]⟩ :: R_) := (Mem.front (k := 1) f1 rfl)
   obtain ⟨u0, m5, s⟩ := bn s
   obtain ⟨s4, t2, o3, j7⟩ := ihR (z0 := ({ scope := x0.scope, env := x0.env, args := x0.args, nodes := x0.nodes, next := (wr (x0.next + 1)) } : ba)) (show ba.t.R ({ scope := x0.scope, env := x0.env, args := x0.args, nodes := x0.nodes, next := (wr (x0.next + 1)) } : ba) (.agg [vs x0.scope.Program.Name, a6, b2, a9, b3, b4, b0, a7, b1, a8, a1, a3, a2, a4, a0, a5, vi (wr (x0.next + 1))]) from ⟨a6, b2, a9, b3, b4, b0, a7, b1, a8, a1, a3, a2, a4, a0, a5, rfl, c7, d5, d4, c8, c9, d2, d3, d1, d0, c4, c3, c5, c1, c0, c2⟩) q5 (by exact ev1 hv (by assumption) (by assumption)) (by rw [hmu]; exact dv1 hv (by assumption) (by assumption))
   rw [m5] at j7
   obtain ⟨e3, t8, r3, j0, f7, n1⟩ := j7
   replace f7 := f7.symm; subst f7
   refine vn rfl rfl o3 (me ?_)
   obtain ⟨t0, m3, s⟩ := bn s
   obtain ⟨h8, p9, h4⟩ := cg9  e1 n1 
   rw [m3] at h4
   refine cL p9 rfl rfl (ai (TR.clo af.t e1) (ai (TR.clo aj.t n1) bg)) (md (me ?_))
   refine cw (k := 1) (v := h8) r3 rfl rfl rfl (TR.cnt aj.t h4) (fun o5 h7 => ?_)
   replace h7 : Mem o5 (⟨.op b7 b8 0, 299, 17, [e3]⟩ :: ⟨.op b6 b5 0, 301, 2, [h8]⟩ :: R_) := h7
   refine md (bx8 (am ?_))
   have n0 : Mem o5 (⟨.op b7 b8 0, 299, 17, [e3]⟩ :: ⟨.op b6 b5 0, 301, 2, [h8]⟩ :: R_) := (Mem.front (k := 0) h7 rfl)
   subst s
   exact ji (.cell rfl (dn (k := 1) h7 rfl (TR.agg aj.t h4)) .nil) ⟨e3, h8, Mem.sub n0 (.cons_cons _ (.cons _ (List.Sublist.refl R_))), j0, rfl, h4⟩
  ·refine sR (bN fe rfl rfl (mV rfl (nS ?_)))
   refine ci s rfl ?_ ?_ <;> clear s <;> intro c s <;> try simp only [qa] at c
   ·refine aq (dv (bw (mV rfl (bv ?_))))
    have r2 : Mem f8 (⟨.op b7 b8 0, 299, 17, [.agg [vs x0.scope.Program.Name, a6, b2, a9, b3, b4, b0, a7, b1, a8, a1, a3, a2, a4, a0, a5, vi (wr (x0.next + 1))]]⟩ :: ⟨.op b6 b5 0, 301, 2, [.agg [bm 0#32, vi 0]]⟩ :: R_) := (Mem.front (k := 1) f1 rfl)
    obtain ⟨p8, n9, s⟩ := bn s
    obtain ⟨s6, t4, l6, j2⟩ := ihR (z0 := ({ scope := x0.scope, env := x0.env, args := x0.args, nodes := x0.nodes, next := (wr (x0.next + 1)) } : ba)) (show ba.t.R ({ scope := x0.scope, env := x0.env, args := x0.args, nodes := x0.nodes, next := (wr (x0.next + 1)) } : ba) (.agg [vs x0.scope.Program.Name, a6, b2, a9, b3, b4, b0, a7, b1, a8, a1, a3, a2, a4, a0, a5, vi (wr (x0.next + 1))]) from ⟨a6, b2, a9, b3, b4, b0, a7, b1, a8, a1, a3, a2, a4, a0, a5, rfl, c7, d5, d4, c8, c9, d2, d3, d1, d0, c4, c3, c5, c1, c0, c2⟩) r2 (by exact ev1 hv (by assumption) (by assumption)) (by rw [hmu]; exact dv1 hv (by assumption) (by assumption))
    rw [n9] at j2
    obtain ⟨h0, f0, o9, h3, g7, i3⟩ := j2
    replace g7 := g7.symm; subst g7
    refine fx rfl rfl l6 (bw ?_)
    refine dz (x := .agg [bm 0#32, vi 0]) o9 rfl rfl (fun g1 f2 t3 p7 => ?_)
    refine bv (bw ?_)
    refine cw (k := 0) (v := f0) p7 rfl rfl rfl (TR.cnt aj.t i3) (fun l0 k7 => ?_)
    replace k7 : Mem l0 (⟨.op g1 f2 0, 301, 2, [f0]⟩ :: ⟨.op b7 b8 0, 299, 17, [h0]⟩ :: ⟨.op b6 b5 0, 301, 2, [.agg [bm 0#32, vi 0]]⟩ :: R_) := k7
    refine bv (je (am (aq (dv (bw (mV rfl (bv ?_)))))))
    have r6 : Mem l0 (⟨.op b7 b8 0, 299, 17, [h0]⟩ :: ⟨.op g1 f2 0, 301, 2, [f0]⟩ :: ⟨.op b6 b5 0, 301, 2, [.agg [bm 0#32, vi 0]]⟩ :: R_) := (Mem.front (k := 1) k7 rfl)
    obtain ⟨t1, m1, s⟩ := bn s
    obtain ⟨s3, u2, m9, j6⟩ := ihR (z0 := p8.2) h3 r6 (by exact ev2 hv (by assumption) (by assumption) (by assumption) hrec (by assumption)) (by rw [hmu]; exact dv2 hv (by assumption) (by assumption) (by assumption) hrec (by assumption))
    rw [m1] at j6
    obtain ⟨d9, h1, q1, i7, f3, i2⟩ := j6
    replace f3 := f3.symm; subst f3
    refine fx rfl rfl m9 (bw ?_)
    refine dz (x := .agg [bm 0#32, vi 0]) q1 rfl rfl (fun k4 k5 u4 p0 => ?_)
    refine bv (bw ?_)
    refine cw (k := 0) (v := h1) p0 rfl rfl rfl (TR.cnt aj.t i2) (fun q6 g9 => ?_)
    replace g9 : Mem q6 (⟨.op k4 k5 0, 301, 2, [h1]⟩ :: ⟨.op b7 b8 0, 299, 17, [d9]⟩ :: ⟨.op g1 f2 0, 301, 2, [f0]⟩ :: ⟨.op b6 b5 0, 301, 2, [.agg [bm 0#32, vi 0]]⟩ :: R_) := g9
    refine bv (je (am (sR (fL rfl (af.g_Op e1) rfl rfl (ab (iw (k := 2) g9 rfl rfl (TR.agg aj.t i3)) (ab (iw (k := 0) g9 rfl rfl (TR.agg aj.t i2)) ?_))))))
    obtain ⟨t7, n7, s⟩ := bn s
    obtain ⟨i0, o8, i8⟩ := co0 (x0 := (ix x0.nodes x0.next).Op) i3 i2 
    rw [n7] at i8
    refine cL o8 rfl rfl (ai rfl (ai (TR.clo aj.t i3) (ai (TR.clo aj.t i2) bg))) ?_
    refine cw (k := 3) (v := i0) g9 rfl rfl rfl (TR.cnt aj.t i8) (fun o0 h6 => ?_)
    replace h6 : Mem o0 (⟨.op k4 k5 0, 301, 2, [h1]⟩ :: ⟨.op b7 b8 0, 299, 17, [d9]⟩ :: ⟨.op g1 f2 0, 301, 2, [f0]⟩ :: ⟨.op b6 b5 0, 301, 2, [i0]⟩ :: R_) := h6
    refine nS ?_
    have l2 : Mem o0 (⟨.op b7 b8 0, 299, 17, [d9]⟩ :: ⟨.op k4 k5 0, 301, 2, [h1]⟩ :: ⟨.op g1 f2 0, 301, 2, [f0]⟩ :: ⟨.op b6 b5 0, 301, 2, [i0]⟩ :: R_) := (Mem.front (k := 1) h6 rfl)
    subst s
    exact ji (.cell rfl (dn (k := 3) h6 rfl (TR.agg aj.t i8)) .nil) ⟨d9, i0, Mem.sub l2 (.cons_cons _ (.cons _ (.cons _ (.cons _ (List.Sublist.refl R_))))), i7, rfl, i8⟩
   ·refine bb (de (am (aq (dv (bw (mV rfl (bv ?_)))))))
    have o6 : Mem f8 (⟨.op b7 b8 0, 299, 17, [.agg [vs x0.scope.Program.Name, a6, b2, a9, b3, b4, b0, a7, b1, a8, a1, a3, a2, a4, a0, a5, vi (wr (x0.next + 1))]]⟩ :: ⟨.op b6 b5 0, 301, 2, [.agg [bm 0#32, vi 0]]⟩ :: R_) := (Mem.front (k := 1) f1 rfl)
    obtain ⟨l8, n6, s⟩ := bn s
    obtain ⟨s0, u5, n3, j5⟩ := ihR (z0 := ({ scope := x0.scope, env := x0.env, args := x0.args, nodes := x0.nodes, next := (wr (x0.next + 1)) } : ba)) (show ba.t.R ({ scope := x0.scope, env := x0.env, args := x0.args, nodes := x0.nodes, next := (wr (x0.next + 1)) } : ba) (.agg [vs x0.scope.Program.Name, a6, b2, a9, b3, b4, b0, a7, b1, a8, a1, a3, a2, a4, a0, a5, vi (wr (x0.next + 1))]) from ⟨a6, b2, a9, b3, b4, b0, a7, b1, a8, a1, a3, a2, a4, a0, a5, rfl, c7, d5, d4, c8, c9, d2, d3, d1, d0, c4, c3, c5, c1, c0, c2⟩) o6 (by exact ev1 hv (by assumption) (by assumption)) (by rw [hmu]; exact dv1 hv (by assumption) (by assumption))
    rw [n6] at j5
    obtain ⟨g4, d6, r1, i9, g2, l9⟩ := j5
    replace g2 := g2.symm; subst g2
    refine fx rfl rfl n3 (bw ?_)
    refine dz (x := .agg [bm 0#32, vi 0]) r1 rfl rfl (fun e2 d8 s7 p4 => ?_)
    refine bv (bw ?_)
    refine cw (k := 0) (v := d6) p4 rfl rfl rfl (TR.cnt aj.t l9) (fun m4 j8 => ?_)
    replace j8 : Mem m4 (⟨.op e2 d8 0, 301, 2, [d6]⟩ :: ⟨.op b7 b8 0, 299, 17, [g4]⟩ :: ⟨.op b6 b5 0, 301, 2, [.agg [bm 0#32, vi 0]]⟩ :: R_) := j8
    refine bv (je (am (aq (dv (bw (mV rfl (bv ?_)))))))
    have r8 : Mem m4 (⟨.op b7 b8 0, 299, 17, [g4]⟩ :: ⟨.op e2 d8 0, 301, 2, [d6]⟩ :: ⟨.op b6 b5 0, 301, 2, [.agg [bm 0#32, vi 0]]⟩ :: R_) := (Mem.front (k := 1) j8 rfl)
    obtain ⟨r4, n2, s⟩ := bn s
    obtain ⟨s2, t5, n5, j3⟩ := ihR (z0 := l8.2) i9 r8 (by exact ev2 hv (by assumption) (by assumption) (by assumption) hrec (by assumption)) (by rw [hmu]; exact dv2 hv (by assumption) (by assumption) (by assumption) hrec (by assumption))
    rw [n2] at j3
    obtain ⟨g0, c6, q2, h2, g6, g8⟩ := j3
    replace g6 := g6.symm; subst g6
    refine fx rfl rfl n5 (bw ?_)
    refine dz (x := .agg [bm 0#32, vi 0]) q2 rfl rfl (fun e5 e7 u1 r9 => ?_)
    refine bv (bw ?_)
    refine cw (k := 0) (v := c6) r9 rfl rfl rfl (TR.cnt aj.t g8) (fun l4 k3 => ?_)
    replace k3 : Mem l4 (⟨.op e5 e7 0, 301, 2, [c6]⟩ :: ⟨.op b7 b8 0, 299, 17, [g0]⟩ :: ⟨.op e2 d8 0, 301, 2, [d6]⟩ :: ⟨.op b6 b5 0, 301, 2, [.agg [bm 0#32, vi 0]]⟩ :: R_) := k3
    refine bv (je (am (aq (dv (bw (mV rfl (bv ?_)))))))
    have p6 : Mem l4 (⟨.op b7 b8 0, 299, 17, [g0]⟩ :: ⟨.op e5 e7 0, 301, 2, [c6]⟩ :: ⟨.op e2 d8 0, 301, 2, [d6]⟩ :: ⟨.op b6 b5 0, 301, 2, [.agg [bm 0#32, vi 0]]⟩ :: R_) := (Mem.front (k := 1) k3 rfl)
    obtain ⟨s9, m2, s⟩ := bn s
    obtain ⟨s5, u6, n4, j1⟩ := ihR (z0 := r4.2) h2 p6 (by exact ev3 hv (by assumption) (by assumption) (by assumption) (by assumption) hrec (by assumption) (by assumption)) (by rw [hmu]; exact dv3 hv (by assumption) (by assumption) (by assumption) (by assumption) hrec (by assumption) (by assumption))
    rw [m2] at j1
    obtain ⟨b9, d7, o7, e8, f9, f5⟩ := j1
    replace f9 := f9.symm; subst f9
    refine fx rfl rfl n4 (bw ?_)
    refine dz (x := .agg [bm 0#32, vi 0]) o7 rfl rfl (fun f6 g5 u7 q0 => ?_)
    refine bv (bw ?_)
    refine cw (k := 0) (v := d7) q0 rfl rfl rfl (TR.cnt aj.t f5) (fun q7 e4 => ?_)
    replace e4 : Mem q7 (⟨.op f6 g5 0, 301, 2, [d7]⟩ :: ⟨.op b7 b8 0, 299, 17, [b9]⟩ :: ⟨.op e5 e7 0, 301, 2, [c6]⟩ :: ⟨.op e2 d8 0, 301, 2, [d6]⟩ :: ⟨.op b6 b5 0, 301, 2, [.agg [bm 0#32, vi 0]]⟩ :: R_) := e4
    refine bv (je (am (aq (sR (ab (bf rfl) (ab (cg (k := 3) e4 rfl rfl (aj.g_v l9)) (ab (bz (a := bm l8.1.v) (b := bm 1#32) rfl rfl bs3) (nS ?_))))))))
    refine ci s rfl ?_ ?_ <;> clear s <;> intro c s <;> try simp only [qa] at c
    ·refine sR (ab (iw (k := 2) e4 rfl rfl (TR.agg aj.t g8)) ?_)
     refine cw (k := 4) (v := c6) e4 rfl rfl rfl (TR.cnt aj.t g8) (fun o4 i5 => ?_)
     replace i5 : Mem o4 (⟨.op f6 g5 0, 301, 2, [d7]⟩ :: ⟨.op b7 b8 0, 299, 17, [b9]⟩ :: ⟨.op e5 e7 0, 301, 2, [c6]⟩ :: ⟨.op e2 d8 0, 301, 2, [d6]⟩ :: ⟨.op b6 b5 0, 301, 2, [c6]⟩ :: R_) := i5
     refine nS ?_
     have l1 : Mem o4 (⟨.op b7 b8 0, 299, 17, [b9]⟩ :: ⟨.op f6 g5 0, 301, 2, [d7]⟩ :: ⟨.op e5 e7 0, 301, 2, [c6]⟩ :: ⟨.op e2 d8 0, 301, 2, [d6]⟩ :: ⟨.op b6 b5 0, 301, 2, [c6]⟩ :: R_) := (Mem.front (k := 1) i5 rfl)
     subst s
     exact ji (.cell rfl (dn (k := 4) i5 rfl (TR.agg aj.t g8)) .nil) ⟨b9, c6, Mem.sub l1 (.cons_cons _ (.cons _ (.cons _ (.cons _ (.cons _ (List.Sublist.refl R_)))))), e8, rfl, g8⟩
    ·refine bb (am (sR (ab (iw (k := 0) e4 rfl rfl (TR.agg aj.t f5)) ?_)))
     refine cw (k := 4) (v := d7) e4 rfl rfl rfl (TR.cnt aj.t f5) (fun k9 i4 => ?_)
     replace i4 : Mem k9 (⟨.op f6 g5 0, 301, 2, [d7]⟩ :: ⟨.op b7 b8 0, 299, 17, [b9]⟩ :: ⟨.op e5 e7 0, 301, 2, [c6]⟩ :: ⟨.op e2 d8 0, 301, 2, [d6]⟩ :: ⟨.op b6 b5 0, 301, 2, [d7]⟩ :: R_) := i4
     refine nS ?_
     have l3 : Mem k9 (⟨.op b7 b8 0, 299, 17, [b9]⟩ :: ⟨.op f6 g5 0, 301, 2, [d7]⟩ :: ⟨.op e5 e7 0, 301, 2, [c6]⟩ :: ⟨.op e2 d8 0, 301, 2, [d6]⟩ :: ⟨.op b6 b5 0, 301, 2, [d7]⟩ :: R_) := (Mem.front (k := 1) i4 rfl)
     subst s
     exact ji (.cell rfl (dn (k := 4) i4 rfl (TR.agg aj.t f5)) .nil) ⟨b9, d7, Mem.sub l3 (.cons_cons _ (.cons _ (.cons _ (.cons _ (.cons _ (List.Sublist.refl R_)))))), e8, rfl, f5⟩
theorem ce8 : ∀ (n_ : Nat) {x0 : ba} {a3 : PV} {R_ : List Ent} {h_ : Heap} {a1 a2 : Nat} (a0 : ba.t.R x0 a3) (M_ : Mem h_ (⟨.op a1 a2 0, 299, 17, [a3]⟩ :: R_)) (hv : VE x0), x0.nodes.length - x0.next.toNat < n_ → ∃ r a4, FnX Tryz.prog 273 [.op a1 a2 0] h_ r a4 ∧ RF273 a1 a2 R_ (dj n_ x0) r a4 := by
 intro n_
 induction n_ with
 | zero => intros; rename_i hlt; exact absurd hlt (Nat.not_lt_zero _)
 | succ n_ ihn =>
  intro x0 a3 R_ h_ a1 a2 a0 M_ hv hlt
  have e_ : dj (n_ + 1) x0 = js (dj n_) x0 := by rw [dj]
  rw [e_]
  exact bu4 a0 M_ hv rfl (al3 n_) (fun {z0} {a3} {R_} {h_} {a1} {a2} a0 M_ hv hz => ihn a0 M_ hv (by omega))
theorem cv6 {x0 : ba} {a3 : PV} {R_ : List Ent} {h_ : Heap} {a1 a2 : Nat} (a0 : ba.t.R x0 a3) (M_ : Mem h_ (⟨.op a1 a2 0, 299, 17, [a3]⟩ :: R_)) (hv : VE x0) : ∃ r a4, FnX Tryz.prog 273 [.op a1 a2 0] h_ r a4 ∧ RF273 a1 a2 R_ (mz x0) r a4 := ce8 _ a0 M_ hv (Nat.lt_succ_self _)

def RF228 (res : (BitVec 32)) (r : PV) : Prop := r = bm res
theorem cq2 {x0 : List af} {x1 : bd} {x2 : av} {x3 : List (BitVec 32)} {v0 v1 v2 v3 : PV} (r0 : (tSl af.t).R x0 v0) (r1 : bd.t.R x1 v1) (r2 : av.t.R x2 v2) (r3 : (tSl dm).R x3 v3) : FnR Tryz.prog 228 [v0, v1, v2, v3] (bm (ri x0 x1 x2 x3)) := by
 refine fnS (R := RF228) bd6 (fun _ h => h) rfl fun res s => ?_
 unfold ri at s
 refine sR (ab (dq rfl (TR.cnt bd.t r1)) (ab (dq rfl (TR.cnt av.t r2)) (ab (v := bm 0#32) (au rfl) (nS (aq (sR (mV rfl (lD r1 rfl rfl rfl ?_))))))))
 obtain ⟨e8, d1, s⟩ := bn s
 have d5 := ap0  r0 r1 
 rw [d1] at d5
 refine cL d5 rfl rfl (ai (TR.clo (tSl af.t) r0) (ai (TR.clo bd.t r1) bg)) (mV rfl (xT rfl rfl (xT rfl rfl (mV rfl (mV rfl (nR (mV rfl (bN mw rfl rfl ?_))))))))
 refine nS ?_
 refine ci s rfl ?_ ?_ <;> clear s <;> intro c s <;> try simp only [qa] at c
 ·refine sR (ab (v := bm 0#32) (au rfl) (nS ?_))
  exact rR s rfl rfl rfl
 ·refine bb (am (sR (lD r1 rfl rfl rfl (lD r2 rfl rfl rfl (mV rfl (mV rfl ?_))))))
  obtain ⟨a3, a2, b0, a8, a6, a7, a4, b1, a9, e1, c6, c4, c3, c2, b8, b5, c5, b9, b6⟩ := r1
  subst e1
  obtain ⟨a5, b2, a0, a1, d7, c0, c1, b7, b4⟩ := r2
  subst d7
  refine ab (v := .agg [vs x1.Program.Name, a3, a2, b0, a8, a6, a7, a4, b1, a9, a5, b2, a0, a1, v3, v0, vi 0]) (fu (cs := [vs x1.Program.Name, a3, a2, b0, a8, a6, a7, a4, b1, a9, a5, b2, a0, a1, v3, v0, vi 0]) rfl (by simp only [buildV, my (TR.cnt (tSl dm) r3) (TR.agg (tSl dm) r3), my (TR.cnt (tSl af.t) r0) (TR.agg (tSl af.t) r0)]; rfl)) ?_
  refine dz (x := .agg [vs [], nilS, nilS, nilS, nilS, nilS, nilS, nilS, nilS, nilS, nilS, nilS, nilS, nilS, nilS, nilS, vi 0]) (Mem.nil ⟨0, []⟩) rfl rfl (fun c9 d0 f0 e3 => ?_)
  refine cw (k := 0) (v := .agg [vs x1.Program.Name, a3, a2, b0, a8, a6, a7, a4, b1, a9, a5, b2, a0, a1, v3, v0, vi 0]) e3 rfl rfl rfl rfl (fun d3 c8 => ?_)
  replace c8 : Mem d3 [⟨.op c9 d0 0, 299, 17, [.agg [vs x1.Program.Name, a3, a2, b0, a8, a6, a7, a4, b1, a9, a5, b2, a0, a1, v3, v0, vi 0]]⟩] := c8
  refine nS (aq (dv ?_))
  have d8 : Mem d3 [⟨.op c9 d0 0, 299, 17, [.agg [vs x1.Program.Name, a3, a2, b0, a8, a6, a7, a4, b1, a9, a5, b2, a0, a1, v3, v0, vi 0]]⟩] := (Mem.front (k := 0) c8 rfl)
  obtain ⟨e5, d2, s⟩ := bn s
  obtain ⟨e4, e7, d4, c7⟩ := cv6 (x0 := ({ scope := x1, env := x2, args := x3, nodes := x0, next := 0 } : ba)) (show ba.t.R ({ scope := x1, env := x2, args := x3, nodes := x0, next := 0 } : ba) (.agg [vs x1.Program.Name, a3, a2, b0, a8, a6, a7, a4, b1, a9, a5, b2, a0, a1, v3, v0, vi 0]) from ⟨a3, a2, b0, a8, a6, a7, a4, b1, a9, a5, b2, a0, a1, v3, v0, rfl, c6, c4, c3, c2, b8, b5, c5, b9, b6, c0, c1, b7, b4, r3, r0⟩) d8 (by exact ev0 (by assumption) (by assumption) _ _)
  rw [d2] at c7
  obtain ⟨d9, e9, e6, d6, b3, e2⟩ := c7
  replace b3 := b3.symm; subst b3
  refine fx rfl rfl d4 (bw (ab (ag1 rfl (aj.g_v e2)) (bv (bw (mV rfl (bv (je (am ?_))))))))
  exact rR s rfl rfl rfl

def RF189 (res : (BitVec 32)) (r : PV) : Prop := r = bm res
theorem ae9 {x0 : aw} {x1 : List af} {v0 v1 : PV} (r0 : aw.t.R x0 v0) (r1 : (tSl af.t).R x1 v1) : FnR Tryz.prog 189 [.fp v0, v1] (bm (dp x0 x1)) := by
 refine fnS (R := RF189) bo1 (fun _ h => h) rfl fun res s => ?_
 unfold dp at s
 refine sR (ab (v := bm 0#32) (au rfl) (nR (mV rfl (mV rfl (ab (cx rfl rfl) ?_)))))
 obtain ⟨a8, a5, a2⟩ := aw.g_scope r0
 refine fA rfl a5 (lD a2 rfl rfl rfl (mV rfl (ab (cx rfl rfl) ?_)))
 obtain ⟨b0, a6, a1⟩ := aw.g_env r0
 refine fA rfl a6 (lD a1 rfl rfl rfl (mV rfl (ab (cx rfl rfl) ?_)))
 obtain ⟨a9, a7, a0⟩ := aw.g_args r0
 refine fA rfl a7 (lD a0 rfl rfl rfl ?_)
 obtain ⟨b1, a3, s⟩ := bn s
 have a4 := cq2  r1 a2 a1 a0 
 rw [a3] at a4
 refine cL a4 rfl rfl (ai (TR.clo (tSl af.t) r1) (ai (TR.clo bd.t a2) (ai (TR.clo av.t a1) (ai (TR.clo (tSl dm) a0) bg)))) (mV rfl (nS ?_))
 exact rR s rfl rfl rfl

def RF118 (i0_ w0_ : Nat) (R_ : List Ent) (res : aw) (r : PV) (h : Heap) : Prop := ∃ uF0 : PV, Mem h (⟨.op i0_ w0_ 0, 171, 16, [uF0]⟩ :: R_) ∧ (aw.t.R res uF0) ∧ r = .tup []
theorem cv7 {x0 : aw} {x1 : ak} {v1 g3 : PV} {R_ : List Ent} {h_ : Heap} {d2 d3 : Nat} (r1 : ak.t.R x1 v1) (b6 : aw.t.R x0 g3) (M_ : Mem h_ (⟨.op d2 d3 0, 171, 16, [g3]⟩ :: R_)) (hE : EB x0.env) : ∃ r g4, FnX Tryz.prog 118 [.op d2 d3 0, v1] h_ r g4 ∧ RF118 d2 d3 R_ (jp x0 x1) r g4 := by
 refine fnXX (R := RF118 d2 d3 R_) bd7 rfl fun res s => ?_
 unfold jp at s
 refine sR (ab (dq rfl (TR.cnt ak.t r1)) (nS (ax (mV rfl (mV rfl (ab (cx rfl rfl) (ab (bf rfl) (ab (bf rfl) ?_))))))))
 obtain ⟨g7, f9, g0⟩ := aw.g_scope b6
 obtain ⟨h0, f4, f2⟩ := bd.g_Program g0
 refine ab (cg (k := 0) M_ rfl rfl (jz f9 f4)) (mV rfl (ab (cx rfl rfl) (ab (bf rfl) ?_)))
 obtain ⟨g9, f5, e6⟩ := aw.g_env b6
 refine ab (cg (k := 0) M_ rfl rfl f5) (gL (ak.g_Dst r1) rfl rfl rfl fun g6 e2 => (mV rfl (gL (ak.g_Value r1) rfl rfl rfl fun g8 f0 => ?_)))
 have g1 := ae2 (P := Tryz.prog) (k := 0) M_ rfl (TR.clo aw.t b6)
 obtain ⟨f6, d4, s⟩ := bn s
 have e9 := ae9  b6 f0 
 rw [d4] at e9
 refine rv (sg rfl rfl (kt g1 (kt (cv (TR.clo (tSl af.t) f0)) sn)) e9 rfl) ?_
 obtain ⟨f3, f1, s⟩ := bn s
 obtain ⟨g5, g2, e4⟩ := bn8 (x3 := f6) f2 e6 e2 (by assumption)
 rw [f1] at e4
 refine cL g2 rfl rfl (ai (TR.clo ae.t f2) (ai (TR.clo av.t e6) (ai (TR.clo aa.t e2) (ai rfl bg)))) (ab (cx rfl rfl) (ab (bf rfl) ?_))
 obtain ⟨b2, a7, b3, a8, b0, b4, a6, a9, b1, a0, e5, d5, e1, d6, a1, f7, c8, c1, c5, b8, c3, b9, c7, d0, c6, b7, e3, e7, e8, d8, b5⟩ := b6
 subst f7
 obtain ⟨a5, a3, a2, a4, f8, c9, c2, c4, c0⟩ := e4
 subst f8
 refine ip (k := 0) (v := .agg [a5, a3, a2, a4]) M_ rfl rfl rfl rfl rfl (by ((simp only [List.length_cons, List.length_nil]; omega))) (fun d9 d1 => ?_)
 replace d1 : Mem d9 (⟨.op d2 d3 0, 171, 16, [.agg [vs x0.scope.Program.Name, b2, a7, b3, a8, b0, b4, a6, a9, b1, a0, a5, a3, a2, a4, a1]]⟩ :: R_) := d1
 refine bp ?_
 have d7 : Mem d9 (⟨.op d2 d3 0, 171, 16, [.agg [vs x0.scope.Program.Name, b2, a7, b3, a8, b0, b4, a6, a9, b1, a0, a5, a3, a2, a4, a1]]⟩ :: R_) := (Mem.front (k := 0) d1 rfl)
 subst s
 exact vu .nil ⟨(.agg [vs x0.scope.Program.Name, b2, a7, b3, a8, b0, b4, a6, a9, b1, a0, a5, a3, a2, a4, a1]), Mem.sub d7 (.cons_cons _ (List.Sublist.refl R_)), (show aw.t.R ({ scope := x0.scope, args := x0.args, env := f3, regs := x0.regs } : aw) (.agg [vs x0.scope.Program.Name, b2, a7, b3, a8, b0, b4, a6, a9, b1, a0, a5, a3, a2, a4, a1]) from ⟨b2, a7, b3, a8, b0, b4, a6, a9, b1, a0, a5, a3, a2, a4, a1, rfl, c8, c1, c5, b8, c3, b9, c7, d0, c6, b7, c9, c2, c4, c0, b5⟩), rfl⟩

def RF274 (res : Bool) (r : PV) : Prop := r = vb res
theorem cl5 {x0 : List co} {x1 : Int} {v0 : PV} (r0 : (tSl co.t).R x0 v0) : FnR Tryz.prog 274 [v0, vi x1] (vb (fw x0 x1)) := by
 refine fnS (R := RF274) bc5 (fun _ h => h) rfl fun res s => ?_
 unfold fw at s
 refine sR (mB rfl (nR (mV rfl (bN mc rfl rfl (mV rfl ?_)))))
 refine cn 5 (d := 12) (v := vb ((decide (0 ≤ x1)) && (decide (x1 < (x0.length : Int))))) ?_ ?_
 ·intro S Q r
  cases a1 : (decide (0 ≤ x1))
  ·exact gN 4 rfl rfl rfl rfl rfl rfl
  ·intro k
   have a0 := a1
   try simp only [qa] at a0
   refine ah rfl rfl (au rfl) (ah rfl rfl (au rfl) (ah rfl rfl (cy rfl (cm r0 Tryz.underlying22 _)) (ah rfl rfl (bz rfl rfl cz) ?_)))
   exact gK rfl rfl rfl rfl rfl k
 refine mV rfl (nS ?_)
 exact rR s rfl rfl rfl

def RF275 (res : Bool) (r : PV) : Prop := r = vb res
theorem cu1 {x0 : List Bool} {x1 : Int} {v0 : PV} (r0 : (tSl tB).R x0 v0) : FnR Tryz.prog 275 [v0, vi x1] (vb (ll x0 x1)) := by
 refine fnS (R := RF275) bd1 (fun _ h => h) rfl fun res s => ?_
 unfold ll at s
 refine sR (mB rfl (nR (mV rfl (bN mc rfl rfl (mV rfl ?_)))))
 refine cn 5 (d := 12) (v := vb ((decide (0 ≤ x1)) && (decide (x1 < (x0.length : Int))))) ?_ ?_
 ·intro S Q r
  cases a1 : (decide (0 ≤ x1))
  ·exact gN 4 rfl rfl rfl rfl rfl rfl
  ·intro k
   have a0 := a1
   try simp only [qa] at a0
   refine ah rfl rfl (au rfl) (ah rfl rfl (au rfl) (ah rfl rfl (cy rfl (cm r0 Tryz.underlying41 _)) (ah rfl rfl (bz rfl rfl cz) ?_)))
   exact gK rfl rfl rfl rfl rfl k
 refine mV rfl (nS ?_)
 exact rR s rfl rfl rfl

theorem cn0 {P : Program} {S : List Fr} {Q : Post} {E : TEnv} {h : Heap} {L : List Ent} {k : Nat} {ty : TypeId} {v zz : PV} {es : List PV} {z : Value} {x : Operand} {r : List AOper} {hf : Bool} (M : Mem h L) (ex : evE E x = some v) (hk : L[k]? = some ⟨v, ty, 1, es⟩) (hne : isL v = true) (hw : Wri v es) (hz : z.cells.toList.map PV.sc = [zz]) (hzc : zz.cellsOf = some [zz]) (hzn : cnt zz = some 1)
  (K : ∀ h', Mem h' (L.set k ⟨v, ty, 1, List.replicate es.length zz⟩) → RD P r S Q E h') : RD P (⟨none, .clr 1 z x, none, hf⟩ :: r) S Q E h := by
 obtain ⟨h', lv, M'⟩ := cp6 (P := P) M ex hk hne hw hz hzc hzn
 exact zb lv (K h' M')
theorem bw2 {l : List Bool} {i : Int} (h : ll l i = true) : 0 ≤ i ∧ i < l.length := by
 unfold ll at h
 simpa using h
theorem bj9 {x0 : ae} {x1 : av} {x2 : Int} {x3 x4 : Bool} {v0 v1 : PV} (r0 : ae.t.R x0 v0) (r1 : av.t.R x1 v1) (hE : EB x1) : ∃ r, FnR Tryz.prog 229 [v0, v1, vi x2, vb x3, vb x4] r ∧ av.t.R (fa x0 x1 x2 x3 x4) r := by
 refine fnE bj0 (by simp) ?_
 refine aq (ax ?_)
 refine ab (dq rfl (TR.cnt ae.t r0)) (ab (dq rfl (TR.cnt av.t r1)) ?_)
 refine dz (x := .agg [nilS, nilS, nilS, nilS]) (Mem.nil _) rfl rfl (fun i8 w8 h8 M8 => ?_)
 refine bp (am (aq (dv ?_)))
 refine bw (ab (ca rfl (TR.cnt av.t r1) (TR.agg av.t r1)) (bv ?_))
 obtain ⟨rr, k, X, a, b, c, d, eb, ef, em, ep, I, rfl, H⟩ := ai1 r1 hE M8
 refine fx rfl rfl X ?_
 refine bw (dz (x := .agg [nilS, nilS, nilS, nilS]) H.M rfl rfl (fun i9 w9 h9 M9 => bv ?_))
 refine bw (cw (k := 0) (v := .agg [a, b, c, d]) M9 rfl rfl rfl rfl (fun a3 a1 => bv (je ?_)))
 replace H := H.push (g := ⟨.op i9 w9 0, 46, 4, [.agg [a, b, c, d]]⟩) a1
 clear M8 M9 a1 X
 obtain ⟨d0, a2, s0⟩ := oq (P := Tryz.prog) (t := tB) H.M (k := 0) rfl H.na H.v (by have := hE.v; omega)
 have g0 : fieldR 0 1 false (.agg [a, b, c, d]) = some a := mk1 (fb H.M (k := 0) rfl H.na).2
 have g1 : fieldR 1 1 false (.agg [a, b, c, d]) = some b := mk1 (fb H.M (k := 1) rfl H.nb).2
 have Mp := H.pull
 refine am (aq (aq (ax ?_)))
 refine gL (ae.g_Headers r0) rfl rfl rfl (fun vh rh => mV rfl ?_)
 refine cL (cl5 (x1 := x2) rh) rfl rfl (ai (TR.clo _ rh) (ai rfl bg)) ?_
 refine ab (ks rfl) (mV rfl ?_)
 refine cn 6 (d := 25) (v := vb (!fw x0.Headers x2 || !ll x1.Valid x2)) ?_ ?_
 ·intro S Q r
  cases hb : fw x0.Headers x2
  ·exact gN 5 rfl rfl rfl rfl rfl rfl
  ·intro k
   refine ah rfl rfl (bf rfl) (ah rfl rfl (cg (k := 0) Mp rfl rfl g0) (ah rfl rfl (au rfl) ?_))
   refine mb rfl rfl (sg rfl rfl (kt a2 (kt (cv rfl) sn)) (cu1 (x1 := x2) s0) rfl) (ah rfl rfl (ks rfl) ?_)
   exact gK rfl rfl rfl rfl rfl k
 refine mV rfl ?_
 refine cn 11 (d := 37) (v := vb ((!fw x0.Headers x2 || !ll x1.Valid x2) || (x4 && decide (ix x1.Valid x2 = x3)))) ?_ ?_
 ·intro S Q r
  cases a0 : (!fw x0.Headers x2 || !ll x1.Valid x2)
  ·intro k
   simp only [Bool.or_eq_false_iff, Bool.not_eq_false'] at a0
   have hi := bw2 a0.2
   refine ah rfl rfl (au rfl) (ah rfl rfl (au rfl) ?_)
   cases x4
   ·refine skips 7 rfl (ah rfl rfl (qx rfl rfl rfl rfl) ?_)
    exact gK rfl rfl rfl rfl rfl k
   ·obtain ⟨xx, he, rx⟩ := qp (i := x2) H.v hi.1 hi.2
    have rx : xx = vb (ix x1.Valid x2) := rx
    subst rx
    obtain ⟨id, ver, n, rfl⟩ := wy H.wa H.v hi.1 hi.2
    have hn := qr H.M (k := 0) rfl
    have hl := H.v.length
    refine ah rfl rfl (bf rfl) (ah rfl rfl (cg (k := 0) Mp rfl rfl g0) (ah rfl rfl (au rfl) ?_))
    refine ah rfl rfl (bh rfl rfl (qg 1 (i := x2) hi.1 (by omega))) (ah rfl rfl (ou (k := 1) Mp rfl rfl he rfl) (ah rfl rfl (au rfl) ?_))
    refine ah rfl rfl (bz rfl rfl (aw4 (by rw [Tryz.underlying4]; rfl))) (ah rfl rfl (qx rfl rfl rfl rfl) ?_)
    exact gK rfl rfl rfl rfl rfl k
  ·exact gN 10 rfl rfl rfl rfl rfl rfl
 refine bp (am (aq (cj rfl (fun hc => ?_) fun hc => ?_)))
 ·have hs : fa x0 x1 x2 x3 x4 = x1 := by unfold fa; rw [if_pos hc]
  rw [hs]
  exact vm H hE rfl rfl rfl
 ·have hs : fa x0 x1 x2 x3 x4 = swE x1 x2 x3 := by unfold fa; rw [if_neg (by rw [hc]; simp)]
  rw [hs]
  simp only [Bool.or_eq_false_iff, Bool.not_eq_false'] at hc
  have hi := bw2 hc.1.2
  obtain ⟨id, ver, n, rfl⟩ := wy H.wa H.v hi.1 hi.2
  have hn := qr H.M (k := 0) rfl
  have hl := H.v.length
  refine bb (am (aq (ax ?_)))
  refine ab (bf rfl) (ab (cg (k := 0) Mp rfl rfl g0) (mV rfl (mV rfl ?_)))
  refine ab (bh rfl rfl (qg 1 (i := x2) hi.1 (by omega))) ?_
  refine tu (k := 0) (i := x2.toNat) H.M rfl rfl rfl (by omega) rfl (fun h' M' => ?_)
  replace H := H.setV M' ⟨_, _, _, rfl⟩
  replace hE := hE.setV (k := x2.toNat) (v := x3)
  clear M' Mp
  have Mp := H.pull
  refine bp (am (aq (dv ?_)))
  refine bw (ab (bf rfl) (bv (bw (ab (cg (k := 0) Mp rfl rfl g1) (bv (bw (ab (au rfl) (bv ?_))))))))
  refine fx rfl rfl (cw8 H.M (k := 1) rfl H.nb H.wb H.aggs (i := x2)) ?_
  have hlf := H.f.len.1
  by_cases hf : x2 < (ef.length : Int)
  ·obtain ⟨v, es, e1, e2, e3, e4, e5, e6, e7⟩ := H.inner (i := x2) hi.1 (by omega)
   have ev : (if 0 ≤ x2 ∧ x2 < (ef.length : Int) then ef.getD x2.toNat nilS else nilS) = v := by rw [if_pos ⟨hi.1, hf⟩, List.getD_eq_getElem?_getD, e1]; rfl
   rw [ev]
   refine bw (cn0 (zz := bm 0#32) H.M rfl e3 e5 e7 rfl rfl rfl (fun h2 M2 => bv (je ?_)))
   exact am (vm (H.clrF e1 e2 e4 e5 e6 e7 M2) (hE.setF (by rw [List.length_replicate]; exact hE.i _ (ai5 hi.1 (by omega)))) rfl rfl rfl)
  ·have ev : (if 0 ≤ x2 ∧ x2 < (ef.length : Int) then ef.getD x2.toNat nilS else nilS) = nilS := if_neg (by omega)
   rw [ev]
   refine bw (zb (v := .tup []) (h' := h') ⟨rfl, fun T hT => by simp only [opL, fj hT (show evE ((47, nilS) :: _) (.tmp 47) = some nilS from rfl)]⟩ (bv (je ?_)))
   have es : swE x1 x2 x3 = { x1 with Valid := x1.Valid.set x2.toNat x3 } := by
    have : x1.Fields.set x2.toNat (List.replicate (ix x1.Fields x2).length 0#32) = x1.Fields := List.set_eq_of_length_le (by have hlf : ef.length = x1.Fields.length := hlf; omega)
    unfold swE
    rw [this]
   rw [es]
   exact am (vm H hE rfl rfl rfl)

end Go.Proofs.YtmonnlkagniolaaGreat
