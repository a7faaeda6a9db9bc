/-
 The code of each function does what its plain program says.
-/
import Derived.Test.YtmonnlkagniolaaGreatL7W3
set_option linter.unusedVariables false
set_option linter.unusedSimpArgs false
set_option maxRecDepth 100000
namespace Go.Proofs.YtmonnlkagniolaaGreat
open Go Go.Pb Go.RowKit
def RF289 (i0_ w0_ : Nat) (R_ : List Ent) (res : am × bg) (r : PV) (h : Heap) : Prop := ∃ uF0 : PV, ∃ c0_ : PV, Mem h (⟨.op i0_ w0_ 0, 299, 17, [uF0]⟩ :: R_) ∧ (bg.t.R res.2 uF0) ∧ r = c0_ ∧ am.t.R res.1 c0_
theorem cp1 {x0 : bg} {x1 : aa} {v1 a5 : PV} {R_ : List Ent} {h_ : Heap} {b4 b5 : Nat} (r1 : aa.t.R x1 v1) (a3 : bg.t.R x0 a5) (M_ : Mem h_ (⟨.op b4 b5 0, 299, 17, [a5]⟩ :: R_)) (hp : (cp x0.scope x1).2 = 0) : ∃ r h6, FnX Tryz.prog 289 [.op b4 b5 0, v1] h_ r h6 ∧ RF289 b4 b5 R_ (dz x0 x1) r h6 := by
 refine fnXX (R := RF289 b4 b5 R_) bh6 rfl fun res s => ?_
 unfold dz at s
 refine sR (ae (cz rfl (TR.cnt aa.t r1)) ?_)
 refine di (x := .agg [bd 0#32, vi 0]) M_ rfl rfl (fun a2 a1 i2 a4 => ?_)
 refine nR (mV rfl (ae (dp rfl rfl) (ae (bv rfl) ?_)))
 obtain ⟨h9, h1, e8⟩ := bg.g_scope a3
 refine ae (cq (k := 1) a4 rfl rfl h1) (lD r1 rfl rfl rfl ?_)
 obtain ⟨a0, f0, s⟩ := bn s
 have f9 := bh3  e8 r1 
 rw [f0] at f9
 refine cL f9 rfl rfl (ab (TR.clo aj.t e8) (ab (TR.clo aa.t r1) ay)) (mV rfl (xT rfl rfl (xT rfl rfl (mV rfl (mV rfl (nR (ae (v := bd 0#32) (ax rfl) (nS ?_))))))))
 refine au (sR (fL rfl (aa.g_Op r1) rfl rfl (nS (cb (sR (bN dn rfl rfl (mV rfl (nS ?_))))))))
 refine bt s rfl ?_ ?_ <;> clear s <;> intro c s <;> try simp only [qa] at c
 ·refine bb (fL rfl (aa.g_N r1) rfl rfl (ae (gi (a := vi x1.N) rfl (c_iw Tryz.underlying3 Tryz.underlying89)) (mV rfl (cf (dj (aq (sR (mV rfl ?_))))))))
  refine mV rfl ?_
  obtain ⟨a6, d2, s⟩ := bn s
  have e6 := kt (x0 := a0.1)  
  rw [d2] at e6
  refine cL e6 rfl rfl (ab rfl ay) (ae (bp (a := bd (BitVec.ofInt 32 x1.N)) (b := bd a6) rfl rfl qe) (mV rfl (ae (v := .agg [bd ((BitVec.ofInt 32 x1.N) &&& a6), vi a0.1]) (eg (cs := [bd ((BitVec.ofInt 32 x1.N) &&& a6), vi a0.1]) rfl rfl) ?_)))
  refine ci (k := 0) (v := .agg [bd ((BitVec.ofInt 32 x1.N) &&& a6), vi a0.1]) a4 rfl rfl rfl rfl (fun e9 c5 => ?_)
  replace c5 : Mem e9 (⟨.op a2 a1 0, 301, 2, [.agg [bd ((BitVec.ofInt 32 x1.N) &&& a6), vi a0.1]]⟩ :: ⟨.op b4 b5 0, 299, 17, [a5]⟩ :: R_) := c5
  refine nS ?_
  have f4 : Mem e9 (⟨.op b4 b5 0, 299, 17, [a5]⟩ :: ⟨.op a2 a1 0, 301, 2, [.agg [bd ((BitVec.ofInt 32 x1.N) &&& a6), vi a0.1]]⟩ :: R_) := (Mem.front (k := 1) c5 rfl)
  subst s
  exact kj (.cell rfl (cv (k := 0) c5 rfl rfl) .nil) ⟨a5, (.agg [bd ((BitVec.ofInt 32 x1.N) &&& a6), vi a0.1]), Mem.sub f4 (.cons_cons _ (.cons _ (List.Sublist.refl R_))), a3, rfl, (show am.t.R ({ v := ((BitVec.ofInt 32 x1.N) &&& a6), w := a0.1 } : am) (.agg [bd ((BitVec.ofInt 32 x1.N) &&& a6), vi a0.1]) from rfl)⟩
 ·refine sR (bN dn rfl rfl (mV rfl (nS ?_)))
  refine bt s rfl ?_ ?_ <;> clear s <;> intro c s <;> try simp only [qa] at c
  ·refine bb (mV rfl (ae (dp rfl rfl) (ae (bv rfl) ?_)))
   obtain ⟨h8, g8, d4⟩ := bg.g_env a3
   refine ae (cq (k := 1) a4 rfl rfl g8) (fL rfl (aa.g_N r1) rfl rfl (fL rfl (aa.g_W r1) rfl rfl (ae (v := .agg [vi x1.N, vi x1.W]) (eg (cs := [vi x1.N, vi x1.W]) rfl rfl) ?_)))
   obtain ⟨b2, d0, s⟩ := bn s
   have g1 := cn4  d4 (show ak.t.R ({ Header := x1.N, Field := x1.W } : ak) (.agg [vi x1.N, vi x1.W]) from rfl) 
   rw [d0] at g1
   refine cL g1 rfl rfl (ab (TR.clo ai.t d4) (ab (TR.clo ak.t (show ak.t.R ({ Header := x1.N, Field := x1.W } : ak) (.agg [vi x1.N, vi x1.W]) from rfl)) ay)) (mV rfl (cf (dj (aq (sR (mV rfl (mV rfl ?_)))))))
   obtain ⟨a9, e0, s⟩ := bn s
   have d9 := kt (x0 := a0.1)  
   rw [e0] at d9
   refine cL d9 rfl rfl (ab rfl ay) (ae (bp (a := bd b2) (b := bd a9) rfl rfl qe) (mV rfl (ae (v := .agg [bd (b2 &&& a9), vi a0.1]) (eg (cs := [bd (b2 &&& a9), vi a0.1]) rfl rfl) ?_)))
   refine ci (k := 0) (v := .agg [bd (b2 &&& a9), vi a0.1]) a4 rfl rfl rfl rfl (fun c9 b8 => ?_)
   replace b8 : Mem c9 (⟨.op a2 a1 0, 301, 2, [.agg [bd (b2 &&& a9), vi a0.1]]⟩ :: ⟨.op b4 b5 0, 299, 17, [a5]⟩ :: R_) := b8
   refine nS ?_
   have f5 : Mem c9 (⟨.op b4 b5 0, 299, 17, [a5]⟩ :: ⟨.op a2 a1 0, 301, 2, [.agg [bd (b2 &&& a9), vi a0.1]]⟩ :: R_) := (Mem.front (k := 1) b8 rfl)
   subst s
   exact kj (.cell rfl (cv (k := 0) b8 rfl rfl) .nil) ⟨a5, (.agg [bd (b2 &&& a9), vi a0.1]), Mem.sub f5 (.cons_cons _ (.cons _ (List.Sublist.refl R_))), a3, rfl, (show am.t.R ({ v := (b2 &&& a9), w := a0.1 } : am) (.agg [bd (b2 &&& a9), vi a0.1]) from rfl)⟩
  ·refine sR (bN dn rfl rfl (mV rfl (nS ?_)))
   refine bt s rfl ?_ ?_ <;> clear s <;> intro c s <;> try simp only [qa] at c
   ·refine sR (fL rfl (aa.g_N r1) rfl rfl (mV rfl (ae (dp rfl rfl) (ae (bv rfl) ?_))))
    obtain ⟨i1, g3, g2⟩ := bg.g_args a3
    refine ae (cq (k := 1) a4 rfl rfl g3) (ae (cy rfl (co g2 Tryz.underlying43 _)) (bN ct rfl rfl (nS ?_)))
    refine bt s rfl ?_ ?_ <;> clear s <;> intro c s <;> try simp only [qa] at c
    ·refine bb (mV rfl (ae (dp rfl rfl) (ae (bv rfl) ?_)))
     obtain ⟨h7, g6, g7⟩ := bg.g_args a3
     refine ae (cq (k := 1) a4 rfl rfl g6) (fL rfl (aa.g_N r1) rfl rfl (ae (bh rfl rfl (vv g7 (by ((have hk := pr3 hp (by assumption); omega))) (by omega))) (lR rfl rfl rfl (mV rfl (cf (dj (aq (sR ?_))))))))
     refine mV rfl (mV rfl ?_)
     obtain ⟨a8, e2, s⟩ := bn s
     have d8 := kt (x0 := a0.1)  
     rw [e2] at d8
     refine cL d8 rfl rfl (ab rfl ay) (ae (bp (a := bd (ix x0.args x1.N)) (b := bd a8) rfl rfl qe) (mV rfl (ae (v := .agg [bd ((ix x0.args x1.N) &&& a8), vi a0.1]) (eg (cs := [bd ((ix x0.args x1.N) &&& a8), vi a0.1]) rfl rfl) ?_)))
     refine ci (k := 0) (v := .agg [bd ((ix x0.args x1.N) &&& a8), vi a0.1]) a4 rfl rfl rfl rfl (fun e3 b9 => ?_)
     replace b9 : Mem e3 (⟨.op a2 a1 0, 301, 2, [.agg [bd ((ix x0.args x1.N) &&& a8), vi a0.1]]⟩ :: ⟨.op b4 b5 0, 299, 17, [a5]⟩ :: R_) := b9
     refine nS ?_
     have f1 : Mem e3 (⟨.op b4 b5 0, 299, 17, [a5]⟩ :: ⟨.op a2 a1 0, 301, 2, [.agg [bd ((ix x0.args x1.N) &&& a8), vi a0.1]]⟩ :: R_) := (Mem.front (k := 1) b9 rfl)
     subst s
     exact kj (.cell rfl (cv (k := 0) b9 rfl rfl) .nil) ⟨a5, (.agg [bd ((ix x0.args x1.N) &&& a8), vi a0.1]), Mem.sub f1 (.cons_cons _ (.cons _ (List.Sublist.refl R_))), a3, rfl, (show am.t.R ({ v := ((ix x0.args x1.N) &&& a8), w := a0.1 } : am) (.agg [bd ((ix x0.args x1.N) &&& a8), vi a0.1]) from rfl)⟩
    ·refine ba (dj (aq (sR (mV rfl (mV rfl ?_)))))
     obtain ⟨b1, e1, s⟩ := bn s
     have e7 := kt (x0 := a0.1)  
     rw [e1] at e7
     refine cL e7 rfl rfl (ab rfl ay) (ae (bp (a := bd 0#32) (b := bd b1) rfl rfl qe) (mV rfl (ae (v := .agg [bd (0#32 &&& b1), vi a0.1]) (eg (cs := [bd (0#32 &&& b1), vi a0.1]) rfl rfl) ?_)))
     refine ci (k := 0) (v := .agg [bd (0#32 &&& b1), vi a0.1]) a4 rfl rfl rfl rfl (fun e4 c4 => ?_)
     replace c4 : Mem e4 (⟨.op a2 a1 0, 301, 2, [.agg [bd (0#32 &&& b1), vi a0.1]]⟩ :: ⟨.op b4 b5 0, 299, 17, [a5]⟩ :: R_) := c4
     refine nS ?_
     have f6 : Mem e4 (⟨.op b4 b5 0, 299, 17, [a5]⟩ :: ⟨.op a2 a1 0, 301, 2, [.agg [bd (0#32 &&& b1), vi a0.1]]⟩ :: R_) := (Mem.front (k := 1) c4 rfl)
     subst s
     exact kj (.cell rfl (cv (k := 0) c4 rfl rfl) .nil) ⟨a5, (.agg [bd (0#32 &&& b1), vi a0.1]), Mem.sub f6 (.cons_cons _ (.cons _ (List.Sublist.refl R_))), a3, rfl, (show am.t.R ({ v := (0#32 &&& b1), w := a0.1 } : am) (.agg [bd (0#32 &&& b1), vi a0.1]) from rfl)⟩
   ·refine sR (bN dn rfl rfl (mV rfl (nS ?_)))
    refine bt s rfl ?_ ?_ <;> clear s <;> intro c s <;> try simp only [qa] at c
    ·refine sR (fL rfl (aa.g_N r1) rfl rfl (mV rfl (ae (dp rfl rfl) (ae (bv rfl) (ae (bv rfl) ?_)))))
     obtain ⟨i3, h3, h0⟩ := bg.g_env a3
     obtain ⟨i4, g4, h2⟩ := ai.g_Valid h0
     refine ae (cq (k := 1) a4 rfl rfl (nq h3 g4)) (ae (cy rfl (co h2 Tryz.underlying41 _)) (bN ct rfl rfl (mV rfl ?_)))
     refine bw 10 (d := 75) (v := vb ((decide (x1.N < (x0.env.Valid.length : Int))) && (ix x0.env.Valid x1.N))) ?_ ?_
     ·intro S Q r
      cases f3 : (decide (x1.N < (x0.env.Valid.length : Int)))
      ·exact gN 9 rfl rfl rfl rfl rfl rfl
      ·intro k
       have c6 := f3
       try simp only [qa] at c6
       refine ah rfl rfl (ax rfl) (ah rfl rfl (dp rfl rfl) (ah rfl rfl (bv rfl) (ah rfl rfl (bv rfl) ?_)))
       obtain ⟨i0, h5, h4⟩ := bg.g_env a3
       obtain ⟨i5, g5, g9⟩ := ai.g_Valid h4
       refine ah rfl rfl (cq (k := 1) a4 rfl rfl (nq h5 g5)) (ah rfl rfl (br rfl (aa.g_N r1)) (ah rfl rfl (bq rfl rfl rfl) (ah rfl rfl (bh rfl rfl (slB g9 (by ((have hk := pr4 hp (by assumption); omega))) (by omega))) (ah rfl rfl (bq rfl rfl rfl) ?_))))
       exact gK rfl rfl rfl rfl rfl k
     refine nS ?_
     refine bt s rfl ?_ ?_ <;> clear s <;> intro c s <;> try simp only [qa] at c
     ·refine bb (ae (v := bd 1#32) (ax rfl) (cf (dj (aq (sR (mV rfl (mV rfl ?_)))))))
      obtain ⟨b0, f8, s⟩ := bn s
      have f2 := kt (x0 := a0.1)  
      rw [f8] at f2
      refine cL f2 rfl rfl (ab rfl ay) (ae (bp (a := bd 1#32) (b := bd b0) rfl rfl qe) (mV rfl (ae (v := .agg [bd (1#32 &&& b0), vi a0.1]) (eg (cs := [bd (1#32 &&& b0), vi a0.1]) rfl rfl) ?_)))
      refine ci (k := 0) (v := .agg [bd (1#32 &&& b0), vi a0.1]) a4 rfl rfl rfl rfl (fun d5 b6 => ?_)
      replace b6 : Mem d5 (⟨.op a2 a1 0, 301, 2, [.agg [bd (1#32 &&& b0), vi a0.1]]⟩ :: ⟨.op b4 b5 0, 299, 17, [a5]⟩ :: R_) := b6
      refine nS ?_
      have d1 : Mem d5 (⟨.op b4 b5 0, 299, 17, [a5]⟩ :: ⟨.op a2 a1 0, 301, 2, [.agg [bd (1#32 &&& b0), vi a0.1]]⟩ :: R_) := (Mem.front (k := 1) b6 rfl)
      subst s
      exact kj (.cell rfl (cv (k := 0) b6 rfl rfl) .nil) ⟨a5, (.agg [bd (1#32 &&& b0), vi a0.1]), Mem.sub d1 (.cons_cons _ (.cons _ (List.Sublist.refl R_))), a3, rfl, (show am.t.R ({ v := (1#32 &&& b0), w := a0.1 } : am) (.agg [bd (1#32 &&& b0), vi a0.1]) from rfl)⟩
     ·refine ba (dj (aq (sR (mV rfl (mV rfl ?_)))))
      obtain ⟨b3, c8, s⟩ := bn s
      have c7 := kt (x0 := a0.1)  
      rw [c8] at c7
      refine cL c7 rfl rfl (ab rfl ay) (ae (bp (a := bd 0#32) (b := bd b3) rfl rfl qe) (mV rfl (ae (v := .agg [bd (0#32 &&& b3), vi a0.1]) (eg (cs := [bd (0#32 &&& b3), vi a0.1]) rfl rfl) ?_)))
      refine ci (k := 0) (v := .agg [bd (0#32 &&& b3), vi a0.1]) a4 rfl rfl rfl rfl (fun d6 c1 => ?_)
      replace c1 : Mem d6 (⟨.op a2 a1 0, 301, 2, [.agg [bd (0#32 &&& b3), vi a0.1]]⟩ :: ⟨.op b4 b5 0, 299, 17, [a5]⟩ :: R_) := c1
      refine nS ?_
      have e5 : Mem d6 (⟨.op b4 b5 0, 299, 17, [a5]⟩ :: ⟨.op a2 a1 0, 301, 2, [.agg [bd (0#32 &&& b3), vi a0.1]]⟩ :: R_) := (Mem.front (k := 1) c1 rfl)
      subst s
      exact kj (.cell rfl (cv (k := 0) c1 rfl rfl) .nil) ⟨a5, (.agg [bd (0#32 &&& b3), vi a0.1]), Mem.sub e5 (.cons_cons _ (.cons _ (List.Sublist.refl R_))), a3, rfl, (show am.t.R ({ v := (0#32 &&& b3), w := a0.1 } : am) (.agg [bd (0#32 &&& b3), vi a0.1]) from rfl)⟩
    ·refine ba (dj (aq (sR (mV rfl (mV rfl ?_)))))
     obtain ⟨a7, g0, s⟩ := bn s
     have d7 := kt (x0 := a0.1)  
     rw [g0] at d7
     refine cL d7 rfl rfl (ab rfl ay) (ae (bp (a := bd 0#32) (b := bd a7) rfl rfl qe) (mV rfl (ae (v := .agg [bd (0#32 &&& a7), vi a0.1]) (eg (cs := [bd (0#32 &&& a7), vi a0.1]) rfl rfl) ?_)))
     refine ci (k := 0) (v := .agg [bd (0#32 &&& a7), vi a0.1]) a4 rfl rfl rfl rfl (fun d3 b7 => ?_)
     replace b7 : Mem d3 (⟨.op a2 a1 0, 301, 2, [.agg [bd (0#32 &&& a7), vi a0.1]]⟩ :: ⟨.op b4 b5 0, 299, 17, [a5]⟩ :: R_) := b7
     refine nS ?_
     have f7 : Mem d3 (⟨.op b4 b5 0, 299, 17, [a5]⟩ :: ⟨.op a2 a1 0, 301, 2, [.agg [bd (0#32 &&& a7), vi a0.1]]⟩ :: R_) := (Mem.front (k := 1) b7 rfl)
     subst s
     exact kj (.cell rfl (cv (k := 0) b7 rfl rfl) .nil) ⟨a5, (.agg [bd (0#32 &&& a7), vi a0.1]), Mem.sub f7 (.cons_cons _ (.cons _ (List.Sublist.refl R_))), a3, rfl, (show am.t.R ({ v := (0#32 &&& a7), w := a0.1 } : am) (.agg [bd (0#32 &&& a7), vi a0.1]) from rfl)⟩

def RF295 (res : (BitVec 32)) (r : PV) : Prop := r = bd res
theorem cp9 {x0 : BitVec 32} {x1 : Int} : FnR Tryz.prog 295 [bd x0, vi x1] (bd (rd x0 x1)) := by
 refine fnS (R := RF295) bb5 (fun _ h => h) rfl fun res s => ?_
 unfold rd at s
 refine sR (ae (v := bd 0#32) (ax rfl) (nR (mV rfl (ae (ds4 (a := bd x0) rfl dx9) (mV rfl ?_)))))
 obtain ⟨a2, a1, s⟩ := bn s
 have a0 := kt (x0 := x1)  
 rw [a1] at a0
 refine cL a0 rfl rfl (ab rfl ay) (ae (bp (a := bd (~~~x0)) (b := bd a2) rfl rfl qe) (mV rfl (nS ?_)))
 exact rR s rfl rfl rfl

def RF296 (res : (BitVec 32)) (r : PV) : Prop := r = bd res
theorem cv5 {x0 : BitVec 32} {x1 x2 : Int} : FnR Tryz.prog 296 [bd x0, vi x1, vi x2] (bd (qx x0 x1 x2)) := by
 refine fnS (R := RF296) bd9 (fun _ h => h) rfl fun res s => ?_
 unfold qx at s
 refine sR (ae (v := bd 0#32) (ax rfl) (nR (mV rfl (mV rfl (ae (cy rfl (ao2 _ _)) (ae (bp (a := bd x0) (b := vi (max x1 0)) rfl rfl (de0 (by omega))) (mV rfl ?_)))))))
 obtain ⟨a2, a1, s⟩ := bn s
 have a0 := kt (x0 := x2)  
 rw [a1] at a0
 refine cL a0 rfl rfl (ab rfl ay) (ae (bp (a := bd (x0 <<< (max x1 0).toNat)) (b := bd a2) rfl rfl qe) (mV rfl (nS ?_)))
 exact rR s rfl rfl rfl

def RF297 (res : (BitVec 32)) (r : PV) : Prop := r = bd res
theorem co3 {x0 : BitVec 32} {x1 x2 : Int} : FnR Tryz.prog 297 [bd x0, vi x1, vi x2] (bd (rc x0 x1 x2)) := by
 refine fnS (R := RF297) bi0 (fun _ h => h) rfl fun res s => ?_
 unfold rc at s
 refine sR (ae (v := bd 0#32) (ax rfl) (nR (mV rfl (mV rfl ?_))))
 obtain ⟨a1, a2, s⟩ := bn s
 have a0 := kt (x0 := x2)  
 rw [a2] at a0
 refine cL a0 rfl rfl (ab rfl ay) (ae (bp (a := bd x0) (b := bd a1) rfl rfl qe) (mV rfl (ae (cy rfl (ao2 _ _)) (ae (bp (a := bd (x0 &&& a1)) (b := vi (max x1 0)) rfl rfl (by6 (by omega))) (mV rfl (nS ?_))))))
 exact rR s rfl rfl rfl

def RF298 (res : (BitVec 32)) (r : PV) : Prop := r = bd res
theorem cj7 {x0 : BitVec 32} {x1 x2 : Int} : FnR Tryz.prog 298 [bd x0, vi x1, vi x2] (bd (pn x0 x1 x2)) := by
 refine fnS (R := RF298) bd3 (fun _ h => h) rfl fun res s => ?_
 unfold pn at s
 refine sR (ae (v := bd 0#32) (ax rfl) (nS (au (sR (mV rfl (ae (v := .fs true [vi x2]) (ko rfl (all_cons rfl oa)) ?_))))))
 have a9 : (tSl tI).R ([x2] : List Int) (.fs true [vi x2]) := ah1 ⟨rfl, trivial⟩ (by simp)
 obtain ⟨a0, a5, s⟩ := bn s
 have a7 := ad5  a9 
 rw [a5] at a7
 refine cL a7 rfl rfl (ab (TR.clo (tSl tI) a9) ay) (ae (gv rfl) (mV rfl ?_))
 refine bw 3 (d := 14) (v := vb ((!a0) || (decide (x1 < 0)))) ?_ ?_
 ·intro S Q r
  cases a4 : (!a0)
  ·intro k
   have a2 := a4
   try simp only [qa] at a2
   refine ah rfl rfl (ax rfl) (ah rfl rfl (bp rfl rfl ct) ?_)
   exact gK rfl rfl rfl rfl rfl k
  ·exact gN 2 rfl rfl rfl rfl rfl rfl
 refine mV rfl ?_
 refine bw 5 (d := 20) (v := vb (((!a0) || (decide (x1 < 0))) || (decide ((wr (32 - x2)) < x1)))) ?_ ?_
 ·intro S Q r
  cases a8 : ((!a0) || (decide (x1 < 0)))
  ·intro k
   have a1 := a8
   try simp only [qa] at a1
   refine ah rfl rfl (ax rfl) (ah rfl rfl (ax rfl) (ah rfl rfl (bp rfl rfl au3) (ah rfl rfl (bp rfl rfl ki) ?_)))
   exact gK rfl rfl rfl rfl rfl k
  ·exact gN 4 rfl rfl rfl rfl rfl rfl
 refine nS ?_
 refine bt s rfl ?_ ?_ <;> clear s <;> intro c s <;> try simp only [qa] at c
 ·refine sR (ae (v := bd 0#32) (ax rfl) (nS ?_))
  exact rR s rfl rfl rfl
 ·refine ba (aq (sR (mV rfl (mV rfl (ae (bp (a := bd x0) (b := vi x1) rfl rfl (by6 (by omega))) (mV rfl ?_))))))
  obtain ⟨b0, a6, s⟩ := bn s
  have a3 := kt (x0 := x2)  
  rw [a6] at a3
  refine cL a3 rfl rfl (ab rfl ay) (ae (bp (a := bd (x0 >>> x1.toNat)) (b := bd b0) rfl rfl qe) (mV rfl (nS ?_)))
  exact rR s rfl rfl rfl

def RF290 (res : am) (r : PV) : Prop := am.t.R res r
theorem cm6 {x0 : aa} {x1 : am} {v0 v1 : PV} (r0 : aa.t.R x0 v0) (r1 : am.t.R x1 v1) : ∃ r, FnR Tryz.prog 290 [v0, v1] r ∧ am.t.R (lw x0 x1) r := by
 refine fnT (R := RF290) bj9 rfl fun res s => ?_
 unfold lw at s
 refine sR (ae (cz rfl (TR.cnt aa.t r0)) (ae (cz rfl (TR.cnt am.t r1)) ?_))
 refine di (x := .agg [bd 0#32, vi 0]) (Mem.nil ⟨0, []⟩) rfl rfl (fun a5 a6 c6 a4 => ?_)
 refine nS (au (sR (fL rfl (aa.g_Op r0) rfl rfl (nS (cb (sR (bN dn rfl rfl (mV rfl ?_))))))))
 refine nS ?_
 refine bt s rfl ?_ ?_ <;> clear s <;> intro c s <;> try simp only [qa] at c
 ·refine sR (fL rfl (am.g_v r1) rfl rfl (fL rfl (am.g_w r1) rfl rfl ?_))
  obtain ⟨a2, b2, s⟩ := bn s
  have b3 := cp9 (x0 := x1.v) (x1 := x1.w)  
  rw [b2] at b3
  refine cL b3 rfl rfl (ab rfl (ab rfl ay)) (fL rfl (am.g_w r1) rfl rfl (ae (v := .agg [bd a2, vi x1.w]) (eg (cs := [bd a2, vi x1.w]) rfl rfl) ?_))
  refine ci (k := 0) (v := .agg [bd a2, vi x1.w]) a4 rfl rfl rfl rfl (fun c5 b0 => ?_)
  replace b0 : Mem c5 [⟨.op a5 a6 0, 301, 2, [.agg [bd a2, vi x1.w]]⟩] := b0
  refine nS ?_
  subst s
  exact dw (.cell rfl (cv (k := 0) b0 rfl rfl) .nil) (cd (TR.clo am.t (show am.t.R ({ v := a2, w := x1.w } : am) (.agg [bd a2, vi x1.w]) from rfl))) (show am.t.R ({ v := a2, w := x1.w } : am) (.agg [bd a2, vi x1.w]) from rfl)
 ·refine sR (bN dn rfl rfl (mV rfl (nS ?_)))
  refine bt s rfl ?_ ?_ <;> clear s <;> intro c s <;> try simp only [qa] at c
  ·refine sR (fL rfl (am.g_v r1) rfl rfl (fL rfl (aa.g_N r0) rfl rfl (fL rfl (am.g_w r1) rfl rfl ?_)))
   obtain ⟨a1, b7, s⟩ := bn s
   have b5 := cv5 (x0 := x1.v) (x1 := x0.N) (x2 := x1.w)  
   rw [b7] at b5
   refine cL b5 rfl rfl (ab rfl (ab rfl (ab rfl ay))) (fL rfl (am.g_w r1) rfl rfl (ae (v := .agg [bd a1, vi x1.w]) (eg (cs := [bd a1, vi x1.w]) rfl rfl) ?_))
   refine ci (k := 0) (v := .agg [bd a1, vi x1.w]) a4 rfl rfl rfl rfl (fun c1 a7 => ?_)
   replace a7 : Mem c1 [⟨.op a5 a6 0, 301, 2, [.agg [bd a1, vi x1.w]]⟩] := a7
   refine nS ?_
   subst s
   exact dw (.cell rfl (cv (k := 0) a7 rfl rfl) .nil) (cd (TR.clo am.t (show am.t.R ({ v := a1, w := x1.w } : am) (.agg [bd a1, vi x1.w]) from rfl))) (show am.t.R ({ v := a1, w := x1.w } : am) (.agg [bd a1, vi x1.w]) from rfl)
  ·refine sR (bN dn rfl rfl (mV rfl (nS ?_)))
   refine bt s rfl ?_ ?_ <;> clear s <;> intro c s <;> try simp only [qa] at c
   ·refine sR (fL rfl (am.g_v r1) rfl rfl (fL rfl (aa.g_N r0) rfl rfl (fL rfl (am.g_w r1) rfl rfl ?_)))
    obtain ⟨a3, b8, s⟩ := bn s
    have b6 := co3 (x0 := x1.v) (x1 := x0.N) (x2 := x1.w)  
    rw [b8] at b6
    refine cL b6 rfl rfl (ab rfl (ab rfl (ab rfl ay))) (fL rfl (am.g_w r1) rfl rfl (ae (v := .agg [bd a3, vi x1.w]) (eg (cs := [bd a3, vi x1.w]) rfl rfl) ?_))
    refine ci (k := 0) (v := .agg [bd a3, vi x1.w]) a4 rfl rfl rfl rfl (fun c4 a9 => ?_)
    replace a9 : Mem c4 [⟨.op a5 a6 0, 301, 2, [.agg [bd a3, vi x1.w]]⟩] := a9
    refine nS ?_
    subst s
    exact dw (.cell rfl (cv (k := 0) a9 rfl rfl) .nil) (cd (TR.clo am.t (show am.t.R ({ v := a3, w := x1.w } : am) (.agg [bd a3, vi x1.w]) from rfl))) (show am.t.R ({ v := a3, w := x1.w } : am) (.agg [bd a3, vi x1.w]) from rfl)
   ·refine ba (dj (aq (sR (fL rfl (am.g_v r1) rfl rfl (fL rfl (aa.g_N r0) rfl rfl (fL rfl (aa.g_W r0) rfl rfl ?_))))))
    obtain ⟨a0, b4, s⟩ := bn s
    have b1 := cj7 (x0 := x1.v) (x1 := x0.N) (x2 := x0.W)  
    rw [b4] at b1
    refine cL b1 rfl rfl (ab rfl (ab rfl (ab rfl ay))) (fL rfl (aa.g_W r0) rfl rfl (ae (v := .agg [bd a0, vi x0.W]) (eg (cs := [bd a0, vi x0.W]) rfl rfl) ?_))
    refine ci (k := 0) (v := .agg [bd a0, vi x0.W]) a4 rfl rfl rfl rfl (fun b9 a8 => ?_)
    replace a8 : Mem b9 [⟨.op a5 a6 0, 301, 2, [.agg [bd a0, vi x0.W]]⟩] := a8
    refine nS ?_
    subst s
    exact dw (.cell rfl (cv (k := 0) a8 rfl rfl) .nil) (cd (TR.clo am.t (show am.t.R ({ v := a0, w := x0.W } : am) (.agg [bd a0, vi x0.W]) from rfl))) (show am.t.R ({ v := a0, w := x0.W } : am) (.agg [bd a0, vi x0.W]) from rfl)

def RF299 (res : (BitVec 32)) (r : PV) : Prop := r = bd res
theorem cq3 {x0 : BitVec 32} {x1 : BitVec 32} {x2 : Int} : FnR Tryz.prog 299 [bd x0, bd x1, vi x2] (bd (rl x0 x1 x2)) := by
 refine fnS (R := RF299) bc5 (fun _ h => h) rfl fun res s => ?_
 unfold rl at s
 refine sR (ae (v := bd 0#32) (ax rfl) (nR (mV rfl (mV rfl (ae (bp (a := bd x0) (b := bd x1) rfl rfl dc4) (mV rfl ?_))))))
 obtain ⟨a2, a1, s⟩ := bn s
 have a0 := kt (x0 := x2)  
 rw [a1] at a0
 refine cL a0 rfl rfl (ab rfl ay) (ae (bp (a := bd (x0 + x1)) (b := bd a2) rfl rfl qe) (mV rfl (nS ?_)))
 exact rR s rfl rfl rfl

def RF300 (res : (BitVec 32)) (r : PV) : Prop := r = bd res
theorem cn8 {x0 : BitVec 32} {x1 : BitVec 32} {x2 : Int} : FnR Tryz.prog 300 [bd x0, bd x1, vi x2] (bd (rm x0 x1 x2)) := by
 refine fnS (R := RF300) bl5 (fun _ h => h) rfl fun res s => ?_
 unfold rm at s
 refine sR (ae (v := bd 0#32) (ax rfl) (nR (mV rfl (mV rfl (ae (bp (a := bd x0) (b := bd x1) rfl rfl da9) (mV rfl ?_))))))
 obtain ⟨a2, a1, s⟩ := bn s
 have a0 := kt (x0 := x2)  
 rw [a1] at a0
 refine cL a0 rfl rfl (ab rfl ay) (ae (bp (a := bd (x0 - x1)) (b := bd a2) rfl rfl qe) (mV rfl (nS ?_)))
 exact rR s rfl rfl rfl

def RF301 (res : (BitVec 32) × Bool) (r : PV) : Prop := r = .tup [bd res.1, vb res.2]
theorem cn5 {x0 : BitVec 32} {x1 : Int} {x2 : BitVec 32} {x3 : Int} : FnR Tryz.prog 301 [bd x0, vi x1, bd x2, vi x3] (.tup [bd ((mv x0 x1 x2 x3).1), vb ((mv x0 x1 x2 x3).2)]) := by
 refine fnS (R := RF301) be8 (fun _ h => h) rfl fun res s => ?_
 unfold mv at s
 refine sR (ae (v := bd 0#32) (ax rfl) (mB rfl (nS (au (sR (mV rfl (mV rfl (ae (v := .fs true [vi x1, vi x3]) (ko rfl (all_cons rfl (all_cons rfl oa))) ?_))))))))
 have b0 : (tSl tI).R ([x1, x3] : List Int) (.fs true [vi x1, vi x3]) := ah1 ⟨rfl, ⟨rfl, trivial⟩⟩ (by simp)
 obtain ⟨b1, a6, s⟩ := bn s
 have a9 := ad5  b0 
 rw [a6] at a9
 refine cL a9 rfl rfl (ab (TR.clo (tSl tI) b0) ay) (ae (gv rfl) (mV rfl ?_))
 refine bw 5 (d := 20) (v := vb ((!b1) || (decide (32 < (wr (x1 + x3)))))) ?_ ?_
 ·intro S Q r
  cases a5 : (!b1)
  ·intro k
   have a1 := a5
   try simp only [qa] at a1
   refine ah rfl rfl (ax rfl) (ah rfl rfl (ax rfl) (ah rfl rfl (bp rfl rfl fy) (ah rfl rfl (bp rfl rfl ki) ?_)))
   exact gK rfl rfl rfl rfl rfl k
  ·exact gN 4 rfl rfl rfl rfl rfl rfl
 refine nS ?_
 refine bt s rfl ?_ ?_ <;> clear s <;> intro c s <;> try simp only [qa] at c
 ·refine sR (ae (v := bd 0#32) (ax rfl) (mB rfl (nS ?_)))
  exact rT s rfl rfl rfl rfl rfl
 ·refine ba (aq (sR (mV rfl (mV rfl ?_))))
  obtain ⟨a0, a3, s⟩ := bn s
  have a8 := kt (x0 := x1)  
  rw [a3] at a8
  refine cL a8 rfl rfl (ab rfl ay) (ae (bp (a := bd x0) (b := bd a0) rfl rfl qe) (mV rfl (ae (bp (a := bd (x0 &&& a0)) (b := vi x3) rfl rfl (de0 (by ((have hk := dj3 (by assumption) (And.left (by assumption)); omega))))) (mV rfl (mV rfl ?_)))))
  obtain ⟨a4, a7, s⟩ := bn s
  have a2 := kt (x0 := x3)  
  rw [a7] at a2
  refine cL a2 rfl rfl (ab rfl ay) (ae (bp (a := bd x2) (b := bd a4) rfl rfl qe) (ae (bp (a := bd ((x0 &&& a0) <<< x3.toNat)) (b := bd (x2 &&& a4)) rfl rfl w_or) (mV rfl (mB rfl (nS ?_)))))
  exact rT s rfl rfl rfl rfl rfl

def RF302 (res : am) (r : PV) : Prop := am.t.R res r
theorem bd2 {x0 : Bool} : ∃ r, FnR Tryz.prog 302 [vb x0] r ∧ am.t.R (re x0) r := by
 refine fnT (R := RF302) bk7 rfl fun res s => ?_
 unfold re at s
 refine sR ?_
 refine di (x := .agg [bd 0#32, vi 0]) (Mem.nil ⟨0, []⟩) rfl rfl (fun a2 a4 a7 a3 => ?_)
 refine nS (au (sR (mV rfl (nS ?_))))
 refine bt s rfl ?_ ?_ <;> clear s <;> intro c s <;> try simp only [qa] at c
 ·refine sR (ae (v := .agg [bd 1#32, vi 1]) (eg (cs := [bd 1#32, vi 1]) rfl rfl) ?_)
  refine ci (k := 0) (v := .agg [bd 1#32, vi 1]) a3 rfl rfl rfl rfl (fun a6 a1 => ?_)
  replace a1 : Mem a6 [⟨.op a2 a4 0, 301, 2, [.agg [bd 1#32, vi 1]]⟩] := a1
  refine nS ?_
  subst s
  exact dw (.cell rfl (cv (k := 0) a1 rfl rfl) .nil) (cd (TR.clo am.t (show am.t.R ({ v := 1#32, w := 1 } : am) (.agg [bd 1#32, vi 1]) from rfl))) (show am.t.R ({ v := 1#32, w := 1 } : am) (.agg [bd 1#32, vi 1]) from rfl)
 ·refine ba (aq (sR (ae (v := .agg [bd 0#32, vi 1]) (eg (cs := [bd 0#32, vi 1]) rfl rfl) ?_)))
  refine ci (k := 0) (v := .agg [bd 0#32, vi 1]) a3 rfl rfl rfl rfl (fun a5 a0 => ?_)
  replace a0 : Mem a5 [⟨.op a2 a4 0, 301, 2, [.agg [bd 0#32, vi 1]]⟩] := a0
  refine nS ?_
  subst s
  exact dw (.cell rfl (cv (k := 0) a0 rfl rfl) .nil) (cd (TR.clo am.t (show am.t.R ({ v := 0#32, w := 1 } : am) (.agg [bd 0#32, vi 1]) from rfl))) (show am.t.R ({ v := 0#32, w := 1 } : am) (.agg [bd 0#32, vi 1]) from rfl)

def RF291 (res : am) (r : PV) : Prop := am.t.R res r
theorem cx5 {x0 : Int} {x1 : am} {x2 : am} {v1 v2 : PV} (r1 : am.t.R x1 v1) (r2 : am.t.R x2 v2) : ∃ r, FnR Tryz.prog 291 [vi x0, v1, v2] r ∧ am.t.R (ke x0 x1 x2) r := by
 refine fnT (R := RF291) bi1 rfl fun res s => ?_
 unfold ke at s
 refine sR (ae (cz rfl (TR.cnt am.t r1)) (ae (cz rfl (TR.cnt am.t r2)) ?_))
 refine di (x := .agg [bd 0#32, vi 0]) (Mem.nil ⟨0, []⟩) rfl rfl (fun a1 a5 e1 a0 => ?_)
 refine nS (au (sR (mV rfl (nS (cb (sR (bN dn rfl rfl (mV rfl ?_))))))))
 refine nS ?_
 refine bt s rfl ?_ ?_ <;> clear s <;> intro c s <;> try simp only [qa] at c
 ·refine sR (fL rfl (am.g_v r1) rfl rfl (fL rfl (am.g_v r2) rfl rfl (fL rfl (am.g_w r1) rfl rfl ?_)))
  obtain ⟨a4, b8, s⟩ := bn s
  have b9 := cq3 (x0 := x1.v) (x1 := x2.v) (x2 := x1.w)  
  rw [b8] at b9
  refine cL b9 rfl rfl (ab rfl (ab rfl (ab rfl ay))) (fL rfl (am.g_w r1) rfl rfl (ae (v := .agg [bd a4, vi x1.w]) (eg (cs := [bd a4, vi x1.w]) rfl rfl) ?_))
  refine ci (k := 0) (v := .agg [bd a4, vi x1.w]) a0 rfl rfl rfl rfl (fun d8 b3 => ?_)
  replace b3 : Mem d8 [⟨.op a1 a5 0, 301, 2, [.agg [bd a4, vi x1.w]]⟩] := b3
  refine nS ?_
  subst s
  exact dw (.cell rfl (cv (k := 0) b3 rfl rfl) .nil) (cd (TR.clo am.t (show am.t.R ({ v := a4, w := x1.w } : am) (.agg [bd a4, vi x1.w]) from rfl))) (show am.t.R ({ v := a4, w := x1.w } : am) (.agg [bd a4, vi x1.w]) from rfl)
 ·refine sR (bN dn rfl rfl (mV rfl (nS ?_)))
  refine bt s rfl ?_ ?_ <;> clear s <;> intro c s <;> try simp only [qa] at c
  ·refine sR (fL rfl (am.g_v r1) rfl rfl (fL rfl (am.g_v r2) rfl rfl (fL rfl (am.g_w r1) rfl rfl ?_)))
   obtain ⟨a2, c8, s⟩ := bn s
   have c1 := cn8 (x0 := x1.v) (x1 := x2.v) (x2 := x1.w)  
   rw [c8] at c1
   refine cL c1 rfl rfl (ab rfl (ab rfl (ab rfl ay))) (fL rfl (am.g_w r1) rfl rfl (ae (v := .agg [bd a2, vi x1.w]) (eg (cs := [bd a2, vi x1.w]) rfl rfl) ?_))
   refine ci (k := 0) (v := .agg [bd a2, vi x1.w]) a0 rfl rfl rfl rfl (fun d3 b1 => ?_)
   replace b1 : Mem d3 [⟨.op a1 a5 0, 301, 2, [.agg [bd a2, vi x1.w]]⟩] := b1
   refine nS ?_
   subst s
   exact dw (.cell rfl (cv (k := 0) b1 rfl rfl) .nil) (cd (TR.clo am.t (show am.t.R ({ v := a2, w := x1.w } : am) (.agg [bd a2, vi x1.w]) from rfl))) (show am.t.R ({ v := a2, w := x1.w } : am) (.agg [bd a2, vi x1.w]) from rfl)
  ·refine sR (bN dn rfl rfl (mV rfl (nS ?_)))
   refine bt s rfl ?_ ?_ <;> clear s <;> intro c s <;> try simp only [qa] at c
   ·refine sR (fL rfl (am.g_v r1) rfl rfl (fL rfl (am.g_v r2) rfl rfl (ae (bp (a := bd x1.v) (b := bd x2.v) rfl rfl qe) (fL rfl (am.g_w r1) rfl rfl (ae (v := .agg [bd (x1.v &&& x2.v), vi x1.w]) (eg (cs := [bd (x1.v &&& x2.v), vi x1.w]) rfl rfl) ?_)))))
    refine ci (k := 0) (v := .agg [bd (x1.v &&& x2.v), vi x1.w]) a0 rfl rfl rfl rfl (fun c9 b5 => ?_)
    replace b5 : Mem c9 [⟨.op a1 a5 0, 301, 2, [.agg [bd (x1.v &&& x2.v), vi x1.w]]⟩] := b5
    refine nS ?_
    subst s
    exact dw (.cell rfl (cv (k := 0) b5 rfl rfl) .nil) (cd (TR.clo am.t (show am.t.R ({ v := (x1.v &&& x2.v), w := x1.w } : am) (.agg [bd (x1.v &&& x2.v), vi x1.w]) from rfl))) (show am.t.R ({ v := (x1.v &&& x2.v), w := x1.w } : am) (.agg [bd (x1.v &&& x2.v), vi x1.w]) from rfl)
   ·refine sR (bN dn rfl rfl (mV rfl (nS ?_)))
    refine bt s rfl ?_ ?_ <;> clear s <;> intro c s <;> try simp only [qa] at c
    ·refine sR (fL rfl (am.g_v r1) rfl rfl (fL rfl (am.g_v r2) rfl rfl (ae (bp (a := bd x1.v) (b := bd x2.v) rfl rfl w_or) (fL rfl (am.g_w r1) rfl rfl (ae (v := .agg [bd (x1.v ||| x2.v), vi x1.w]) (eg (cs := [bd (x1.v ||| x2.v), vi x1.w]) rfl rfl) ?_)))))
     refine ci (k := 0) (v := .agg [bd (x1.v ||| x2.v), vi x1.w]) a0 rfl rfl rfl rfl (fun d6 b4 => ?_)
     replace b4 : Mem d6 [⟨.op a1 a5 0, 301, 2, [.agg [bd (x1.v ||| x2.v), vi x1.w]]⟩] := b4
     refine nS ?_
     subst s
     exact dw (.cell rfl (cv (k := 0) b4 rfl rfl) .nil) (cd (TR.clo am.t (show am.t.R ({ v := (x1.v ||| x2.v), w := x1.w } : am) (.agg [bd (x1.v ||| x2.v), vi x1.w]) from rfl))) (show am.t.R ({ v := (x1.v ||| x2.v), w := x1.w } : am) (.agg [bd (x1.v ||| x2.v), vi x1.w]) from rfl)
    ·refine sR (bN dn rfl rfl (mV rfl (nS ?_)))
     refine bt s rfl ?_ ?_ <;> clear s <;> intro c s <;> try simp only [qa] at c
     ·refine sR (fL rfl (am.g_v r1) rfl rfl (fL rfl (am.g_v r2) rfl rfl (ae (bp (a := bd x1.v) (b := bd x2.v) rfl rfl da6) (fL rfl (am.g_w r1) rfl rfl (ae (v := .agg [bd (x1.v ^^^ x2.v), vi x1.w]) (eg (cs := [bd (x1.v ^^^ x2.v), vi x1.w]) rfl rfl) ?_)))))
      refine ci (k := 0) (v := .agg [bd (x1.v ^^^ x2.v), vi x1.w]) a0 rfl rfl rfl rfl (fun d4 a9 => ?_)
      replace a9 : Mem d4 [⟨.op a1 a5 0, 301, 2, [.agg [bd (x1.v ^^^ x2.v), vi x1.w]]⟩] := a9
      refine nS ?_
      subst s
      exact dw (.cell rfl (cv (k := 0) a9 rfl rfl) .nil) (cd (TR.clo am.t (show am.t.R ({ v := (x1.v ^^^ x2.v), w := x1.w } : am) (.agg [bd (x1.v ^^^ x2.v), vi x1.w]) from rfl))) (show am.t.R ({ v := (x1.v ^^^ x2.v), w := x1.w } : am) (.agg [bd (x1.v ^^^ x2.v), vi x1.w]) from rfl)
     ·refine sR (bN dn rfl rfl (mV rfl (nS ?_)))
      refine bt s rfl ?_ ?_ <;> clear s <;> intro c s <;> try simp only [qa] at c
      ·refine sR (fL rfl (am.g_v r1) rfl rfl (fL rfl (am.g_w r1) rfl rfl (fL rfl (am.g_v r2) rfl rfl (fL rfl (am.g_w r2) rfl rfl ?_))))
       obtain ⟨a3, b6, s⟩ := bn s
       have c6 := cn5 (x0 := x1.v) (x1 := x1.w) (x2 := x2.v) (x3 := x2.w)  
       rw [b6] at c6
       refine cL c6 rfl rfl (ab rfl (ab rfl (ab rfl (ab rfl ay)))) (mV rfl (xT rfl rfl (xT rfl rfl (mV rfl (mV rfl (nR (mV rfl (fL rfl (am.g_w r1) rfl rfl ?_))))))))
       refine fL rfl (am.g_w r2) rfl rfl (bN fy rfl rfl (ae (v := .agg [bd a3.1, vi (wr (x1.w + x2.w))]) (eg (cs := [bd a3.1, vi (wr (x1.w + x2.w))]) rfl rfl) ?_))
       refine ci (k := 0) (v := .agg [bd a3.1, vi (wr (x1.w + x2.w))]) a0 rfl rfl rfl rfl (fun d0 b0 => ?_)
       replace b0 : Mem d0 [⟨.op a1 a5 0, 301, 2, [.agg [bd a3.1, vi (wr (x1.w + x2.w))]]⟩] := b0
       refine nS ?_
       subst s
       exact dw (.cell rfl (cv (k := 0) b0 rfl rfl) .nil) (cd (TR.clo am.t (show am.t.R ({ v := a3.1, w := (wr (x1.w + x2.w)) } : am) (.agg [bd a3.1, vi (wr (x1.w + x2.w))]) from rfl))) (show am.t.R ({ v := a3.1, w := (wr (x1.w + x2.w)) } : am) (.agg [bd a3.1, vi (wr (x1.w + x2.w))]) from rfl)
      ·refine sR (bN dn rfl rfl (mV rfl (nS ?_)))
       refine bt s rfl ?_ ?_ <;> clear s <;> intro c s <;> try simp only [qa] at c
       ·refine sR (fL rfl (am.g_v r1) rfl rfl (fL rfl (am.g_v r2) rfl rfl (ae (bp (a := bd x1.v) (b := bd x2.v) rfl rfl av6) ?_)))
        obtain ⟨d9, c5, s⟩ := bn s
        obtain ⟨b7, d1, a6⟩ := bd2 (x0 := (decide (x1.v = x2.v)))  
        rw [c5] at a6
        refine cL d1 rfl rfl (ab rfl ay) ?_
        refine ci (k := 0) (v := b7) a0 rfl rfl rfl (TR.cnt am.t a6) (fun d7 b2 => ?_)
        replace b2 : Mem d7 [⟨.op a1 a5 0, 301, 2, [b7]⟩] := b2
        refine nS ?_
        subst s
        exact dw (.cell rfl (cv (k := 0) b2 rfl (TR.agg am.t a6)) .nil) (cd (TR.clo am.t a6)) a6
       ·refine ba (dj (aq (sR (fL rfl (am.g_v r1) rfl rfl (fL rfl (am.g_v r2) rfl rfl (ae (bp (a := bd x1.v) (b := bd x2.v) rfl rfl dc5) ?_))))))
        obtain ⟨e0, c4, s⟩ := bn s
        obtain ⟨c7, d2, a7⟩ := bd2 (x0 := (decide (x1.v < x2.v)))  
        rw [c4] at a7
        refine cL d2 rfl rfl (ab rfl ay) ?_
        refine ci (k := 0) (v := c7) a0 rfl rfl rfl (TR.cnt am.t a7) (fun d5 a8 => ?_)
        replace a8 : Mem d5 [⟨.op a1 a5 0, 301, 2, [c7]⟩] := a8
        refine nS ?_
        subst s
        exact dw (.cell rfl (cv (k := 0) a8 rfl (TR.agg am.t a7)) .nil) (cd (TR.clo am.t a7)) a7

def RF273 (i0_ w0_ : Nat) (R_ : List Ent) (res : am × bg) (r : PV) (h : Heap) : Prop := ∃ uF0 : PV, ∃ c0_ : PV, Mem h (⟨.op i0_ w0_ 0, 299, 17, [uF0]⟩ :: R_) ∧ (bg.t.R res.2 uF0) ∧ r = c0_ ∧ am.t.R res.1 c0_
theorem bv1 {rec_ : bg → (am × bg)} {mu_ : Nat} {x0 : bg} {l0 : PV} {R_ : List Ent} {h_ : Heap} {b7 b8 : Nat} (f5 : bg.t.R x0 l0) (M_ : Mem h_ (⟨.op b7 b8 0, 299, 17, [l0]⟩ :: R_)) (hv : VE x0) (hmu : mu_ = x0.nodes.length - x0.next.toNat) (hrec : HR rec_) (ihR : ∀ {z0 : bg} {l0 : PV} {R_ : List Ent} {h_ : Heap} {b7 b8 : Nat} (f5 : bg.t.R z0 l0) (M_ : Mem h_ (⟨.op b7 b8 0, 299, 17, [l0]⟩ :: R_)) (hv : VE z0), z0.nodes.length - z0.next.toNat < mu_ → ∃ r o5, FnX Tryz.prog 273 [.op b7 b8 0] h_ r o5 ∧ RF273 b7 b8 R_ (rec_ z0) r o5) : ∃ r o5, FnX Tryz.prog 273 [.op b7 b8 0] h_ r o5 ∧ RF273 b7 b8 R_ (fh rec_ x0) r o5 := by
 refine fnXX (R := RF273 b7 b8 R_) bi5 rfl fun res s => ?_
 unfold fh at s
 refine sR ?_
 refine di (x := .agg [bd 0#32, vi 0]) M_ rfl rfl (fun b6 b5 t8 k3 => ?_)
 refine nR (mV rfl (ae (dp rfl rfl) (ae (bv rfl) ?_)))
 obtain ⟨p8, r3, q7⟩ := bg.g_nodes f5
 refine ae (cq (k := 1) k3 rfl rfl r3) (mV rfl (ae (dp rfl rfl) (ae (bv rfl) (ae (cq (k := 1) k3 rfl rfl (bg.g_next f5)) ?_))))
 obtain ⟨f1, s4, e3⟩ := cr (i := x0.next) q7 (by exact (as6 hv).1) (by exact (as6 hv).2)
 refine ae (bh rfl rfl s4) (lD e3 rfl rfl rfl ?_)
 refine di (x := .agg [vi 0, vi 0, vi 0]) k3 rfl rfl (fun o1 m9 u4 q4 => ?_)
 refine ci (k := 0) (v := f1) q4 rfl rfl rfl (TR.cnt aa.t e3) (fun q8 i7 => ?_)
 replace i7 : Mem q8 (⟨.op o1 m9 0, 113, 3, [f1]⟩ :: ⟨.op b6 b5 0, 301, 2, [.agg [bd 0#32, vi 0]]⟩ :: ⟨.op b7 b8 0, 299, 17, [l0]⟩ :: R_) := i7
 refine nS (au (gc (db (mV rfl (da (db (ae (dp rfl rfl) (da ?_))))))))
 refine db (ae (bv rfl) (da (db (ae (cq (k := 2) i7 rfl rfl (bg.g_next f5)) (da (db (bN fy rfl rfl (da ?_))))))))
 refine db (ae (dp rfl rfl) (da (db (ae (bv rfl) (da (db ?_))))))
 obtain ⟨a7, b0, b2, b4, b1, a6, a9, a8, b3, a0, a3, a5, a2, a1, a4, s0, d0, d8, d1, d6, d3, d2, d4, d5, d7, c7, c4, c1, c6, c8, c5⟩ := f5
 subst s0
 refine mg (k := 2) (v := vi (wr (x0.next + 1))) i7 rfl rfl rfl rfl rfl (by ((simp only [List.length_cons, List.length_nil]; omega))) (fun r1 k4 => ?_)
 replace k4 : Mem r1 (⟨.op o1 m9 0, 113, 3, [f1]⟩ :: ⟨.op b6 b5 0, 301, 2, [.agg [bd 0#32, vi 0]]⟩ :: ⟨.op b7 b8 0, 299, 17, [.agg [vs x0.scope.Program.Name, a7, b0, b2, b4, b1, a6, a9, a8, b3, a0, a3, a5, a2, a1, a4, vi (wr (x0.next + 1))]]⟩ :: R_) := k4
 refine da ?_
 refine ag3 (k := 0) (E' := [(25, .op b7 b8 (0 + 16)), (24, .op b7 b8 0), (23, vi (wr (x0.next + 1))), (22, vi x0.next), (21, .op b7 b8 (0 + 16)), (20, .op b7 b8 0), (19, .op b7 b8 0), (3, .fp f1), (18, f1), (17, .fp f1), (16, vi x0.next), (15, .op b7 b8 (0 + 16)), (14, .op b7 b8 0), (13, .op b7 b8 0), (12, p8), (11, .op b7 b8 (0 + 15)), (10, .op b7 b8 0), (9, .op b7 b8 0), (2, .op b6 b5 0), (0, .op b7 b8 0)]) k4 rfl (df rfl (df rfl (df rfl (df rfl (df rfl (df rfl (df rfl (wj rfl (df rfl (df rfl (df rfl (df rfl (df rfl (df rfl (df rfl (df rfl (df rfl (df rfl (df rfl (df rfl ad9)))))))))))))))))))) (fun f4 f2 => ?_)
 replace f2 : Mem f4 (⟨.op b6 b5 0, 301, 2, [.agg [bd 0#32, vi 0]]⟩ :: ⟨.op b7 b8 0, 299, 17, [.agg [vs x0.scope.Program.Name, a7, b0, b2, b4, b1, a6, a9, a8, b3, a0, a3, a5, a2, a1, a4, vi (wr (x0.next + 1))]]⟩ :: R_) := f2
 refine mc (aq (au (sR (fL rfl (aa.g_Op e3) rfl rfl ?_))))
 obtain ⟨u9, l5, s⟩ := bn s
 have o4 := ac3 (x0 := (ix x0.nodes x0.next).Op)  
 rw [l5] at o4
 refine cL o4 rfl rfl (ab rfl ay) (nS (cb (sR (bN dn rfl rfl (mV rfl (nS ?_))))))
 refine bt s rfl ?_ ?_ <;> clear s <;> intro c s <;> try simp only [qa] at c
 ·refine au (gc (db (mV rfl (da (db (lD e3 rfl rfl rfl (da ?_)))))))
  have r4 : Mem f4 (⟨.op b7 b8 0, 299, 17, [.agg [vs x0.scope.Program.Name, a7, b0, b2, b4, b1, a6, a9, a8, b3, a0, a3, a5, a2, a1, a4, vi (wr (x0.next + 1))]]⟩ :: ⟨.op b6 b5 0, 301, 2, [.agg [bd 0#32, vi 0]]⟩ :: R_) := (Mem.front (k := 1) f2 rfl)
  obtain ⟨v3, m5, s⟩ := bn s
  obtain ⟨s5, t6, l7, j9⟩ := cp1 (x0 := ({ scope := x0.scope, env := x0.env, args := x0.args, nodes := x0.nodes, next := (wr (x0.next + 1)) } : bg)) (x1 := (ix x0.nodes x0.next)) e3 (show bg.t.R ({ scope := x0.scope, env := x0.env, args := x0.args, nodes := x0.nodes, next := (wr (x0.next + 1)) } : bg) (.agg [vs x0.scope.Program.Name, a7, b0, b2, b4, b1, a6, a9, a8, b3, a0, a3, a5, a2, a1, a4, vi (wr (x0.next + 1))]) from ⟨a7, b0, b2, b4, b1, a6, a9, a8, b3, a0, a3, a5, a2, a1, a4, rfl, d0, d8, d1, d6, d3, d2, d4, d5, d7, c7, c4, c1, c6, c8, c5⟩) r4 (by exact evp hv (by assumption) (by assumption))
  rw [m5] at j9
  obtain ⟨e8, i1, r9, h9, g9, k9⟩ := j9
  replace g9 := g9.symm; subst g9
  refine iw rfl rfl l7 (db ?_)
  refine ci (k := 1) (v := i1) r9 rfl rfl rfl (TR.cnt am.t k9) (fun o2 h5 => ?_)
  replace h5 : Mem o2 (⟨.op b7 b8 0, 299, 17, [e8]⟩ :: ⟨.op b6 b5 0, 301, 2, [i1]⟩ :: R_) := h5
  refine da (mc (aq ?_))
  have l4 : Mem o2 (⟨.op b7 b8 0, 299, 17, [e8]⟩ :: ⟨.op b6 b5 0, 301, 2, [i1]⟩ :: R_) := (Mem.front (k := 0) h5 rfl)
  subst s
  exact kj (.cell rfl (cv (k := 1) h5 rfl (TR.agg am.t k9)) .nil) ⟨e8, i1, Mem.sub l4 (.cons_cons _ (.cons _ (List.Sublist.refl R_))), h9, rfl, k9⟩
 ·refine sR (bN dn rfl rfl (mV rfl (nS ?_)))
  refine bt s rfl ?_ ?_ <;> clear s <;> intro c s <;> try simp only [qa] at c
  ·refine au (ax1 (ac5 (lD e3 rfl rfl rfl (ac1 (ac5 (mV rfl (ac1 ?_)))))))
   have o9 : Mem f4 (⟨.op b7 b8 0, 299, 17, [.agg [vs x0.scope.Program.Name, a7, b0, b2, b4, b1, a6, a9, a8, b3, a0, a3, a5, a2, a1, a4, vi (wr (x0.next + 1))]]⟩ :: ⟨.op b6 b5 0, 301, 2, [.agg [bd 0#32, vi 0]]⟩ :: R_) := (Mem.front (k := 1) f2 rfl)
   obtain ⟨t7, m1, s⟩ := bn s
   obtain ⟨s9, t3, n3, j7⟩ := ihR (z0 := ({ scope := x0.scope, env := x0.env, args := x0.args, nodes := x0.nodes, next := (wr (x0.next + 1)) } : bg)) (show bg.t.R ({ scope := x0.scope, env := x0.env, args := x0.args, nodes := x0.nodes, next := (wr (x0.next + 1)) } : bg) (.agg [vs x0.scope.Program.Name, a7, b0, b2, b4, b1, a6, a9, a8, b3, a0, a3, a5, a2, a1, a4, vi (wr (x0.next + 1))]) from ⟨a7, b0, b2, b4, b1, a6, a9, a8, b3, a0, a3, a5, a2, a1, a4, rfl, d0, d8, d1, d6, d3, d2, d4, d5, d7, c7, c4, c1, c6, c8, c5⟩) o9 (by exact ev1 hv (by assumption) (by assumption)) (by rw [hmu]; exact dv1 hv (by assumption) (by assumption))
   rw [m1] at j7
   obtain ⟨e7, t9, r2, i4, f6, n4⟩ := j7
   replace f6 := f6.symm; subst f6
   refine bo5 rfl rfl n3 (ac5 ?_)
   obtain ⟨u1, m0, s⟩ := bn s
   obtain ⟨i9, q6, h4⟩ := cm6  e3 n4 
   rw [m0] at h4
   refine cL q6 rfl rfl (ab (TR.clo aa.t e3) (ab (TR.clo am.t n4) ay)) (ac1 (ac5 ?_))
   refine ci (k := 1) (v := i9) r2 rfl rfl rfl (TR.cnt am.t h4) (fun l6 h7 => ?_)
   replace h7 : Mem l6 (⟨.op b7 b8 0, 299, 17, [e7]⟩ :: ⟨.op b6 b5 0, 301, 2, [i9]⟩ :: R_) := h7
   refine ac1 (do1 (aq ?_))
   have m6 : Mem l6 (⟨.op b7 b8 0, 299, 17, [e7]⟩ :: ⟨.op b6 b5 0, 301, 2, [i9]⟩ :: R_) := (Mem.front (k := 0) h7 rfl)
   subst s
   exact kj (.cell rfl (cv (k := 1) h7 rfl (TR.agg am.t h4)) .nil) ⟨e7, i9, Mem.sub m6 (.cons_cons _ (.cons _ (List.Sublist.refl R_))), i4, rfl, h4⟩
  ·refine sR (bN dn rfl rfl (mV rfl (nS ?_)))
   refine bt s rfl ?_ ?_ <;> clear s <;> intro c s <;> try simp only [qa] at c
   ·refine au (gc (db (mV rfl (da ?_))))
    have o8 : Mem f4 (⟨.op b7 b8 0, 299, 17, [.agg [vs x0.scope.Program.Name, a7, b0, b2, b4, b1, a6, a9, a8, b3, a0, a3, a5, a2, a1, a4, vi (wr (x0.next + 1))]]⟩ :: ⟨.op b6 b5 0, 301, 2, [.agg [bd 0#32, vi 0]]⟩ :: R_) := (Mem.front (k := 1) f2 rfl)
    obtain ⟨p7, n1, s⟩ := bn s
    obtain ⟨t0, u5, m2, j6⟩ := ihR (z0 := ({ scope := x0.scope, env := x0.env, args := x0.args, nodes := x0.nodes, next := (wr (x0.next + 1)) } : bg)) (show bg.t.R ({ scope := x0.scope, env := x0.env, args := x0.args, nodes := x0.nodes, next := (wr (x0.next + 1)) } : bg) (.agg [vs x0.scope.Program.Name, a7, b0, b2, b4, b1, a6, a9, a8, b3, a0, a3, a5, a2, a1, a4, vi (wr (x0.next + 1))]) from ⟨a7, b0, b2, b4, b1, a6, a9, a8, b3, a0, a3, a5, a2, a1, a4, rfl, d0, d8, d1, d6, d3, d2, d4, d5, d7, c7, c4, c1, c6, c8, c5⟩) o8 (by exact ev1 hv (by assumption) (by assumption)) (by rw [hmu]; exact dv1 hv (by assumption) (by assumption))
    rw [n1] at j6
    obtain ⟨g2, f3, r7, i2, g0, h8⟩ := j6
    replace g0 := g0.symm; subst g0
    refine iw rfl rfl m2 (db ?_)
    refine di (x := .agg [bd 0#32, vi 0]) r7 rfl rfl (fun h0 g8 t2 q2 => ?_)
    refine da (db ?_)
    refine ci (k := 0) (v := f3) q2 rfl rfl rfl (TR.cnt am.t h8) (fun n0 k8 => ?_)
    replace k8 : Mem n0 (⟨.op h0 g8 0, 301, 2, [f3]⟩ :: ⟨.op b7 b8 0, 299, 17, [g2]⟩ :: ⟨.op b6 b5 0, 301, 2, [.agg [bd 0#32, vi 0]]⟩ :: R_) := k8
    refine da (mc (aq (au (gc (db (mV rfl (da ?_)))))))
    have p1 : Mem n0 (⟨.op b7 b8 0, 299, 17, [g2]⟩ :: ⟨.op h0 g8 0, 301, 2, [f3]⟩ :: ⟨.op b6 b5 0, 301, 2, [.agg [bd 0#32, vi 0]]⟩ :: R_) := (Mem.front (k := 1) k8 rfl)
    obtain ⟨v0, m3, s⟩ := bn s
    obtain ⟨s6, u2, l9, j4⟩ := ihR (z0 := p7.2) i2 p1 (by exact ev2 hv (by assumption) (by assumption) (by assumption) hrec (by assumption)) (by rw [hmu]; exact dv2 hv (by assumption) (by assumption) (by assumption) hrec (by assumption))
    rw [m3] at j4
    obtain ⟨e1, j1, q0, i3, g5, h3⟩ := j4
    replace g5 := g5.symm; subst g5
    refine iw rfl rfl l9 (db ?_)
    refine di (x := .agg [bd 0#32, vi 0]) q0 rfl rfl (fun k0 k7 t5 r6 => ?_)
    refine da (db ?_)
    refine ci (k := 0) (v := j1) r6 rfl rfl rfl (TR.cnt am.t h3) (fun s1 g3 => ?_)
    replace g3 : Mem s1 (⟨.op k0 k7 0, 301, 2, [j1]⟩ :: ⟨.op b7 b8 0, 299, 17, [e1]⟩ :: ⟨.op h0 g8 0, 301, 2, [f3]⟩ :: ⟨.op b6 b5 0, 301, 2, [.agg [bd 0#32, vi 0]]⟩ :: R_) := g3
    refine da (mc (aq (sR (fL rfl (aa.g_Op e3) rfl rfl (ae (fq (k := 2) g3 rfl rfl (TR.agg am.t h8)) (ae (fq (k := 0) g3 rfl rfl (TR.agg am.t h3)) ?_))))))
    obtain ⟨t4, n7, s⟩ := bn s
    obtain ⟨i5, p0, h6⟩ := cx5 (x0 := (ix x0.nodes x0.next).Op) h8 h3 
    rw [n7] at h6
    refine cL p0 rfl rfl (ab rfl (ab (TR.clo am.t h8) (ab (TR.clo am.t h3) ay))) ?_
    refine ci (k := 3) (v := i5) g3 rfl rfl rfl (TR.cnt am.t h6) (fun m8 i8 => ?_)
    replace i8 : Mem m8 (⟨.op k0 k7 0, 301, 2, [j1]⟩ :: ⟨.op b7 b8 0, 299, 17, [e1]⟩ :: ⟨.op h0 g8 0, 301, 2, [f3]⟩ :: ⟨.op b6 b5 0, 301, 2, [i5]⟩ :: R_) := i8
    refine nS ?_
    have o6 : Mem m8 (⟨.op b7 b8 0, 299, 17, [e1]⟩ :: ⟨.op k0 k7 0, 301, 2, [j1]⟩ :: ⟨.op h0 g8 0, 301, 2, [f3]⟩ :: ⟨.op b6 b5 0, 301, 2, [i5]⟩ :: R_) := (Mem.front (k := 1) i8 rfl)
    subst s
    exact kj (.cell rfl (cv (k := 3) i8 rfl (TR.agg am.t h6)) .nil) ⟨e1, i5, Mem.sub o6 (.cons_cons _ (.cons _ (.cons _ (.cons _ (List.Sublist.refl R_))))), i3, rfl, h6⟩
   ·refine ba (dj (aq (au (gc (db (mV rfl (da ?_)))))))
    have s3 : Mem f4 (⟨.op b7 b8 0, 299, 17, [.agg [vs x0.scope.Program.Name, a7, b0, b2, b4, b1, a6, a9, a8, b3, a0, a3, a5, a2, a1, a4, vi (wr (x0.next + 1))]]⟩ :: ⟨.op b6 b5 0, 301, 2, [.agg [bd 0#32, vi 0]]⟩ :: R_) := (Mem.front (k := 1) f2 rfl)
    obtain ⟨n6, o0, s⟩ := bn s
    obtain ⟨t1, u3, o7, j8⟩ := ihR (z0 := ({ scope := x0.scope, env := x0.env, args := x0.args, nodes := x0.nodes, next := (wr (x0.next + 1)) } : bg)) (show bg.t.R ({ scope := x0.scope, env := x0.env, args := x0.args, nodes := x0.nodes, next := (wr (x0.next + 1)) } : bg) (.agg [vs x0.scope.Program.Name, a7, b0, b2, b4, b1, a6, a9, a8, b3, a0, a3, a5, a2, a1, a4, vi (wr (x0.next + 1))]) from ⟨a7, b0, b2, b4, b1, a6, a9, a8, b3, a0, a3, a5, a2, a1, a4, rfl, d0, d8, d1, d6, d3, d2, d4, d5, d7, c7, c4, c1, c6, c8, c5⟩) s3 (by exact ev1 hv (by assumption) (by assumption)) (by rw [hmu]; exact dv1 hv (by assumption) (by assumption))
    rw [o0] at j8
    obtain ⟨g4, e0, r0, i0, g7, n2⟩ := j8
    replace g7 := g7.symm; subst g7
    refine iw rfl rfl o7 (db ?_)
    refine di (x := .agg [bd 0#32, vi 0]) r0 rfl rfl (fun e2 e4 u7 s2 => ?_)
    refine da (db ?_)
    refine ci (k := 0) (v := e0) s2 rfl rfl rfl (TR.cnt am.t n2) (fun n9 k6 => ?_)
    replace k6 : Mem n9 (⟨.op e2 e4 0, 301, 2, [e0]⟩ :: ⟨.op b7 b8 0, 299, 17, [g4]⟩ :: ⟨.op b6 b5 0, 301, 2, [.agg [bd 0#32, vi 0]]⟩ :: R_) := k6
    refine da (mc (aq (au (gc (db (mV rfl (da ?_)))))))
    have q5 : Mem n9 (⟨.op b7 b8 0, 299, 17, [g4]⟩ :: ⟨.op e2 e4 0, 301, 2, [e0]⟩ :: ⟨.op b6 b5 0, 301, 2, [.agg [bd 0#32, vi 0]]⟩ :: R_) := (Mem.front (k := 1) k6 rfl)
    obtain ⟨q3, l8, s⟩ := bn s
    obtain ⟨s8, u6, o3, j5⟩ := ihR (z0 := n6.2) i0 q5 (by exact ev2 hv (by assumption) (by assumption) (by assumption) hrec (by assumption)) (by rw [hmu]; exact dv2 hv (by assumption) (by assumption) (by assumption) hrec (by assumption))
    rw [l8] at j5
    obtain ⟨g6, c9, q1, j2, h2, f9⟩ := j5
    replace h2 := h2.symm; subst h2
    refine iw rfl rfl o3 (db ?_)
    refine di (x := .agg [bd 0#32, vi 0]) q1 rfl rfl (fun e9 e5 v4 p9 => ?_)
    refine da (db ?_)
    refine ci (k := 0) (v := c9) p9 rfl rfl rfl (TR.cnt am.t f9) (fun n8 k5 => ?_)
    replace k5 : Mem n8 (⟨.op e9 e5 0, 301, 2, [c9]⟩ :: ⟨.op b7 b8 0, 299, 17, [g6]⟩ :: ⟨.op e2 e4 0, 301, 2, [e0]⟩ :: ⟨.op b6 b5 0, 301, 2, [.agg [bd 0#32, vi 0]]⟩ :: R_) := k5
    refine da (mc (aq (au (gc (db (mV rfl (da ?_)))))))
    have p6 : Mem n8 (⟨.op b7 b8 0, 299, 17, [g6]⟩ :: ⟨.op e9 e5 0, 301, 2, [c9]⟩ :: ⟨.op e2 e4 0, 301, 2, [e0]⟩ :: ⟨.op b6 b5 0, 301, 2, [.agg [bd 0#32, vi 0]]⟩ :: R_) := (Mem.front (k := 1) k5 rfl)
    obtain ⟨u0, l3, s⟩ := bn s
    obtain ⟨s7, u8, l2, j3⟩ := ihR (z0 := q3.2) j2 p6 (by exact ev3 hv (by assumption) (by assumption) (by assumption) (by assumption) hrec (by assumption) (by assumption)) (by rw [hmu]; exact dv3 hv (by assumption) (by assumption) (by assumption) (by assumption) hrec (by assumption) (by assumption))
    rw [l3] at j3
    obtain ⟨b9, d9, q9, f0, g1, f7⟩ := j3
    replace g1 := g1.symm; subst g1
    refine iw rfl rfl l2 (db ?_)
    refine di (x := .agg [bd 0#32, vi 0]) q9 rfl rfl (fun h1 f8 v2 r8 => ?_)
    refine da (db ?_)
    refine ci (k := 0) (v := d9) r8 rfl rfl rfl (TR.cnt am.t f7) (fun r5 e6 => ?_)
    replace e6 : Mem r5 (⟨.op h1 f8 0, 301, 2, [d9]⟩ :: ⟨.op b7 b8 0, 299, 17, [b9]⟩ :: ⟨.op e9 e5 0, 301, 2, [c9]⟩ :: ⟨.op e2 e4 0, 301, 2, [e0]⟩ :: ⟨.op b6 b5 0, 301, 2, [.agg [bd 0#32, vi 0]]⟩ :: R_) := e6
    refine da (mc (aq (au (sR (ae (bv rfl) (ae (cq (k := 3) e6 rfl rfl (am.g_v n2)) (ae (bp (a := bd n6.1.v) (b := bd 1#32) rfl rfl av6) (nS ?_))))))))
    refine bt s rfl ?_ ?_ <;> clear s <;> intro c s <;> try simp only [qa] at c
    ·refine sR (ae (fq (k := 2) e6 rfl rfl (TR.agg am.t f9)) ?_)
     refine ci (k := 4) (v := c9) e6 rfl rfl rfl (TR.cnt am.t f9) (fun m7 i6 => ?_)
     replace i6 : Mem m7 (⟨.op h1 f8 0, 301, 2, [d9]⟩ :: ⟨.op b7 b8 0, 299, 17, [b9]⟩ :: ⟨.op e9 e5 0, 301, 2, [c9]⟩ :: ⟨.op e2 e4 0, 301, 2, [e0]⟩ :: ⟨.op b6 b5 0, 301, 2, [c9]⟩ :: R_) := i6
     refine nS ?_
     have n5 : Mem m7 (⟨.op b7 b8 0, 299, 17, [b9]⟩ :: ⟨.op h1 f8 0, 301, 2, [d9]⟩ :: ⟨.op e9 e5 0, 301, 2, [c9]⟩ :: ⟨.op e2 e4 0, 301, 2, [e0]⟩ :: ⟨.op b6 b5 0, 301, 2, [c9]⟩ :: R_) := (Mem.front (k := 1) i6 rfl)
     subst s
     exact kj (.cell rfl (cv (k := 4) i6 rfl (TR.agg am.t f9)) .nil) ⟨b9, c9, Mem.sub n5 (.cons_cons _ (.cons _ (.cons _ (.cons _ (.cons _ (List.Sublist.refl R_)))))), f0, rfl, f9⟩
    ·refine ba (aq (sR (ae (fq (k := 0) e6 rfl rfl (TR.agg am.t f7)) ?_)))
     refine ci (k := 4) (v := d9) e6 rfl rfl rfl (TR.cnt am.t f7) (fun l1 j0 => ?_)
     replace j0 : Mem l1 (⟨.op h1 f8 0, 301, 2, [d9]⟩ :: ⟨.op b7 b8 0, 299, 17, [b9]⟩ :: ⟨.op e9 e5 0, 301, 2, [c9]⟩ :: ⟨.op e2 e4 0, 301, 2, [e0]⟩ :: ⟨.op b6 b5 0, 301, 2, [d9]⟩ :: R_) := j0
     refine nS ?_
     have m4 : Mem l1 (⟨.op b7 b8 0, 299, 17, [b9]⟩ :: ⟨.op h1 f8 0, 301, 2, [d9]⟩ :: ⟨.op e9 e5 0, 301, 2, [c9]⟩ :: ⟨.op e2 e4 0, 301, 2, [e0]⟩ :: ⟨.op b6 b5 0, 301, 2, [d9]⟩ :: R_) := (Mem.front (k := 1) j0 rfl)
     subst s
     exact kj (.cell rfl (cv (k := 4) j0 rfl (TR.agg am.t f7)) .nil) ⟨b9, d9, Mem.sub m4 (.cons_cons _ (.cons _ (.cons _ (.cons _ (.cons _ (List.Sublist.refl R_)))))), f0, rfl, f7⟩
theorem bs7 : ∀ (n_ : Nat) {x0 : bg} {a3 : PV} {R_ : List Ent} {h_ : Heap} {a1 a2 : Nat} (a0 : bg.t.R x0 a3) (M_ : Mem h_ (⟨.op a1 a2 0, 299, 17, [a3]⟩ :: R_)) (hv : VE x0), x0.nodes.length - x0.next.toNat < n_ → ∃ r a4, FnX Tryz.prog 273 [.op a1 a2 0] h_ r a4 ∧ RF273 a1 a2 R_ (ck n_ x0) r a4 := by
 intro n_
 induction n_ with
 | zero => intros; rename_i hlt; exact absurd hlt (Nat.not_lt_zero _)
 | succ n_ ihn =>
  intro x0 a3 R_ h_ a1 a2 a0 M_ hv hlt
  have e_ : ck (n_ + 1) x0 = fh (ck n_) x0 := by rw [ck]
  rw [e_]
  exact bv1 a0 M_ hv rfl (qv n_) (fun {z0} {a3} {R_} {h_} {a1} {a2} a0 M_ hv hz => ihn a0 M_ hv (by omega))
theorem cz2 {x0 : bg} {a4 : PV} {R_ : List Ent} {h_ : Heap} {a0 a1 : Nat} (a2 : bg.t.R x0 a4) (M_ : Mem h_ (⟨.op a0 a1 0, 299, 17, [a4]⟩ :: R_)) (hv : VE x0) : ∃ r a3, FnX Tryz.prog 273 [.op a0 a1 0] h_ r a3 ∧ RF273 a0 a1 R_ (fj x0) r a3 := bs7 _ a2 M_ hv (Nat.lt_succ_self _)

end Go.Proofs.YtmonnlkagniolaaGreat
