/-
 The code of each function does what its plain program says.
-/
import Derived.Test.YtmonnlkagniolaaGreatL8W2
set_option linter.unusedVariables false
set_option linter.unusedSimpArgs false
set_option maxRecDepth 100000
namespace Go.Proofs.YtmonnlkagniolaaGreat
open Go Go.Pb Go.RowKit
def RF267 (res : Int) (r : PV) : Prop := r = vi res
theorem ad3 {x0 : Int} : FnR Tryz.prog 267 [vi x0] (vi (dv x0)) := by
 refine fnS (R := RF267) bn5 (fun _ h => h) rfl fun res s => ?_
 unfold dv at s
 refine sR (mI rfl (nS (am (sR (mV rfl (nS (bm (am ?_))))))))
 refine sR (bN fi rfl rfl (mV rfl (nS ?_)))
 obtain ⟨a8, a3, s⟩ := bt s
 refine qc (F := fun b S Q => ∀ (a2 : Bool), a8 a2 = res → RC Tryz.prog b S Q [(4, vb a2), (3, vi x0)] ⟨0, []⟩) ?_ ?_
 ·intro a2  s
  rw [← a3] at s
  refine cg s rfl ?_ ?_ <;> clear s <;> intro c s <;> try simp only [qa] at c
  ·refine sR (mI rfl (nS ?_))
   exact rR s rfl rfl rfl
  ·refine am (sR (bN fi rfl rfl (mV rfl (nS ?_))))
   obtain ⟨a7, a5, s⟩ := bt s
   refine qc (F := fun b S Q => ∀ (a1 : Bool), a7 a1 = res → RC Tryz.prog b S Q [(9, vb a1), (3, vi x0)] ⟨0, []⟩) ?_ ?_
   ·intro a1  s
    rw [← a5] at s
    refine cg s rfl ?_ ?_ <;> clear s <;> intro c s <;> try simp only [qa] at c
    ·refine sR (mI rfl (nS ?_))
     exact rR s rfl rfl rfl
    ·refine am (sR (bN fi rfl rfl (mV rfl (nS ?_))))
     obtain ⟨a6, a4, s⟩ := bt s
     refine qc (F := fun b S Q => ∀ (a0 : Bool), a6 a0 = res → RC Tryz.prog b S Q [(14, vb a0), (3, vi x0)] ⟨0, []⟩) ?_ ?_
     ·intro a0  s
      rw [← a4] at s
      refine cg s rfl ?_ ?_ <;> clear s <;> intro c s <;> try simp only [qa] at c
      ·refine sR (mI rfl (nS ?_))
       exact rR s rfl rfl rfl
      ·refine sR (bN fi rfl rfl (mV rfl (nS ?_)))
       refine cg s rfl ?_ ?_ <;> clear s <;> intro c s <;> try simp only [qa] at c
       ·refine sR (mI rfl (nS ?_))
        exact rR s rfl rfl rfl
       ·refine az (de (aq (sR (mI rfl (nS ?_)))))
        exact rR s rfl rfl rfl
     ·intro J
      refine cg s rfl ?_ ?_ <;> clear s <;> intro c s <;> try simp only [qa] at c
      ·refine az ?_
       refine aq (wC (J _  s) rfl)
      ·refine sR (bN fi rfl rfl (mV rfl (nS ?_)))
       refine cg s rfl ?_ ?_ <;> clear s <;> intro c s <;> try simp only [qa] at c
       ·refine az ?_
        refine aq (wC (J _  s) rfl)
       ·refine sR (bN fi rfl rfl (mV rfl (nS ?_)))
        refine cg s rfl ?_ ?_ <;> clear s <;> intro c s <;> try simp only [qa] at c
        ·refine az ?_
         refine aq (wC (J _  s) rfl)
        ·refine sR (bN fi rfl rfl (mV rfl (nS ?_)))
         refine cg s rfl ?_ ?_ <;> clear s <;> intro c s <;> try simp only [qa] at c
         ·refine az ?_
          refine aq (wC (J _  s) rfl)
         ·refine sR (bN fi rfl rfl (mV rfl (nS ?_)))
          refine cg s rfl ?_ ?_ <;> clear s <;> intro c s <;> try simp only [qa] at c
          ·refine az ?_
           refine aq (wC (J _  s) rfl)
          ·refine sR (bN fi rfl rfl (mV rfl (nS ?_)))
           refine cg s rfl ?_ ?_ <;> clear s <;> intro c s <;> try simp only [qa] at c
           ·refine az ?_
            refine aq (wC (J _  s) rfl)
           ·refine sR (bN fi rfl rfl (mV rfl (nS ?_)))
            refine cg s rfl ?_ ?_ <;> clear s <;> intro c s <;> try simp only [qa] at c
            ·refine az ?_
             refine aq (wC (J _  s) rfl)
            ·refine ay (bN fi rfl rfl (mV rfl (br ?_)))
             refine aq (wC (J _  s) rfl)
   ·intro J
    refine cg s rfl ?_ ?_ <;> clear s <;> intro c s <;> try simp only [qa] at c
    ·refine az ?_
     refine aq (wC (J _  s) rfl)
    ·refine sR (bN fi rfl rfl (mV rfl (nS ?_)))
     refine cg s rfl ?_ ?_ <;> clear s <;> intro c s <;> try simp only [qa] at c
     ·refine az ?_
      refine aq (wC (J _  s) rfl)
     ·refine sR (bN fi rfl rfl (mV rfl (nS ?_)))
      refine cg s rfl ?_ ?_ <;> clear s <;> intro c s <;> try simp only [qa] at c
      ·refine az ?_
       refine aq (wC (J _  s) rfl)
      ·refine ay (bN fi rfl rfl (mV rfl (br ?_)))
       refine aq (wC (J _  s) rfl)
 ·intro J
  refine cg s rfl ?_ ?_ <;> clear s <;> intro c s <;> try simp only [qa] at c
  ·refine az ?_
   refine aq (wC (J _  s) rfl)
  ·refine sR (bN fi rfl rfl (mV rfl (nS ?_)))
   refine cg s rfl ?_ ?_ <;> clear s <;> intro c s <;> try simp only [qa] at c
   ·refine az ?_
    refine aq (wC (J _  s) rfl)
   ·refine sR (bN fi rfl rfl (mV rfl (nS ?_)))
    refine cg s rfl ?_ ?_ <;> clear s <;> intro c s <;> try simp only [qa] at c
    ·refine az ?_
     refine aq (wC (J _  s) rfl)
    ·refine ay (bN fi rfl rfl (mV rfl (br ?_)))
     refine aq (wC (J _  s) rfl)

def RF287 (res : Int × Int) (r : PV) : Prop := r = .tup [vi res.1, vi res.2]
theorem yt {x0 : Int} : FnR Tryz.prog 287 [vi x0] (.tup [vi ((pn x0).1), vi ((pn x0).2)]) := by
 refine fnS (R := RF287) bc4 (fun _ h => h) rfl fun res s => ?_
 unfold pn at s
 refine sR (mI rfl (mI rfl (nS (am (sR (mV rfl (bN cw rfl rfl (mV rfl ?_))))))))
 refine cq 3 (d := 9) (v := vb ((decide (x0 < 1)) || (decide (32 < x0)))) ?_ ?_
 ·intro S Q r
  cases a1 : (decide (x0 < 1))
  ·intro k
   have a0 := a1
   try simp only [qa] at a0
   refine ah rfl rfl (av rfl) (ah rfl rfl (bq rfl rfl nj) ?_)
   exact gK rfl rfl rfl rfl rfl k
  ·exact gN 2 rfl rfl rfl rfl rfl rfl
 refine nS ?_
 refine cg s rfl ?_ ?_ <;> clear s <;> intro c s <;> try simp only [qa] at c
 ·refine sR (mI rfl (mI rfl (nS ?_)))
  exact rT s rfl rfl rfl rfl rfl
 ·refine az (aq (sR (mV rfl (mV rfl (mI rfl (nS ?_))))))
  exact rT s rfl rfl rfl rfl rfl

def RF288 (res : ax × Bool) (r : PV) : Prop := ∃ c0, r = .tup [c0, vb res.2] ∧ ax.t.R res.1 c0
theorem ct0 {x0 : bc} {x1 x2 : Int} {v0 : PV} (r0 : bc.t.R x0 v0) : ∃ c0, FnR Tryz.prog 288 [v0, vi x1, vi x2] (.tup [c0, vb ((mg x0 x1 x2).2)]) ∧ ax.t.R (mg x0 x1 x2).1 c0 := by
 obtain ⟨res, s⟩ : ∃ res, mg x0 x1 x2 = res := ⟨_, rfl⟩
 suffices H : RC Tryz.prog cy1 [] (QR Tryz.prog [(6, some (2, true)), (7, none)] (RF288 res)) (argE 0 [v0, vi x1, vi x2]) ⟨0, []⟩ by
  rw [s]
  obtain ⟨r, h1, c0, rfl, e3⟩ := fnE bb9 (by simp) H
  exact ⟨c0, h1, e3⟩
 unfold mg at s
 refine sR (ae (dm rfl (TR.cnt bc.t r0)) ?_)
 refine ej (x := .agg [vs [], vi 0]) (Mem.nil ⟨0, []⟩) rfl rfl (fun a5 a4 e2 a8 => ?_)
 refine mB rfl (nR ?_)
 obtain ⟨e7, d0, b9⟩ := bc.g_Program r0
 refine fA rfl d0 (gL (ab.g_Metadata b9) rfl rfl rfl fun d8 d3 => (mV rfl (nS (am (sR (mV rfl (bN (mi (b := -1)) rfl rfl (nS ?_))))))))
 obtain ⟨c3, b7, s⟩ := bt s
 refine qc (F := fun b S Q => ∀ (a0 : List ax) (a1 : PV) (a2 : (tSl ax.t).R a0 a1) (a3 : Heap) (a6 : Mem a3 [⟨.op a5 a4 0, 166, 2, [.agg [vs [], vi 0]]⟩]), c3 a0 = res → RC Tryz.prog b S Q [(8, a1), (6, .op a5 a4 0), (2, vi x2)] a3) ?_ ?_
 ·intro a0 a1 a2 a3 a6 s
  rw [← b7] at s
  refine am (sR (mV rfl (bN cw rfl rfl (mV rfl ?_))))
  refine cq 5 (d := 39) (v := vb ((decide (x2 < 0)) || (decide ((a0.length : Int) ≤ x2)))) ?_ ?_
  ·intro S Q r
   cases b6 : (decide (x2 < 0))
   ·intro k
    have a9 := b6
    try simp only [qa] at a9
    refine ah rfl rfl (av rfl) (ah rfl rfl (av rfl) (ah rfl rfl (cv rfl (ci a2 Tryz.underlying23 _)) (ah rfl rfl (bq rfl rfl mo) ?_)))
    exact gK rfl rfl rfl rfl rfl k
   ·exact gN 4 rfl rfl rfl rfl rfl rfl
  refine nS ?_
  refine cg s rfl ?_ ?_ <;> clear s <;> intro c s <;> try simp only [qa] at c
  ·refine sR (ae (v := .agg [vs [], vi 0]) (fk (cs := [vs [], vi 0]) rfl rfl) ?_)
   refine ct (k := 0) (v := .agg [vs [], vi 0]) a6 rfl rfl rfl rfl (fun c7 b5 => ?_)
   replace b5 : Mem c7 [⟨.op a5 a4 0, 166, 2, [.agg [vs [], vi 0]]⟩] := b5
   refine mB rfl (nS ?_)
   subst s
   exact fu (.cell rfl (dg (k := 0) b5 rfl rfl) (.tmp rfl .nil)) (cp (show closed (.tup _) = true from (ai (TR.clo ax.t (show ax.t.R ({ Name := ([] : List UInt8), Width := 0 } : ax) (.agg [vs [], vi 0]) from rfl)) (ai rfl bf)))) ⟨.agg [vs [], vi 0], rfl, rfl⟩
  ·refine az (aq (sR (mV rfl (mV rfl ?_))))
   obtain ⟨b1, d2, a7⟩ := dq (i := x2) a2 (by omega) (by omega)
   refine ae (bg rfl rfl d2) (lD a7 rfl rfl rfl ?_)
   refine ct (k := 0) (v := b1) a6 rfl rfl rfl (TR.cnt ax.t a7) (fun c6 b0 => ?_)
   replace b0 : Mem c6 [⟨.op a5 a4 0, 166, 2, [b1]⟩] := b0
   refine mB rfl (nS ?_)
   subst s
   exact fu (.cell rfl (dg (k := 0) b0 rfl (TR.agg ax.t a7)) (.tmp rfl .nil)) (cp (show closed (.tup _) = true from (ai (TR.clo ax.t a7) (ai rfl bf)))) ⟨b1, rfl, a7⟩
 ·intro J
  refine cg s rfl ?_ ?_ <;> clear s <;> intro c s <;> try simp only [qa] at c
  ·refine am (sR (mV rfl (bN cw rfl rfl (mV rfl ?_))))
   refine cq 7 (d := 23) (v := vb ((decide (x1 < 0)) || (decide ((x0.Program.Headers.length : Int) ≤ x1)))) ?_ ?_
   ·intro S Q r
    cases b8 : (decide (x1 < 0))
    ·intro k
     have b2 := b8
     try simp only [qa] at b2
     refine ah rfl rfl (av rfl) ?_
     obtain ⟨e1, c4, d4⟩ := bc.g_Program r0
     refine ah rfl rfl (bw rfl c4) ?_
     obtain ⟨e4, c8, b3⟩ := ab.g_Headers d4
     refine ah rfl rfl (bw rfl c8) (ah rfl rfl (bv rfl (TR.cnt (tSl cj.t) b3) (TR.agg (tSl cj.t) b3)) (ah rfl rfl (cv rfl (ci b3 Tryz.underlying22 _)) (ah rfl rfl (bq rfl rfl mo) ?_)))
     exact gK rfl rfl rfl rfl rfl k
    ·exact gN 6 rfl rfl rfl rfl rfl rfl
   refine nS ?_
   refine cg s rfl ?_ ?_ <;> clear s <;> intro c s <;> try simp only [qa] at c
   ·refine sR (ae (v := .agg [vs [], vi 0]) (fk (cs := [vs [], vi 0]) rfl rfl) ?_)
    refine ct (k := 0) (v := .agg [vs [], vi 0]) a8 rfl rfl rfl rfl (fun c9 b4 => ?_)
    replace b4 : Mem c9 [⟨.op a5 a4 0, 166, 2, [.agg [vs [], vi 0]]⟩] := b4
    refine mB rfl (nS ?_)
    subst s
    exact fu (.cell rfl (dg (k := 0) b4 rfl rfl) (.tmp rfl .nil)) (cp (show closed (.tup _) = true from (ai (TR.clo ax.t (show ax.t.R ({ Name := ([] : List UInt8), Width := 0 } : ax) (.agg [vs [], vi 0]) from rfl)) (ai rfl bf)))) ⟨.agg [vs [], vi 0], rfl, rfl⟩
   ·refine az (aq (ay ?_))
    obtain ⟨e5, d1, c2⟩ := bc.g_Program r0
    refine fA rfl d1 (gL (ab.g_Headers c2) rfl rfl rfl fun e6 d5 => (mV rfl ?_))
    obtain ⟨d9, c1, d6⟩ := dq (i := x1) d5 (by omega) (by omega)
    refine ae (bg rfl rfl c1) (gL (cj.g_Fields d6) rfl rfl rfl fun d7 c5 => (mV rfl (br ?_)))
    refine aq (wC (J _ _ c5 _ (Mem.sub a8 (.cons_cons _ .slnil)) s) rfl)
  ·refine az ?_
   refine aq (wC (J _ _ d3 _ (Mem.sub a8 (.cons_cons _ .slnil)) s) rfl)

def RF268 (res : Int × Int) (r : PV) : Prop := r = .tup [vi res.1, vi res.2]
theorem bj5 {x0 : bc} {x1 : af} {v0 v1 : PV} (r0 : bc.t.R x0 v0) (r1 : af.t.R x1 v1) : FnR Tryz.prog 268 [v0, v1] (.tup [vi ((fd x0 x1).1), vi ((fd x0 x1).2)]) := by
 refine fnS (R := RF268) bm1 (fun _ h => h) rfl fun res s => ?_
 unfold fd at s
 refine sR (ae (dm rfl (TR.cnt bc.t r0)) (ae (dm rfl (TR.cnt af.t r1)) (mI rfl (mI rfl (nS (am (sR (fL rfl (af.g_Op r1) rfl rfl ?_))))))))
 refine nS (bm (sR (bN fi rfl rfl (mV rfl (nS ?_)))))
 refine cg s rfl ?_ ?_ <;> clear s <;> intro c s <;> try simp only [qa] at c
 ·refine sR (fL rfl (af.g_W r1) rfl rfl ?_)
  obtain ⟨a0, b3, s⟩ := bt s
  have b4 := yt (x0 := x1.W)  
  rw [b3] at b4
  refine cL b4 rfl rfl (ai rfl bf) (mV rfl (xT rfl rfl (xT rfl rfl (mV rfl (mV rfl (nS (am (sR ?_))))))))
  refine mV rfl (bN fi rfl rfl (mV rfl ?_))
  refine cq 12 (d := 34) (v := vb ((decide (a0.2 = 0)) && ((decide (x1.N < 0)) || (decide (((ck a0.1).toNat : Int) < x1.N))))) ?_ ?_
  ·intro S Q r
   cases b7 : (decide (a0.2 = 0))
   ·exact gN 11 rfl rfl rfl rfl rfl rfl
   ·intro k
    have a2 := b7
    try simp only [qa] at a2
    refine ah rfl rfl (bw rfl (af.g_N r1)) (ah rfl rfl (bv rfl rfl rfl) (ah rfl rfl (bq rfl rfl cw) (ah rfl rfl (av rfl) ?_)))
    refine cq 7 (d := 33) (v := vb ((decide (x1.N < 0)) || (decide (((ck a0.1).toNat : Int) < x1.N)))) ?_ ?_
    ·intro S Q r
     cases c1 : (decide (x1.N < 0))
     ·intro k
      have a4 := c1
      try simp only [qa] at a4
      refine ah rfl rfl (bw rfl (af.g_N r1)) (ah rfl rfl (bv rfl rfl rfl) (ah rfl rfl (av rfl) ?_))
      have c2 := ky (x0 := a0.1)  
      refine ld rfl rfl (ru rfl rfl (ai rfl bf) c2) (ah rfl rfl (ue (a := bh (ck a0.1)) rfl (c_wi Tryz.underlying89 Tryz.underlying3)) (ah rfl rfl (bq rfl rfl nj) (ah (v := vb (decide (((ck a0.1).toNat : Int) < x1.N))) rfl rfl (qx rfl rfl rfl rfl) ?_)))
      exact wD k rfl
     ·intro k
      refine pr rfl rfl (pr rfl rfl (pr rfl rfl (pr rfl rfl (pr rfl rfl (pr rfl rfl (ah (v := vb true) rfl rfl (qx rfl rfl rfl rfl) ?_))))))
      exact wD k rfl
    exact gK rfl rfl rfl rfl rfl k
  refine nS ?_
  refine cg s rfl ?_ ?_ <;> clear s <;> intro c s <;> try simp only [qa] at c
  ·refine sR (mI rfl (mI rfl (nS ?_)))
   exact rT s rfl rfl rfl rfl rfl
  ·refine az (aq (sR (mV rfl (mV rfl (mV rfl (mV rfl (nS ?_)))))))
   exact rT s rfl rfl rfl rfl rfl
 ·refine sR (bN fi rfl rfl (mV rfl (nS ?_)))
  refine cg s rfl ?_ ?_ <;> clear s <;> intro c s <;> try simp only [qa] at c
  ·refine sR (lD r0 rfl rfl rfl (fL rfl (af.g_N r1) rfl rfl (fL rfl (af.g_W r1) rfl rfl ?_)))
   obtain ⟨d3, a9, s⟩ := bt s
   obtain ⟨b5, b9, a3⟩ := ct0 (x1 := x1.N) (x2 := x1.W) r0 
   rw [a9] at b9 a3
   refine cL b9 rfl rfl (ai (TR.clo bc.t r0) (ai rfl (ai rfl bf))) (mV rfl (xT rfl rfl (xT rfl rfl ?_)))
   refine ej (x := .agg [vs [], vi 0]) (Mem.nil ⟨0, []⟩) rfl rfl (fun c7 c4 d6 c9 => ?_)
   refine ct (k := 0) (v := b5) c9 rfl rfl rfl (TR.cnt ax.t a3) (fun d0 a5 => ?_)
   replace a5 : Mem d0 [⟨.op c7 c4 0, 166, 2, [b5]⟩] := a5
   refine mV rfl (nS (am (sR (mV rfl (ae (ju rfl) (nS ?_))))))
   refine cg s rfl ?_ ?_ <;> clear s <;> intro c s <;> try simp only [qa] at c
   ·refine sR (mI rfl (mI rfl (nS ?_)))
    exact rT s rfl rfl rfl rfl rfl
   ·refine az (aq (sR (ae (bz rfl) (ae (dj (k := 0) a5 rfl rfl (ax.g_Width a3)) ?_))))
    obtain ⟨e3, b6, s⟩ := bt s
    have b0 := yt (x0 := d3.1.Width)  
    rw [b6] at b0
    refine cL b0 rfl rfl (ai rfl bf) (xT rfl rfl (xT rfl rfl (mV rfl (mV rfl (nS ?_)))))
    exact rT s rfl rfl rfl rfl rfl
  ·refine sR (bN fi rfl rfl (mV rfl (nS ?_)))
   refine cg s rfl ?_ ?_ <;> clear s <;> intro c s <;> try simp only [qa] at c
   ·refine am (sR (fL rfl (af.g_N r1) rfl rfl (bN cw rfl rfl (mV rfl ?_))))
    refine cq 7 (d := 67) (v := vb ((decide (x1.N < 0)) || (decide ((x0.Params.length : Int) ≤ x1.N)))) ?_ ?_
    ·intro S Q r
     cases b2 : (decide (x1.N < 0))
     ·intro k
      have a1 := b2
      try simp only [qa] at a1
      refine ah rfl rfl (bw rfl (af.g_N r1)) (ah rfl rfl (bv rfl rfl rfl) ?_)
      obtain ⟨d8, c6, a8⟩ := bc.g_Params r0
      refine ah rfl rfl (bw rfl c6) (ah rfl rfl (bv rfl (TR.cnt (tSl ax.t) a8) (TR.agg (tSl ax.t) a8)) (ah rfl rfl (cv rfl (ci a8 Tryz.underlying23 _)) (ah rfl rfl (bq rfl rfl mo) ?_)))
      exact gK rfl rfl rfl rfl rfl k
     ·exact gN 6 rfl rfl rfl rfl rfl rfl
    refine nS ?_
    refine cg s rfl ?_ ?_ <;> clear s <;> intro c s <;> try simp only [qa] at c
    ·refine sR (mI rfl (mI rfl (nS ?_)))
     exact rT s rfl rfl rfl rfl rfl
    ·refine az (aq (sR (gL (bc.g_Params r0) rfl rfl rfl fun d7 d4 => (fL rfl (af.g_N r1) rfl rfl ?_))))
     obtain ⟨e2, d1, c3⟩ := dq (i := x1.N) d4 (by omega) (by omega)
     refine ae (bg rfl rfl d1) (fL rfl (ax.g_Width c3) rfl rfl ?_)
     obtain ⟨d9, c0, s⟩ := bt s
     have b1 := yt (x0 := (ix x0.Params x1.N).Width)  
     rw [c0] at b1
     refine cL b1 rfl rfl (ai rfl bf) (xT rfl rfl (xT rfl rfl (mV rfl (mV rfl (nS ?_)))))
     exact rT s rfl rfl rfl rfl rfl
   ·refine az (de (aq (am (sR (fL rfl (af.g_N r1) rfl rfl (bN cw rfl rfl (mV rfl ?_)))))))
    refine cq 8 (d := 89) (v := vb ((decide (x1.N < 0)) || (decide ((x0.Program.Headers.length : Int) ≤ x1.N)))) ?_ ?_
    ·intro S Q r
     cases b8 : (decide (x1.N < 0))
     ·intro k
      have a6 := b8
      try simp only [qa] at a6
      refine ah rfl rfl (bw rfl (af.g_N r1)) (ah rfl rfl (bv rfl rfl rfl) ?_)
      obtain ⟨d5, c5, d2⟩ := bc.g_Program r0
      refine ah rfl rfl (bw rfl c5) ?_
      obtain ⟨e1, c8, a7⟩ := ab.g_Headers d2
      refine ah rfl rfl (bw rfl c8) (ah rfl rfl (bv rfl (TR.cnt (tSl cj.t) a7) (TR.agg (tSl cj.t) a7)) (ah rfl rfl (cv rfl (ci a7 Tryz.underlying22 _)) (ah rfl rfl (bq rfl rfl mo) ?_)))
      exact gK rfl rfl rfl rfl rfl k
     ·exact gN 7 rfl rfl rfl rfl rfl rfl
    refine nS ?_
    refine cg s rfl ?_ ?_ <;> clear s <;> intro c s <;> try simp only [qa] at c
    ·refine sR (mI rfl (mI rfl (nS ?_)))
     exact rT s rfl rfl rfl rfl rfl
    ·refine az (aq (sR (mI rfl (mI rfl (nS ?_)))))
     exact rT s rfl rfl rfl rfl rfl

def RF269 (res : Int × Int) (r : PV) : Prop := r = .tup [vi res.1, vi res.2]
theorem cr3 {x0 : af} {x1 : List Int} {v0 v1 : PV} (r0 : af.t.R x0 v0) (r1 : (tAr 3 tI).R x1 v1) : FnR Tryz.prog 269 [v0, v1] (.tup [vi ((kw x0 x1).1), vi ((kw x0 x1).2)]) := by
 refine fnS (R := RF269) bg2 (fun _ h => h) rfl fun res s => ?_
 unfold kw at s
 refine sR (ae (dm rfl (TR.cnt af.t r0)) (ae (dm rfl (TR.cnt (tAr 3 tI) r1)) (mI rfl (mI rfl (nS (am (sR (fL rfl (af.g_Op r0) rfl rfl ?_))))))))
 refine nS (bm (am (sR (bN fi rfl rfl (mV rfl (nS ?_))))))
 obtain ⟨f3, d8, s⟩ := bt s
 refine qc (F := fun b S Q => ∀ (a0 : Bool), f3 a0 = res → RC Tryz.prog b S Q [(10, vb a0), (9, vi x0.Op), (3, .fp v1), (2, .fp v0)] ⟨0, []⟩) ?_ ?_
 ·intro a0  s
  rw [← d8] at s
  refine cg s rfl ?_ ?_ <;> clear s <;> intro c s <;> try simp only [qa] at c
  ·refine sR (fL rfl (af.g_N r0) rfl rfl (bN cw rfl rfl (mV rfl ?_)))
   refine cq 4 (d := 20) (v := vb ((decide (x0.N < 0)) || (decide (31 < x0.N)))) ?_ ?_
   ·intro S Q r
    cases d9 : (decide (x0.N < 0))
    ·intro k
     have a7 := d9
     try simp only [qa] at a7
     refine ah rfl rfl (bw rfl (af.g_N r0)) (ah rfl rfl (bv rfl rfl rfl) (ah rfl rfl (bq rfl rfl nj) ?_))
     exact gK rfl rfl rfl rfl rfl k
    ·exact gN 3 rfl rfl rfl rfl rfl rfl
   refine nS ?_
   refine cg s rfl ?_ ?_ <;> clear s <;> intro c s <;> try simp only [qa] at c
   ·refine sR (mI rfl (mI rfl (nS ?_)))
    exact rT s rfl rfl rfl rfl rfl
   ·refine az (de (aq (am (sR (fL rfl (af.g_Op r0) rfl rfl ?_)))))
    obtain ⟨d3, c2, s⟩ := bt s
    have d6 := ad3 (x0 := x0.Op)  
    rw [c2] at d6
    refine cL d6 rfl rfl (ai rfl bf) (bN fi rfl rfl (mV rfl ?_))
    refine cq 6 (d := 80) (v := vb ((decide (d3 = 2)) && (!decide ((ix x1 0) = (ix x1 1))))) ?_ ?_
    ·intro S Q r
     cases d0 : (decide (d3 = 2))
     ·exact gN 5 rfl rfl rfl rfl rfl rfl
     ·intro k
      have b3 := d0
      try simp only [qa] at b3
      obtain ⟨g0, f7, a9⟩ := my (t := tI) r1 (i := 0) (by omega) (by omega)
      have a9 : g0 = vi (ix x1 0) := a9; subst a9
      refine ah rfl rfl (md rfl rfl f7) (ah rfl rfl (bv rfl rfl rfl) ?_)
      obtain ⟨f0, e5, a6⟩ := my (t := tI) r1 (i := 1) (by omega) (by omega)
      have a6 : f0 = vi (ix x1 1) := a6; subst a6
      refine ah rfl rfl (md rfl rfl e5) (ah rfl rfl (bv rfl rfl rfl) (ah rfl rfl (bq rfl rfl mi) ?_))
      exact gK rfl rfl rfl rfl rfl k
    refine nS ?_
    refine cg s rfl ?_ ?_ <;> clear s <;> intro c s <;> try simp only [qa] at c
    ·refine sR (mI rfl (mI rfl (nS ?_)))
     exact rT s rfl rfl rfl rfl rfl
    ·refine az (aq (am (sR (fL rfl (af.g_Op r0) rfl rfl (bN fi rfl rfl (mV rfl ?_))))))
     refine cq 4 (d := 88) (v := vb ((decide (x0.Op = 15)) || (decide (x0.Op = 16)))) ?_ ?_
     ·intro S Q r
      cases c6 : (decide (x0.Op = 15))
      ·intro k
       have a1 := c6
       try simp only [qa] at a1
       refine ah rfl rfl (bw rfl (af.g_Op r0)) (ah rfl rfl (bv rfl rfl rfl) (ah rfl rfl (bq rfl rfl fi) ?_))
       exact gK rfl rfl rfl rfl rfl k
      ·exact gN 3 rfl rfl rfl rfl rfl rfl
     refine nS ?_
     refine cg s rfl ?_ ?_ <;> clear s <;> intro c s <;> try simp only [qa] at c
     ·refine sR (mI rfl (mI rfl (nS ?_)))
      exact rT s rfl rfl rfl rfl rfl
     ·refine az (aq (sR ?_))
      obtain ⟨f1, f9, b5⟩ := my (t := tI) r1 (i := 0) (by omega) (by omega)
      have b5 : f1 = vi (ix x1 0) := b5; subst b5
      refine ae (md rfl rfl f9) (lR rfl rfl rfl (mV rfl (mI rfl (nS ?_))))
      exact rT s rfl rfl rfl rfl rfl
  ·refine sR (bN fi rfl rfl (mV rfl (nS ?_)))
   refine cg s rfl ?_ ?_ <;> clear s <;> intro c s <;> try simp only [qa] at c
   ·refine am (sR (fL rfl (af.g_N r0) rfl rfl (bN cw rfl rfl (nS ?_))))
    refine cg s rfl ?_ ?_ <;> clear s <;> intro c s <;> try simp only [qa] at c
    ·refine sR (mI rfl (mI rfl (nS ?_)))
     exact rT s rfl rfl rfl rfl rfl
    ·refine az (aq (am (sR (fL rfl (af.g_W r0) rfl rfl ?_))))
     obtain ⟨c9, c5, s⟩ := bt s
     have d4 := yt (x0 := x0.W)  
     rw [c5] at d4
     refine cL d4 rfl rfl (ai rfl bf) (mV rfl (xT rfl rfl (xT rfl rfl (mV rfl (mV rfl (nR (mV rfl (bN mi rfl rfl ?_))))))))
     refine mV rfl ?_
     refine cq 9 (d := 43) (v := vb ((!decide (c9.2 = 0)) || (decide ((wr ((ix x1 0) - x0.W)) < x0.N)))) ?_ ?_
     ·intro S Q r
      cases c4 : (!decide (c9.2 = 0))
      ·intro k
       have b0 := c4
       try simp only [qa] at b0
       refine ah rfl rfl (bw rfl (af.g_N r0)) (ah rfl rfl (bv rfl rfl rfl) ?_)
       obtain ⟨e6, e1, b9⟩ := my (t := tI) r1 (i := 0) (by omega) (by omega)
       have b9 : e6 = vi (ix x1 0) := b9; subst b9
       refine ah rfl rfl (md rfl rfl e1) (ah rfl rfl (bv rfl rfl rfl) (ah rfl rfl (bw rfl (af.g_W r0)) (ah rfl rfl (bv rfl rfl rfl) (ah rfl rfl (bq rfl rfl ah5) (ah rfl rfl (bq rfl rfl nj) ?_)))))
       exact gK rfl rfl rfl rfl rfl k
      ·exact gN 8 rfl rfl rfl rfl rfl rfl
     refine nS ?_
     refine cg s rfl ?_ ?_ <;> clear s <;> intro c s <;> try simp only [qa] at c
     ·refine sR (mI rfl (mI rfl (nS ?_)))
      exact rT s rfl rfl rfl rfl rfl
     ·refine az (aq (sR (fL rfl (af.g_W r0) rfl rfl (mV rfl (mI rfl (nS ?_))))))
      exact rT s rfl rfl rfl rfl rfl
   ·refine sR (bN fi rfl rfl (mV rfl (nS ?_)))
    refine cg s rfl ?_ ?_ <;> clear s <;> intro c s <;> try simp only [qa] at c
    ·refine sR ?_
     obtain ⟨g7, e7, a5⟩ := my (t := tI) r1 (i := 0) (by omega) (by omega)
     have a5 : g7 = vi (ix x1 0) := a5; subst a5
     refine ae (md rfl rfl e7) (lR rfl rfl rfl ?_)
     obtain ⟨e3, f4, a2⟩ := my (t := tI) r1 (i := 1) (by omega) (by omega)
     have a2 : e3 = vi (ix x1 1) := a2; subst a2
     refine ae (md rfl rfl f4) (lR rfl rfl rfl (bN gv rfl rfl ?_))
     obtain ⟨g8, d5, s⟩ := bt s
     have d1 := yt (x0 := (wr ((ix x1 0) + (ix x1 1))))  
     rw [d5] at d1
     refine cL d1 rfl rfl (ai rfl bf) (xT rfl rfl (xT rfl rfl (mV rfl (mV rfl (nS ?_)))))
     exact rT s rfl rfl rfl rfl rfl
    ·refine sR (bN fi rfl rfl (mV rfl (nS ?_)))
     refine cg s rfl ?_ ?_ <;> clear s <;> intro c s <;> try simp only [qa] at c
     ·refine am (sR ?_)
      obtain ⟨e2, g4, b4⟩ := my (t := tI) r1 (i := 0) (by omega) (by omega)
      have b4 : e2 = vi (ix x1 0) := b4; subst b4
      refine ae (md rfl rfl g4) (lR rfl rfl rfl (bN mi rfl rfl (mV rfl ?_)))
      refine cq 6 (d := 67) (v := vb ((!decide ((ix x1 0) = 1)) || (!decide ((ix x1 1) = (ix x1 2))))) ?_ ?_
      ·intro S Q r
       cases c1 : (!decide ((ix x1 0) = 1))
       ·intro k
        have b7 := c1
        try simp only [qa] at b7
        obtain ⟨f2, g6, b6⟩ := my (t := tI) r1 (i := 1) (by omega) (by omega)
        have b6 : f2 = vi (ix x1 1) := b6; subst b6
        refine ah rfl rfl (md rfl rfl g6) (ah rfl rfl (bv rfl rfl rfl) ?_)
        obtain ⟨f8, e9, c0⟩ := my (t := tI) r1 (i := 2) (by omega) (by omega)
        have c0 : f8 = vi (ix x1 2) := c0; subst c0
        refine ah rfl rfl (md rfl rfl e9) (ah rfl rfl (bv rfl rfl rfl) (ah rfl rfl (bq rfl rfl mi) ?_))
        exact gK rfl rfl rfl rfl rfl k
       ·exact gN 5 rfl rfl rfl rfl rfl rfl
      refine nS ?_
      refine cg s rfl ?_ ?_ <;> clear s <;> intro c s <;> try simp only [qa] at c
      ·refine sR (mI rfl (mI rfl (nS ?_)))
       exact rT s rfl rfl rfl rfl rfl
      ·refine az (aq (sR ?_))
       obtain ⟨g1, g3, a4⟩ := my (t := tI) r1 (i := 1) (by omega) (by omega)
       have a4 : g1 = vi (ix x1 1) := a4; subst a4
       refine ae (md rfl rfl g3) (lR rfl rfl rfl (mV rfl (mI rfl (nS ?_))))
       exact rT s rfl rfl rfl rfl rfl
     ·refine az (de (aq (am (sR (fL rfl (af.g_Op r0) rfl rfl ?_)))))
      obtain ⟨c3, c8, s⟩ := bt s
      have d7 := ad3 (x0 := x0.Op)  
      rw [c8] at d7
      refine cL d7 rfl rfl (ai rfl bf) (bN fi rfl rfl (mV rfl ?_))
      refine cq 6 (d := 80) (v := vb ((decide (c3 = 2)) && (!decide ((ix x1 0) = (ix x1 1))))) ?_ ?_
      ·intro S Q r
       cases c7 : (decide (c3 = 2))
       ·exact gN 5 rfl rfl rfl rfl rfl rfl
       ·intro k
        have b1 := c7
        try simp only [qa] at b1
        obtain ⟨f6, g5, b2⟩ := my (t := tI) r1 (i := 0) (by omega) (by omega)
        have b2 : f6 = vi (ix x1 0) := b2; subst b2
        refine ah rfl rfl (md rfl rfl g5) (ah rfl rfl (bv rfl rfl rfl) ?_)
        obtain ⟨e8, f5, a3⟩ := my (t := tI) r1 (i := 1) (by omega) (by omega)
        have a3 : e8 = vi (ix x1 1) := a3; subst a3
        refine ah rfl rfl (md rfl rfl f5) (ah rfl rfl (bv rfl rfl rfl) (ah rfl rfl (bq rfl rfl mi) ?_))
        exact gK rfl rfl rfl rfl rfl k
      refine nS ?_
      refine cg s rfl ?_ ?_ <;> clear s <;> intro c s <;> try simp only [qa] at c
      ·refine sR (mI rfl (mI rfl (nS ?_)))
       exact rT s rfl rfl rfl rfl rfl
      ·refine az (aq (am (sR (fL rfl (af.g_Op r0) rfl rfl (bN fi rfl rfl (mV rfl ?_))))))
       refine cq 4 (d := 88) (v := vb ((decide (x0.Op = 15)) || (decide (x0.Op = 16)))) ?_ ?_
       ·intro S Q r
        cases d2 : (decide (x0.Op = 15))
        ·intro k
         have b8 := d2
         try simp only [qa] at b8
         refine ah rfl rfl (bw rfl (af.g_Op r0)) (ah rfl rfl (bv rfl rfl rfl) (ah rfl rfl (bq rfl rfl fi) ?_))
         exact gK rfl rfl rfl rfl rfl k
        ·exact gN 3 rfl rfl rfl rfl rfl rfl
       refine nS ?_
       refine cg s rfl ?_ ?_ <;> clear s <;> intro c s <;> try simp only [qa] at c
       ·refine sR (mI rfl (mI rfl (nS ?_)))
        exact rT s rfl rfl rfl rfl rfl
       ·refine az (aq (sR ?_))
        obtain ⟨g2, e4, a8⟩ := my (t := tI) r1 (i := 0) (by omega) (by omega)
        have a8 : g2 = vi (ix x1 0) := a8; subst a8
        refine ae (md rfl rfl e4) (lR rfl rfl rfl (mV rfl (mI rfl (nS ?_))))
        exact rT s rfl rfl rfl rfl rfl
 ·intro J
  refine cg s rfl ?_ ?_ <;> clear s <;> intro c s <;> try simp only [qa] at c
  ·refine az ?_
   refine aq (wC (J _  s) rfl)
  ·refine ay (bN fi rfl rfl (mV rfl (br ?_)))
   refine aq (wC (J _  s) rfl)

def RF226 (res : Int × Int × Int) (r : PV) : Prop := r = .tup [vi res.1, vi res.2.1, vi res.2.2]
theorem sy {S : List Fr} {res : Int × Int × Int} {x0 : bc} {x1 : List af} {x2 : Int} {rec_ : bc → (List af) → Int → (Int × Int × Int)} {mu_ : Nat} {a5 : Int} {v0 v1 : PV} {a9 a6 : Nat} (r0 : bc.t.R x0 v0) (r1 : (tSl af.t).R x1 v1) (h0 : 0 ≤ x2) (hb : x1.length ≤ 1000000) (ihR : ∀ {z0 : bc} {z1 : List af} {z2 : Int} {c9 d0 : PV} (d3 : bc.t.R z0 c9) (d4 : (tSl af.t).R z1 d0) (h0 : 0 ≤ z2) (hb : z1.length ≤ 1000000), (z1.length - z2.toNat) < mu_ → FnR Tryz.prog 226 [c9, d0, vi z2] (.tup [vi ((rec_ z0 z1 z2).1), vi ((rec_ z0 z1 z2).2.1), vi ((rec_ z0 z1 z2).2.2)])) (hmu : mu_ = (x1.length - x2.toNat)) (hrec : ∀ (z0 : bc) (z1 : List af) (z2 : Int), 0 ≤ z2 → z1.length ≤ 1000000 → (rec_ z0 z1 z2).2.2 = 0 → z2 < (rec_ z0 z1 z2).2.1) (c3 : (decide ((x1.length : Int) ≤ x2)) = false) (d1 : dv ((ix x1 x2).Op) = a5) (b8 : (decide (a5 < 0)) = false) (b9 : (decide (a5 = 0)) = false) {K1 : Int → (List Int) → (Int × Int × Int)}
  (d2 : ∀ {b0 : Int} {a1 : List Int} {a2 : PV} (a3 : (tAr 3 tI).R a1 a2) {h : Heap} (M0 : Mem h [⟨.op a9 a6 0, 293, 3, [a2]⟩]), K1 b0 a1 = res → PX Tryz.prog 1 S (QR Tryz.prog [(6, none), (7, none), (8, none)] (RF226 res)) [(1, v1), (2, vi x2), (7, vi b0), (10, .op a9 a6 0)] h) :
  ∀ {m : Nat} {b0 a0 : Int} {a1 : List Int} {a2 : PV} (a3 : (tAr 3 tI).R a1 a2) (c7 : m = Int.toNat (a5 - a0)) (c4 : 0 ≤ a0) (b3 : x2 < b0) {h : Heap} (M0 : Mem h [⟨.op a9 a6 0, 293, 3, [a2]⟩]), da x0 x1 rec_ K1 m b0 a0 a1 = res → RC Tryz.prog (.loop bu6) S (QR Tryz.prog [(6, none), (7, none), (8, none)] (RF226 res)) [(44, vi a0), (43, vi a5), (10, .op a9 a6 0), (7, vi b0), (3, .fp v0), (2, vi x2), (1, v1)] h := by
 have hb' := hb
 try simp only [qa] at hb'
 have b4 := c3
 try simp only [qa] at b4
 have b7 := b8
 try simp only [qa] at b7
 have b5 := b9
 try simp only [qa] at b5
 intro m
 induction m with
 | zero =>
  intro b0 a0 a1 a2 a3 c7 c4 b3 h M0 s
  rw [da] at s
  refine co (sR (bN cw rfl rfl (nS (am ?_))))
  refine cd rfl ?_ ?_ <;> intro c <;> try simp only [qa] at c
  ·omega
  refine fj (gg (dw ?_))
  exact wP (d2 a3 (Mem.sub M0 (.cons_cons _ .slnil)) s) rfl
 | succ m ih =>
  intro b0 a0 a1 a2 a3 c7 c4 b3 h M0 s
  rw [da] at s
  refine co (sR (bN cw rfl rfl (nS (am ?_))))
  refine cd rfl ?_ ?_ <;> intro c <;> try simp only [qa] at c
  rotate_left
  ·omega
  refine az (aq (am (bm (sR (mV rfl (mV rfl (nR (mV rfl ?_))))))))
  refine lD r0 rfl rfl rfl (mV rfl (mV rfl ?_))
  obtain ⟨a4, b2, s⟩ := bt s
  have c0 := ihR (z0 := x0) (z1 := x1) (z2 := b0) r0 r1 (by first | assumption | omega | (rw [ee (by omega) (by omega)]; omega) | (have hk := rval rfl (And.right (And.left (by assumption))); omega) | (have hk := rval (by assumption) (by assumption); omega) | (have hk := rval (by assumption) (And.left (by assumption)); omega) | (have hk := rval (by assumption) (And.left (And.left (by assumption))); have hz := rslc (by assumption); omega) | (simp; done) | (simp only [List.length_append, List.length_nil, List.length_cons]; omega) | (have hk := (dx (by assumption) (by assumption)).1; omega) | (simp only [List.length_cons, List.length_nil]; omega) | (simp only [List.length_append]; have hk := (dx (by assumption) (by assumption)).1; omega) | (simp only [List.length_append, List.length_nil]; have hk := (dx (by assumption) (by assumption)).1; omega)) (by first | assumption | omega | (rw [ee (by omega) (by omega)]; omega) | (have hk := rval rfl (And.right (And.left (by assumption))); omega) | (have hk := rval (by assumption) (by assumption); omega) | (have hk := rval (by assumption) (And.left (by assumption)); omega) | (have hk := rval (by assumption) (And.left (And.left (by assumption))); have hz := rslc (by assumption); omega) | (simp; done) | (simp only [List.length_append, List.length_nil, List.length_cons]; omega) | (have hk := (dx (by assumption) (by assumption)).1; omega) | (simp only [List.length_cons, List.length_nil]; omega) | (simp only [List.length_append]; have hk := (dx (by assumption) (by assumption)).1; omega) | (simp only [List.length_append, List.length_nil]; have hk := (dx (by assumption) (by assumption)).1; omega)) (by first | omega | (rw [ee (by omega) (by omega)]; omega))
  rw [b2] at c0
  have c8 : a4.2.2 = 0 → b0 < a4.2.1 := by rw [← b2]; exact hrec _ _ _ (by omega) (by omega)
  refine cL c0 rfl rfl (ai (TR.clo bc.t r0) (ai (TR.clo (tSl af.t) r1) (ai rfl bf))) (mV rfl (xT rfl rfl (xT rfl rfl (xT rfl rfl ?_))))
  have a7 : 0 ≤ a0 := by first | omega | (have hk := ar (by assumption); omega)
  have a8 : a0 < 3 := by first | omega | (have hk := ar (by assumption); omega)
  refine ae (ay6 rfl rfl a7 a8) ?_
  obtain ⟨c5, c2, b1, c1⟩ := br0 (t := tI) (i := a0) a3 a7 a8 (show tI.R a4.1 (vi a4.1) from rfl) rfl
  refine az4 (k := 0) (v := vi a4.1) M0 rfl rfl rfl c2 rfl b1.1 b1.2 (fun c6 b6 => ?_)
  replace b6 : Mem c6 [⟨.op a9 a6 0, 293, 3, [.agg (spl c5 (a0.toNat * 1) [vi a4.1])]⟩] := b6
  refine mV rfl (mV rfl (nR (mV rfl (bN mi rfl rfl (nS ?_)))))
  refine cg s rfl ?_ ?_ <;> clear s <;> intro c s <;> try simp only [qa] at c
  ·refine sR (mV rfl (mI rfl (mI rfl (mV rfl (nS ?_)))))
   subst s
   exact fu (.tmp rfl (.tmp rfl (.tmp rfl .nil))) (cp (show closed (.tup _) = true from (ai rfl (ai rfl (ai rfl bf))))) rfl
  ·refine az (de (aq (ay (bN gv rfl rfl (mV rfl (br (di ?_)))))))
   have hinc : wr (a0 + 1) = a0 + 1 := ee (by omega) (by first | omega | (have hk := ar (by assumption); omega))
   erw [hinc]
   exact wC (ih  c1 (by omega) (by omega) (by first | omega | (simp; done) | (simp only [List.length_append, List.length_cons, List.length_nil, List.length_set]; omega)) (Mem.sub b6 (.cons_cons _ .slnil)) s) rfl

theorem bw9 {rec_ : bc → (List af) → Int → (Int × Int × Int)} {mu_ : Nat} {x0 : bc} {x1 : List af} {x2 : Int} {v0 v1 : PV} (r0 : bc.t.R x0 v0) (r1 : (tSl af.t).R x1 v1) (h0 : 0 ≤ x2) (hb : x1.length ≤ 1000000) (hmu : mu_ = (x1.length - x2.toNat)) (hrec : ∀ (z0 : bc) (z1 : List af) (z2 : Int), 0 ≤ z2 → z1.length ≤ 1000000 → (rec_ z0 z1 z2).2.2 = 0 → z2 < (rec_ z0 z1 z2).2.1) (ihR : ∀ {z0 : bc} {z1 : List af} {z2 : Int} {c4 c5 : PV} (d6 : bc.t.R z0 c4) (d7 : (tSl af.t).R z1 c5) (h0 : 0 ≤ z2) (hb : z1.length ≤ 1000000), (z1.length - z2.toNat) < mu_ → FnR Tryz.prog 226 [c4, c5, vi z2] (.tup [vi ((rec_ z0 z1 z2).1), vi ((rec_ z0 z1 z2).2.1), vi ((rec_ z0 z1 z2).2.2)])) : FnR Tryz.prog 226 [v0, v1, vi x2] (.tup [vi ((dz rec_ x0 x1 x2).1), vi ((dz rec_ x0 x1 x2).2.1), vi ((dz rec_ x0 x1 x2).2.2)]) := by
 refine fnS (R := RF226) bg7 (fun _ h => h) rfl fun res s => ?_
 unfold dz at s
 refine sR (ae (dm rfl (TR.cnt bc.t r0)) (mI rfl (mI rfl (mI rfl (nS (am (sR (mV rfl ?_))))))))
 refine mV rfl (ae (cv rfl (ci r1 Tryz.underlying32 _)) (bN mo rfl rfl (nS ?_)))
 refine cg s rfl ?_ ?_ <;> clear s <;> intro a3 s <;> have a5 := a3 <;> try simp only [qa] at a5
 ·refine sR (mI rfl (mI rfl (mI rfl (nS ?_))))
  subst s
  exact fu (.tmp rfl (.tmp rfl (.tmp rfl .nil))) (cp (show closed (.tup _) = true from (ai rfl (ai rfl (ai rfl bf))))) rfl
 ·refine az (aq (sR (mV rfl (mV rfl ?_))))
  obtain ⟨d2, c3, c1⟩ := dq (i := x2) r1 (by omega) (by omega)
  refine ae (bg rfl rfl c3) (fL rfl (af.g_Op c1) rfl rfl ?_)
  obtain ⟨c7, a4, s⟩ := bt s
  have b1 := ad3 (x0 := (ix x1 x2).Op)  
  rw [a4] at b1
  refine cL b1 rfl rfl (ai rfl bf) (mV rfl (nS (am (bm (sR (mV rfl (bN cw rfl rfl (mV rfl ?_))))))))
  refine nS ?_
  refine cg s rfl ?_ ?_ <;> clear s <;> intro a1 s <;> have a9 := a1 <;> try simp only [qa] at a9
  ·refine sR (mI rfl (mI rfl (mI rfl (nS ?_))))
   subst s
   exact fu (.tmp rfl (.tmp rfl (.tmp rfl .nil))) (cp (show closed (.tup _) = true from (ai rfl (ai rfl (ai rfl bf))))) rfl
  ·refine sR (mV rfl (bN fi rfl rfl (mV rfl (nS ?_))))
   refine cg s rfl ?_ ?_ <;> clear s <;> intro a2 s <;> have a6 := a2 <;> try simp only [qa] at a6
   ·refine sR (lD r0 rfl rfl rfl (mV rfl (mV rfl ?_)))
    obtain ⟨c6, c0, a7⟩ := dq (i := x2) r1 (by omega) (by omega)
    refine ae (bg rfl rfl c0) (lD a7 rfl rfl rfl ?_)
    obtain ⟨c8, b3, s⟩ := bt s
    have b5 := bj5  r0 a7 
    rw [b3] at b5
    refine cL b5 rfl rfl (ai (TR.clo bc.t r0) (ai (TR.clo af.t a7) bf)) (mV rfl (xT rfl rfl (xT rfl rfl (mV rfl (mV rfl (nR (mV rfl (mV rfl ?_))))))))
    refine bN gv rfl rfl (mV rfl (mV rfl (mV rfl (mV rfl (nS ?_)))))
    subst s
    exact fu (.tmp rfl (.tmp rfl (.tmp rfl .nil))) (cp (show closed (.tup _) = true from (ai rfl (ai rfl (ai rfl bf))))) rfl
   ·refine az (de (aq (sR ?_)))
    refine ej (x := .agg [vi 0, vi 0, vi 0]) (Mem.nil ⟨0, []⟩) rfl rfl (fun d3 d1 d4 b8 => ?_)
    refine nR (mV rfl (bN gv rfl rfl (mV rfl (nS (am (sR (mV rfl (mI rfl ?_))))))))
    refine nS (bm ?_)
    refine wC (sy r0 r1 h0 hb ihR hmu hrec a3 a4 a1 a2 ?_  (show (tAr 3 tI).R ([0, 0, 0] : List Int) (.agg [vi 0, vi 0, vi 0]) from ⟨rfl, [vi 0, vi 0, vi 0], [vi 0, vi 0, vi 0], ⟨rfl, ⟨rfl, ⟨rfl, trivial⟩⟩⟩, rfl, rfl⟩) rfl (by omega) (by (rw [ee (by omega) (by omega)]; omega)) (Mem.sub b8 (.cons_cons _ .slnil)) s) rfl
    ·intro b7 b0 b4 a0 c9 c2 s
     refine gm (aq (sR (mV rfl (mV rfl ?_))))
     obtain ⟨d5, b9, a8⟩ := dq (i := x2) r1 (by omega) (by omega)
     refine ae (bg rfl rfl b9) (lD a8 rfl rfl rfl (ae (ir (k := 0) c2 rfl rfl (TR.agg (tAr 3 tI) a0)) ?_))
     obtain ⟨d0, b6, s⟩ := bt s
     have b2 := cr3  a8 a0 
     rw [b6] at b2
     refine cL b2 rfl rfl (ai (TR.clo af.t a8) (ai (TR.clo (tAr 3 tI) a0) bf)) (mV rfl (xT rfl rfl (xT rfl rfl (mV rfl (mV rfl (nR (mV rfl (mV rfl ?_))))))))
     refine mV rfl (mV rfl (mV rfl (mV rfl (nS ?_))))
     subst s
     exact fu (.tmp rfl (.tmp rfl (.tmp rfl .nil))) (cp (show closed (.tup _) = true from (ai rfl (ai rfl (ai rfl bf))))) rfl
theorem ca7 : ∀ (n_ : Nat) {x0 : bc} {x1 : List af} {x2 : Int} {v0 v1 : PV} (r0 : bc.t.R x0 v0) (r1 : (tSl af.t).R x1 v1) (h0 : 0 ≤ x2) (hb : x1.length ≤ 1000000), (x1.length - x2.toNat) < n_ → FnR Tryz.prog 226 [v0, v1, vi x2] (.tup [vi ((db n_ x0 x1 x2).1), vi ((db n_ x0 x1 x2).2.1), vi ((db n_ x0 x1 x2).2.2)]) := by
 intro n_
 induction n_ with
 | zero => intros; rename_i hlt; exact absurd hlt (Nat.not_lt_zero _)
 | succ n_ ihn =>
  intro x0 x1 x2 v0 v1 r0 r1 h0 hb hlt
  have e_ : db (n_ + 1) x0 x1 x2 = dz (db n_) x0 x1 x2 := by rw [db]
  rw [e_]
  exact bw9 r0 r1 h0 hb rfl (rv n_) (fun {z0} {z1} {z2} {zv0} {zv1} zr0 zr1 h0 hb hz => ihn zr0 zr1 h0 hb (by omega))
theorem ck8 {x0 : bc} {x1 : List af} {x2 : Int} {v0 v1 : PV} (r0 : bc.t.R x0 v0) (r1 : (tSl af.t).R x1 v1) (h0 : 0 ≤ x2) (hb : x1.length ≤ 1000000) : FnR Tryz.prog 226 [v0, v1, vi x2] (.tup [vi ((cn x0 x1 x2).1), vi ((cn x0 x1 x2).2.1), vi ((cn x0 x1 x2).2.2)]) := ca7 _ r0 r1 h0 hb (Nat.lt_succ_self _)

end Go.Proofs.YtmonnlkagniolaaGreat
