/-
 The code of each function does what its plain program says.
-/
import Derived.Test.YtmonnlkagniolaaGreatL7W1
set_option linter.unusedVariables false
set_option linter.unusedSimpArgs false
set_option maxRecDepth 100000
namespace Go.Proofs.YtmonnlkagniolaaGreat
open Go Go.Pb Go.RowKit
def RF172 (res : Int × Bool) (r : PV) : Prop := r = .tup [vi res.1, vb res.2]
theorem cl2 {x0 : af} {x1 : ak} {v0 v1 : PV} (r0 : af.t.R x0 v0) (r1 : ak.t.R x1 v1) : FnR Tryz.prog 172 [v0, v1] (.tup [vi ((pq x0 x1).1), vb ((pq x0 x1).2)]) := by
 refine fnS (R := RF172) bg4 (fun _ h => h) rfl fun res s => ?_
 unfold pq at s
 refine sR (ae (cz rfl (TR.cnt af.t r0)) (ae (cz rfl (TR.cnt ak.t r1)) (mI rfl (mB rfl (nR (gL (af.g_Metadata r0) rfl rfl rfl fun c6 b7 => (mV rfl (nS ?_))))))))
 refine au (sR (fL rfl (ak.g_Header r1) rfl rfl (bN (kg (b := -1)) rfl rfl (nS ?_))))
 obtain ⟨b3, a7, s⟩ := bn s
 refine pp (F := fun b S Q => ∀ (a0 : List aw) (a1 : PV) (a2 : (tSl aw.t).R a0 a1), b3 a0 = res → RC Tryz.prog b S Q [(6, a1), (3, .fp v1)] ⟨0, []⟩) ?_ ?_
 ·intro a0 a1 a2  s
  rw [← a7] at s
  refine au (sR (fL rfl (ak.g_Field r1) rfl rfl (bN ct rfl rfl (mV rfl ?_))))
  refine bw 6 (d := 39) (v := vb ((decide (x1.Field < 0)) || (decide ((a0.length : Int) ≤ x1.Field)))) ?_ ?_
  ·intro S Q r
   cases a8 : (decide (x1.Field < 0))
   ·intro k
    have a3 := a8
    try simp only [qa] at a3
    refine ah rfl rfl (br rfl (ak.g_Field r1)) (ah rfl rfl (bq rfl rfl rfl) (ah rfl rfl (ax rfl) (ah rfl rfl (cy rfl (co a2 Tryz.underlying23 _)) (ah rfl rfl (bp rfl rfl ja) ?_))))
    exact gK rfl rfl rfl rfl rfl k
   ·exact gN 5 rfl rfl rfl rfl rfl rfl
  refine nS ?_
  refine bt s rfl ?_ ?_ <;> clear s <;> intro c s <;> try simp only [qa] at c
  ·refine sR (mI rfl (mB rfl (nS ?_)))
   exact rT s rfl rfl rfl rfl rfl
  ·refine ba (aq (sR (mV rfl (fL rfl (ak.g_Field r1) rfl rfl ?_))))
   obtain ⟨c4, b8, b5⟩ := cr (i := x1.Field) a2 (by omega) (by omega)
   refine ae (bh rfl rfl b8) (fL rfl (aw.g_Width b5) rfl rfl (mV rfl (mB rfl (nS ?_))))
   exact rT s rfl rfl rfl rfl rfl
 ·intro J
  refine bt s rfl ?_ ?_ <;> clear s <;> intro c s <;> try simp only [qa] at c
  ·refine au (sR (fL rfl (ak.g_Header r1) rfl rfl (bN ct rfl rfl (mV rfl ?_))))
   refine bw 7 (d := 22) (v := vb ((decide (x1.Header < 0)) || (decide ((x0.Headers.length : Int) ≤ x1.Header)))) ?_ ?_
   ·intro S Q r
    cases a9 : (decide (x1.Header < 0))
    ·intro k
     have a4 := a9
     try simp only [qa] at a4
     refine ah rfl rfl (br rfl (ak.g_Header r1)) (ah rfl rfl (bq rfl rfl rfl) ?_)
     obtain ⟨c7, b0, a5⟩ := af.g_Headers r0
     refine ah rfl rfl (br rfl b0) (ah rfl rfl (bq rfl (TR.cnt (tSl cm.t) a5) (TR.agg (tSl cm.t) a5)) (ah rfl rfl (cy rfl (co a5 Tryz.underlying22 _)) (ah rfl rfl (bp rfl rfl ja) ?_)))
     exact gK rfl rfl rfl rfl rfl k
    ·exact gN 6 rfl rfl rfl rfl rfl rfl
   refine nS ?_
   refine bt s rfl ?_ ?_ <;> clear s <;> intro c s <;> try simp only [qa] at c
   ·refine sR (mI rfl (mB rfl (nS ?_)))
    exact rT s rfl rfl rfl rfl rfl
   ·refine ba (aq (bb (gL (af.g_Headers r0) rfl rfl rfl fun c5 b2 => (fL rfl (ak.g_Header r1) rfl rfl ?_))))
    obtain ⟨c1, b4, b6⟩ := cr (i := x1.Header) b2 (by omega) (by omega)
    refine ae (bh rfl rfl b4) ?_
    obtain ⟨b9, b1, a6⟩ := cm.g_Fields b6
    refine fA rfl b1 (lD a6 rfl rfl rfl (mV rfl (cf ?_)))
    refine aq (wC (J _ _ a6  s) rfl)
  ·refine ba ?_
   refine aq (wC (J _ _ b7  s) rfl)

def RF267 (res : Int) (r : PV) : Prop := r = vi res
theorem ac3 {x0 : Int} : FnR Tryz.prog 267 [vi x0] (vi (cj x0)) := by
 refine fnS (R := RF267) bh1 (fun _ h => h) rfl fun res s => ?_
 unfold cj at s
 refine sR (mI rfl (nS (au (sR (mV rfl (nS (cb (au ?_))))))))
 refine sR (bN dn rfl rfl (mV rfl (nS ?_)))
 obtain ⟨a6, a4, s⟩ := bn s
 refine pp (F := fun b S Q => ∀ (a2 : Bool), a6 a2 = res → RC Tryz.prog b S Q [(4, vb a2), (3, vi x0)] ⟨0, []⟩) ?_ ?_
 ·intro a2  s
  rw [← a4] at s
  refine bt s rfl ?_ ?_ <;> clear s <;> intro c s <;> try simp only [qa] at c
  ·refine sR (mI rfl (nS ?_))
   exact rR s rfl rfl rfl
  ·refine au (sR (bN dn rfl rfl (mV rfl (nS ?_))))
   obtain ⟨a7, a5, s⟩ := bn s
   refine pp (F := fun b S Q => ∀ (a1 : Bool), a7 a1 = res → RC Tryz.prog b S Q [(9, vb a1), (3, vi x0)] ⟨0, []⟩) ?_ ?_
   ·intro a1  s
    rw [← a5] at s
    refine bt s rfl ?_ ?_ <;> clear s <;> intro c s <;> try simp only [qa] at c
    ·refine sR (mI rfl (nS ?_))
     exact rR s rfl rfl rfl
    ·refine au (sR (bN dn rfl rfl (mV rfl (nS ?_))))
     obtain ⟨a8, a3, s⟩ := bn s
     refine pp (F := fun b S Q => ∀ (a0 : Bool), a8 a0 = res → RC Tryz.prog b S Q [(14, vb a0), (3, vi x0)] ⟨0, []⟩) ?_ ?_
     ·intro a0  s
      rw [← a3] at s
      refine bt s rfl ?_ ?_ <;> clear s <;> intro c s <;> try simp only [qa] at c
      ·refine sR (mI rfl (nS ?_))
       exact rR s rfl rfl rfl
      ·refine sR (bN dn rfl rfl (mV rfl (nS ?_)))
       refine bt s rfl ?_ ?_ <;> clear s <;> intro c s <;> try simp only [qa] at c
       ·refine sR (mI rfl (nS ?_))
        exact rR s rfl rfl rfl
       ·refine ba (dj (aq (sR (mI rfl (nS ?_)))))
        exact rR s rfl rfl rfl
     ·intro J
      refine bt s rfl ?_ ?_ <;> clear s <;> intro c s <;> try simp only [qa] at c
      ·refine ba ?_
       refine aq (wC (J _  s) rfl)
      ·refine sR (bN dn rfl rfl (mV rfl (nS ?_)))
       refine bt s rfl ?_ ?_ <;> clear s <;> intro c s <;> try simp only [qa] at c
       ·refine ba ?_
        refine aq (wC (J _  s) rfl)
       ·refine sR (bN dn rfl rfl (mV rfl (nS ?_)))
        refine bt s rfl ?_ ?_ <;> clear s <;> intro c s <;> try simp only [qa] at c
        ·refine ba ?_
         refine aq (wC (J _  s) rfl)
        ·refine sR (bN dn rfl rfl (mV rfl (nS ?_)))
         refine bt s rfl ?_ ?_ <;> clear s <;> intro c s <;> try simp only [qa] at c
         ·refine ba ?_
          refine aq (wC (J _  s) rfl)
         ·refine sR (bN dn rfl rfl (mV rfl (nS ?_)))
          refine bt s rfl ?_ ?_ <;> clear s <;> intro c s <;> try simp only [qa] at c
          ·refine ba ?_
           refine aq (wC (J _  s) rfl)
          ·refine sR (bN dn rfl rfl (mV rfl (nS ?_)))
           refine bt s rfl ?_ ?_ <;> clear s <;> intro c s <;> try simp only [qa] at c
           ·refine ba ?_
            refine aq (wC (J _  s) rfl)
           ·refine sR (bN dn rfl rfl (mV rfl (nS ?_)))
            refine bt s rfl ?_ ?_ <;> clear s <;> intro c s <;> try simp only [qa] at c
            ·refine ba ?_
             refine aq (wC (J _  s) rfl)
            ·refine bb (bN dn rfl rfl (mV rfl (cf ?_)))
             refine aq (wC (J _  s) rfl)
   ·intro J
    refine bt s rfl ?_ ?_ <;> clear s <;> intro c s <;> try simp only [qa] at c
    ·refine ba ?_
     refine aq (wC (J _  s) rfl)
    ·refine sR (bN dn rfl rfl (mV rfl (nS ?_)))
     refine bt s rfl ?_ ?_ <;> clear s <;> intro c s <;> try simp only [qa] at c
     ·refine ba ?_
      refine aq (wC (J _  s) rfl)
     ·refine sR (bN dn rfl rfl (mV rfl (nS ?_)))
      refine bt s rfl ?_ ?_ <;> clear s <;> intro c s <;> try simp only [qa] at c
      ·refine ba ?_
       refine aq (wC (J _  s) rfl)
      ·refine bb (bN dn rfl rfl (mV rfl (cf ?_)))
       refine aq (wC (J _  s) rfl)
 ·intro J
  refine bt s rfl ?_ ?_ <;> clear s <;> intro c s <;> try simp only [qa] at c
  ·refine ba ?_
   refine aq (wC (J _  s) rfl)
  ·refine sR (bN dn rfl rfl (mV rfl (nS ?_)))
   refine bt s rfl ?_ ?_ <;> clear s <;> intro c s <;> try simp only [qa] at c
   ·refine ba ?_
    refine aq (wC (J _  s) rfl)
   ·refine sR (bN dn rfl rfl (mV rfl (nS ?_)))
    refine bt s rfl ?_ ?_ <;> clear s <;> intro c s <;> try simp only [qa] at c
    ·refine ba ?_
     refine aq (wC (J _  s) rfl)
    ·refine bb (bN dn rfl rfl (mV rfl (cf ?_)))
     refine aq (wC (J _  s) rfl)

def RF287 (res : Int × Int) (r : PV) : Prop := r = .tup [vi res.1, vi res.2]
theorem yr {x0 : Int} : FnR Tryz.prog 287 [vi x0] (.tup [vi ((iv x0).1), vi ((iv x0).2)]) := by
 refine fnS (R := RF287) bk2 (fun _ h => h) rfl fun res s => ?_
 unfold iv at s
 refine sR (mI rfl (mI rfl (nS (au (sR (mV rfl (bN ct rfl rfl (mV rfl ?_))))))))
 refine bw 3 (d := 9) (v := vb ((decide (x0 < 1)) || (decide (32 < x0)))) ?_ ?_
 ·intro S Q r
  cases a1 : (decide (x0 < 1))
  ·intro k
   have a0 := a1
   try simp only [qa] at a0
   refine ah rfl rfl (ax rfl) (ah rfl rfl (bp rfl rfl ki) ?_)
   exact gK rfl rfl rfl rfl rfl k
  ·exact gN 2 rfl rfl rfl rfl rfl rfl
 refine nS ?_
 refine bt s rfl ?_ ?_ <;> clear s <;> intro c s <;> try simp only [qa] at c
 ·refine sR (mI rfl (mI rfl (nS ?_)))
  exact rT s rfl rfl rfl rfl rfl
 ·refine ba (aq (sR (mV rfl (mV rfl (mI rfl (nS ?_))))))
  exact rT s rfl rfl rfl rfl rfl

def RF288 (res : aw × Bool) (r : PV) : Prop := ∃ c0, r = .tup [c0, vb res.2] ∧ aw.t.R res.1 c0
theorem cz3 {x0 : aj} {x1 x2 : Int} {v0 : PV} (r0 : aj.t.R x0 v0) : ∃ c0, FnR Tryz.prog 288 [v0, vi x1, vi x2] (.tup [c0, vb ((kp x0 x1 x2).2)]) ∧ aw.t.R (kp x0 x1 x2).1 c0 := by
 obtain ⟨res, s⟩ : ∃ res, kp x0 x1 x2 = res := ⟨_, rfl⟩
 suffices H : RC Tryz.prog dc1 [] (QR Tryz.prog [(6, some (2, true)), (7, none)] (RF288 res)) (argE 0 [v0, vi x1, vi x2]) ⟨0, []⟩ by
  rw [s]
  obtain ⟨r, h1, c0, rfl, e6⟩ := fnE bd7 (by simp) H
  exact ⟨c0, h1, e6⟩
 unfold kp at s
 refine sR (ae (cz rfl (TR.cnt aj.t r0)) ?_)
 refine di (x := .agg [vs [], vi 0]) (Mem.nil ⟨0, []⟩) rfl rfl (fun a3 a7 e5 b5 => ?_)
 refine mB rfl (nR ?_)
 obtain ⟨e1, d2, c1⟩ := aj.g_Program r0
 refine fA rfl d2 (gL (af.g_Metadata c1) rfl rfl rfl fun e0 c8 => (mV rfl (nS (au (sR (mV rfl (bN (kg (b := -1)) rfl rfl (nS ?_))))))))
 obtain ⟨d6, b8, s⟩ := bn s
 refine pp (F := fun b S Q => ∀ (a0 : List aw) (a2 : PV) (a1 : (tSl aw.t).R a0 a2) (a4 : Heap) (a5 : Mem a4 [⟨.op a3 a7 0, 166, 2, [.agg [vs [], vi 0]]⟩]), d6 a0 = res → RC Tryz.prog b S Q [(8, a2), (6, .op a3 a7 0), (2, vi x2)] a4) ?_ ?_
 ·intro a0 a2 a1 a4 a5 s
  rw [← b8] at s
  refine au (sR (mV rfl (bN ct rfl rfl (mV rfl ?_))))
  refine bw 5 (d := 39) (v := vb ((decide (x2 < 0)) || (decide ((a0.length : Int) ≤ x2)))) ?_ ?_
  ·intro S Q r
   cases b6 : (decide (x2 < 0))
   ·intro k
    have b3 := b6
    try simp only [qa] at b3
    refine ah rfl rfl (ax rfl) (ah rfl rfl (ax rfl) (ah rfl rfl (cy rfl (co a1 Tryz.underlying23 _)) (ah rfl rfl (bp rfl rfl ja) ?_)))
    exact gK rfl rfl rfl rfl rfl k
   ·exact gN 4 rfl rfl rfl rfl rfl rfl
  refine nS ?_
  refine bt s rfl ?_ ?_ <;> clear s <;> intro c s <;> try simp only [qa] at c
  ·refine sR (ae (v := .agg [vs [], vi 0]) (eg (cs := [vs [], vi 0]) rfl rfl) ?_)
   refine ci (k := 0) (v := .agg [vs [], vi 0]) a5 rfl rfl rfl rfl (fun d8 b2 => ?_)
   replace b2 : Mem d8 [⟨.op a3 a7 0, 166, 2, [.agg [vs [], vi 0]]⟩] := b2
   refine mB rfl (nS ?_)
   subst s
   exact dw (.cell rfl (cv (k := 0) b2 rfl rfl) (.tmp rfl .nil)) (cd (show closed (.tup _) = true from (ab (TR.clo aw.t (show aw.t.R ({ Name := ([] : List UInt8), Width := 0 } : aw) (.agg [vs [], vi 0]) from rfl)) (ab rfl ay)))) ⟨.agg [vs [], vi 0], rfl, rfl⟩
  ·refine ba (aq (sR (mV rfl (mV rfl ?_))))
   obtain ⟨a9, d0, a6⟩ := cr (i := x2) a1 (by omega) (by omega)
   refine ae (bh rfl rfl d0) (lD a6 rfl rfl rfl ?_)
   refine ci (k := 0) (v := a9) a5 rfl rfl rfl (TR.cnt aw.t a6) (fun d3 b0 => ?_)
   replace b0 : Mem d3 [⟨.op a3 a7 0, 166, 2, [a9]⟩] := b0
   refine mB rfl (nS ?_)
   subst s
   exact dw (.cell rfl (cv (k := 0) b0 rfl (TR.agg aw.t a6)) (.tmp rfl .nil)) (cd (show closed (.tup _) = true from (ab (TR.clo aw.t a6) (ab rfl ay)))) ⟨a9, rfl, a6⟩
 ·intro J
  refine bt s rfl ?_ ?_ <;> clear s <;> intro c s <;> try simp only [qa] at c
  ·refine au (sR (mV rfl (bN ct rfl rfl (mV rfl ?_))))
   refine bw 7 (d := 23) (v := vb ((decide (x1 < 0)) || (decide ((x0.Program.Headers.length : Int) ≤ x1)))) ?_ ?_
   ·intro S Q r
    cases b7 : (decide (x1 < 0))
    ·intro k
     have a8 := b7
     try simp only [qa] at a8
     refine ah rfl rfl (ax rfl) ?_
     obtain ⟨e7, d1, d5⟩ := aj.g_Program r0
     refine ah rfl rfl (br rfl d1) ?_
     obtain ⟨e3, c7, b1⟩ := af.g_Headers d5
     refine ah rfl rfl (br rfl c7) (ah rfl rfl (bq rfl (TR.cnt (tSl cm.t) b1) (TR.agg (tSl cm.t) b1)) (ah rfl rfl (cy rfl (co b1 Tryz.underlying22 _)) (ah rfl rfl (bp rfl rfl ja) ?_)))
     exact gK rfl rfl rfl rfl rfl k
    ·exact gN 6 rfl rfl rfl rfl rfl rfl
   refine nS ?_
   refine bt s rfl ?_ ?_ <;> clear s <;> intro c s <;> try simp only [qa] at c
   ·refine sR (ae (v := .agg [vs [], vi 0]) (eg (cs := [vs [], vi 0]) rfl rfl) ?_)
    refine ci (k := 0) (v := .agg [vs [], vi 0]) b5 rfl rfl rfl rfl (fun c4 b4 => ?_)
    replace b4 : Mem c4 [⟨.op a3 a7 0, 166, 2, [.agg [vs [], vi 0]]⟩] := b4
    refine mB rfl (nS ?_)
    subst s
    exact dw (.cell rfl (cv (k := 0) b4 rfl rfl) (.tmp rfl .nil)) (cd (show closed (.tup _) = true from (ab (TR.clo aw.t (show aw.t.R ({ Name := ([] : List UInt8), Width := 0 } : aw) (.agg [vs [], vi 0]) from rfl)) (ab rfl ay)))) ⟨.agg [vs [], vi 0], rfl, rfl⟩
   ·refine ba (aq (bb ?_))
    obtain ⟨e8, c6, b9⟩ := aj.g_Program r0
    refine fA rfl c6 (gL (af.g_Headers b9) rfl rfl rfl fun d9 c9 => (mV rfl ?_))
    obtain ⟨e2, d7, d4⟩ := cr (i := x1) c9 (by omega) (by omega)
    refine ae (bh rfl rfl d7) (gL (cm.g_Fields d4) rfl rfl rfl fun e4 c5 => (mV rfl (cf ?_)))
    refine aq (wC (J _ _ c5 _ (Mem.sub b5 (.cons_cons _ .slnil)) s) rfl)
  ·refine ba ?_
   refine aq (wC (J _ _ c8 _ (Mem.sub b5 (.cons_cons _ .slnil)) s) rfl)

def RF268 (res : Int × Int) (r : PV) : Prop := r = .tup [vi res.1, vi res.2]
theorem bh3 {x0 : aj} {x1 : aa} {v0 v1 : PV} (r0 : aj.t.R x0 v0) (r1 : aa.t.R x1 v1) : FnR Tryz.prog 268 [v0, v1] (.tup [vi ((cp x0 x1).1), vi ((cp x0 x1).2)]) := by
 refine fnS (R := RF268) bm5 (fun _ h => h) rfl fun res s => ?_
 unfold cp at s
 refine sR (ae (cz rfl (TR.cnt aj.t r0)) (ae (cz rfl (TR.cnt aa.t r1)) (mI rfl (mI rfl (nS (au (sR (fL rfl (aa.g_Op r1) rfl rfl ?_))))))))
 refine nS (cb (sR (bN dn rfl rfl (mV rfl (nS ?_)))))
 refine bt s rfl ?_ ?_ <;> clear s <;> intro c s <;> try simp only [qa] at c
 ·refine sR (fL rfl (aa.g_W r1) rfl rfl ?_)
  obtain ⟨a0, b2, s⟩ := bn s
  have b5 := yr (x0 := x1.W)  
  rw [b2] at b5
  refine cL b5 rfl rfl (ab rfl ay) (mV rfl (xT rfl rfl (xT rfl rfl (mV rfl (mV rfl (nS (au (sR ?_))))))))
  refine mV rfl (bN dn rfl rfl (mV rfl ?_))
  refine bw 12 (d := 34) (v := vb ((decide (a0.2 = 0)) && ((decide (x1.N < 0)) || (decide (((ca a0.1).toNat : Int) < x1.N))))) ?_ ?_
  ·intro S Q r
   cases b1 : (decide (a0.2 = 0))
   ·exact gN 11 rfl rfl rfl rfl rfl rfl
   ·intro k
    have a7 := b1
    try simp only [qa] at a7
    refine ah rfl rfl (br rfl (aa.g_N r1)) (ah rfl rfl (bq rfl rfl rfl) (ah rfl rfl (bp rfl rfl ct) (ah rfl rfl (ax rfl) ?_)))
    refine bw 7 (d := 33) (v := vb ((decide (x1.N < 0)) || (decide (((ca a0.1).toNat : Int) < x1.N)))) ?_ ?_
    ·intro S Q r
     cases b9 : (decide (x1.N < 0))
     ·intro k
      have a2 := b9
      try simp only [qa] at a2
      refine ah rfl rfl (br rfl (aa.g_N r1)) (ah rfl rfl (bq rfl rfl rfl) (ah rfl rfl (ax rfl) ?_))
      have d3 := kt (x0 := a0.1)  
      refine jm rfl rfl (qq rfl rfl (ab rfl ay) d3) (ah rfl rfl (gi (a := bd (ca a0.1)) rfl (c_wi Tryz.underlying89 Tryz.underlying3)) (ah rfl rfl (bp rfl rfl ki) (ah (v := vb (decide (((ca a0.1).toNat : Int) < x1.N))) rfl rfl (ob rfl rfl rfl rfl) ?_)))
      exact wD k rfl
     ·intro k
      refine lh rfl rfl (lh rfl rfl (lh rfl rfl (lh rfl rfl (lh rfl rfl (lh rfl rfl (ah (v := vb true) rfl rfl (ob rfl rfl rfl rfl) ?_))))))
      exact wD k rfl
    exact gK rfl rfl rfl rfl rfl k
  refine nS ?_
  refine bt s rfl ?_ ?_ <;> clear s <;> intro c s <;> try simp only [qa] at c
  ·refine sR (mI rfl (mI rfl (nS ?_)))
   exact rT s rfl rfl rfl rfl rfl
  ·refine ba (aq (sR (mV rfl (mV rfl (mV rfl (mV rfl (nS ?_)))))))
   exact rT s rfl rfl rfl rfl rfl
 ·refine sR (bN dn rfl rfl (mV rfl (nS ?_)))
  refine bt s rfl ?_ ?_ <;> clear s <;> intro c s <;> try simp only [qa] at c
  ·refine sR (lD r0 rfl rfl rfl (fL rfl (aa.g_N r1) rfl rfl (fL rfl (aa.g_W r1) rfl rfl ?_)))
   obtain ⟨d5, b3, s⟩ := bn s
   obtain ⟨a9, b8, a6⟩ := cz3 (x1 := x1.N) (x2 := x1.W) r0 
   rw [b3] at b8 a6
   refine cL b8 rfl rfl (ab (TR.clo aj.t r0) (ab rfl (ab rfl ay))) (mV rfl (xT rfl rfl (xT rfl rfl ?_)))
   refine di (x := .agg [vs [], vi 0]) (Mem.nil ⟨0, []⟩) rfl rfl (fun d2 d1 d8 d7 => ?_)
   refine ci (k := 0) (v := a9) d7 rfl rfl rfl (TR.cnt aw.t a6) (fun d0 a8 => ?_)
   replace a8 : Mem d0 [⟨.op d2 d1 0, 166, 2, [a9]⟩] := a8
   refine mV rfl (nS (au (sR (mV rfl (ae (gv rfl) (nS ?_))))))
   refine bt s rfl ?_ ?_ <;> clear s <;> intro c s <;> try simp only [qa] at c
   ·refine sR (mI rfl (mI rfl (nS ?_)))
    exact rT s rfl rfl rfl rfl rfl
   ·refine ba (aq (sR (ae (bv rfl) (ae (cq (k := 0) a8 rfl rfl (aw.g_Width a6)) ?_))))
    obtain ⟨e5, b4, s⟩ := bn s
    have c1 := yr (x0 := d5.1.Width)  
    rw [b4] at c1
    refine cL c1 rfl rfl (ab rfl ay) (xT rfl rfl (xT rfl rfl (mV rfl (mV rfl (nS ?_)))))
    exact rT s rfl rfl rfl rfl rfl
  ·refine sR (bN dn rfl rfl (mV rfl (nS ?_)))
   refine bt s rfl ?_ ?_ <;> clear s <;> intro c s <;> try simp only [qa] at c
   ·refine au (sR (fL rfl (aa.g_N r1) rfl rfl (bN ct rfl rfl (mV rfl ?_))))
    refine bw 7 (d := 67) (v := vb ((decide (x1.N < 0)) || (decide ((x0.Params.length : Int) ≤ x1.N)))) ?_ ?_
    ·intro S Q r
     cases b0 : (decide (x1.N < 0))
     ·intro k
      have a5 := b0
      try simp only [qa] at a5
      refine ah rfl rfl (br rfl (aa.g_N r1)) (ah rfl rfl (bq rfl rfl rfl) ?_)
      obtain ⟨e3, d4, a3⟩ := aj.g_Params r0
      refine ah rfl rfl (br rfl d4) (ah rfl rfl (bq rfl (TR.cnt (tSl aw.t) a3) (TR.agg (tSl aw.t) a3)) (ah rfl rfl (cy rfl (co a3 Tryz.underlying23 _)) (ah rfl rfl (bp rfl rfl ja) ?_)))
      exact gK rfl rfl rfl rfl rfl k
     ·exact gN 6 rfl rfl rfl rfl rfl rfl
    refine nS ?_
    refine bt s rfl ?_ ?_ <;> clear s <;> intro c s <;> try simp only [qa] at c
    ·refine sR (mI rfl (mI rfl (nS ?_)))
     exact rT s rfl rfl rfl rfl rfl
    ·refine ba (aq (sR (gL (aj.g_Params r0) rfl rfl rfl fun e0 c9 => (fL rfl (aa.g_N r1) rfl rfl ?_))))
     obtain ⟨d9, c5, c7⟩ := cr (i := x1.N) c9 (by omega) (by omega)
     refine ae (bh rfl rfl c5) (fL rfl (aw.g_Width c7) rfl rfl ?_)
     obtain ⟨e1, c4, s⟩ := bn s
     have b6 := yr (x0 := (ix x0.Params x1.N).Width)  
     rw [c4] at b6
     refine cL b6 rfl rfl (ab rfl ay) (xT rfl rfl (xT rfl rfl (mV rfl (mV rfl (nS ?_)))))
     exact rT s rfl rfl rfl rfl rfl
   ·refine ba (dj (aq (au (sR (fL rfl (aa.g_N r1) rfl rfl (bN ct rfl rfl (mV rfl ?_)))))))
    refine bw 8 (d := 89) (v := vb ((decide (x1.N < 0)) || (decide ((x0.Program.Headers.length : Int) ≤ x1.N)))) ?_ ?_
    ·intro S Q r
     cases b7 : (decide (x1.N < 0))
     ·intro k
      have a1 := b7
      try simp only [qa] at a1
      refine ah rfl rfl (br rfl (aa.g_N r1)) (ah rfl rfl (bq rfl rfl rfl) ?_)
      obtain ⟨e4, c8, d6⟩ := aj.g_Program r0
      refine ah rfl rfl (br rfl c8) ?_
      obtain ⟨e2, c6, a4⟩ := af.g_Headers d6
      refine ah rfl rfl (br rfl c6) (ah rfl rfl (bq rfl (TR.cnt (tSl cm.t) a4) (TR.agg (tSl cm.t) a4)) (ah rfl rfl (cy rfl (co a4 Tryz.underlying22 _)) (ah rfl rfl (bp rfl rfl ja) ?_)))
      exact gK rfl rfl rfl rfl rfl k
     ·exact gN 7 rfl rfl rfl rfl rfl rfl
    refine nS ?_
    refine bt s rfl ?_ ?_ <;> clear s <;> intro c s <;> try simp only [qa] at c
    ·refine sR (mI rfl (mI rfl (nS ?_)))
     exact rT s rfl rfl rfl rfl rfl
    ·refine ba (aq (sR (mI rfl (mI rfl (nS ?_)))))
     exact rT s rfl rfl rfl rfl rfl

def RF269 (res : Int × Int) (r : PV) : Prop := r = .tup [vi res.1, vi res.2]
theorem cu4 {x0 : aa} {x1 : List Int} {v0 v1 : PV} (r0 : aa.t.R x0 v0) (r1 : (tAr 3 tI).R x1 v1) : FnR Tryz.prog 269 [v0, v1] (.tup [vi ((fd x0 x1).1), vi ((fd x0 x1).2)]) := by
 refine fnS (R := RF269) bm4 (fun _ h => h) rfl fun res s => ?_
 unfold fd at s
 refine sR (ae (cz rfl (TR.cnt aa.t r0)) (ae (cz rfl (TR.cnt (tAr 3 tI) r1)) (mI rfl (mI rfl (nS (au (sR (fL rfl (aa.g_Op r0) rfl rfl ?_))))))))
 refine nS (cb (au (sR (bN dn rfl rfl (mV rfl (nS ?_))))))
 obtain ⟨f7, c8, s⟩ := bn s
 refine pp (F := fun b S Q => ∀ (a0 : Bool), f7 a0 = res → RC Tryz.prog b S Q [(10, vb a0), (9, vi x0.Op), (3, .fp v1), (2, .fp v0)] ⟨0, []⟩) ?_ ?_
 ·intro a0  s
  rw [← c8] at s
  refine bt s rfl ?_ ?_ <;> clear s <;> intro c s <;> try simp only [qa] at c
  ·refine sR (fL rfl (aa.g_N r0) rfl rfl (bN ct rfl rfl (mV rfl ?_)))
   refine bw 4 (d := 20) (v := vb ((decide (x0.N < 0)) || (decide (31 < x0.N)))) ?_ ?_
   ·intro S Q r
    cases e0 : (decide (x0.N < 0))
    ·intro k
     have a5 := e0
     try simp only [qa] at a5
     refine ah rfl rfl (br rfl (aa.g_N r0)) (ah rfl rfl (bq rfl rfl rfl) (ah rfl rfl (bp rfl rfl ki) ?_))
     exact gK rfl rfl rfl rfl rfl k
    ·exact gN 3 rfl rfl rfl rfl rfl rfl
   refine nS ?_
   refine bt s rfl ?_ ?_ <;> clear s <;> intro c s <;> try simp only [qa] at c
   ·refine sR (mI rfl (mI rfl (nS ?_)))
    exact rT s rfl rfl rfl rfl rfl
   ·refine ba (dj (aq (au (sR (fL rfl (aa.g_Op r0) rfl rfl ?_)))))
    obtain ⟨c5, c7, s⟩ := bn s
    have d3 := ac3 (x0 := x0.Op)  
    rw [c7] at d3
    refine cL d3 rfl rfl (ab rfl ay) (bN dn rfl rfl (mV rfl ?_))
    refine bw 6 (d := 80) (v := vb ((decide (c5 = 2)) && (!decide ((ix x1 0) = (ix x1 1))))) ?_ ?_
    ·intro S Q r
     cases d1 : (decide (c5 = 2))
     ·exact gN 5 rfl rfl rfl rfl rfl rfl
     ·intro k
      have b6 := d1
      try simp only [qa] at b6
      obtain ⟨f2, f3, b9⟩ := my (t := tI) r1 (i := 0) (by omega) (by omega)
      have b9 : f2 = vi (ix x1 0) := b9; subst b9
      refine ah rfl rfl (lr rfl rfl f3) (ah rfl rfl (bq rfl rfl rfl) ?_)
      obtain ⟨g1, g4, b7⟩ := my (t := tI) r1 (i := 1) (by omega) (by omega)
      have b7 : g1 = vi (ix x1 1) := b7; subst b7
      refine ah rfl rfl (lr rfl rfl g4) (ah rfl rfl (bq rfl rfl rfl) (ah rfl rfl (bp rfl rfl kg) ?_))
      exact gK rfl rfl rfl rfl rfl k
    refine nS ?_
    refine bt s rfl ?_ ?_ <;> clear s <;> intro c s <;> try simp only [qa] at c
    ·refine sR (mI rfl (mI rfl (nS ?_)))
     exact rT s rfl rfl rfl rfl rfl
    ·refine ba (aq (au (sR (fL rfl (aa.g_Op r0) rfl rfl (bN dn rfl rfl (mV rfl ?_))))))
     refine bw 4 (d := 88) (v := vb ((decide (x0.Op = 15)) || (decide (x0.Op = 16)))) ?_ ?_
     ·intro S Q r
      cases d9 : (decide (x0.Op = 15))
      ·intro k
       have a7 := d9
       try simp only [qa] at a7
       refine ah rfl rfl (br rfl (aa.g_Op r0)) (ah rfl rfl (bq rfl rfl rfl) (ah rfl rfl (bp rfl rfl dn) ?_))
       exact gK rfl rfl rfl rfl rfl k
      ·exact gN 3 rfl rfl rfl rfl rfl rfl
     refine nS ?_
     refine bt s rfl ?_ ?_ <;> clear s <;> intro c s <;> try simp only [qa] at c
     ·refine sR (mI rfl (mI rfl (nS ?_)))
      exact rT s rfl rfl rfl rfl rfl
     ·refine ba (aq (sR ?_))
      obtain ⟨g2, g3, b2⟩ := my (t := tI) r1 (i := 0) (by omega) (by omega)
      have b2 : g2 = vi (ix x1 0) := b2; subst b2
      refine ae (lr rfl rfl g3) (lR rfl rfl rfl (mV rfl (mI rfl (nS ?_))))
      exact rT s rfl rfl rfl rfl rfl
  ·refine sR (bN dn rfl rfl (mV rfl (nS ?_)))
   refine bt s rfl ?_ ?_ <;> clear s <;> intro c s <;> try simp only [qa] at c
   ·refine au (sR (fL rfl (aa.g_N r0) rfl rfl (bN ct rfl rfl (nS ?_))))
    refine bt s rfl ?_ ?_ <;> clear s <;> intro c s <;> try simp only [qa] at c
    ·refine sR (mI rfl (mI rfl (nS ?_)))
     exact rT s rfl rfl rfl rfl rfl
    ·refine ba (aq (au (sR (fL rfl (aa.g_W r0) rfl rfl ?_))))
     obtain ⟨d2, d5, s⟩ := bn s
     have d4 := yr (x0 := x0.W)  
     rw [d5] at d4
     refine cL d4 rfl rfl (ab rfl ay) (mV rfl (xT rfl rfl (xT rfl rfl (mV rfl (mV rfl (nR (mV rfl (bN kg rfl rfl ?_))))))))
     refine mV rfl ?_
     refine bw 9 (d := 43) (v := vb ((!decide (d2.2 = 0)) || (decide ((wr ((ix x1 0) - x0.W)) < x0.N)))) ?_ ?_
     ·intro S Q r
      cases d7 : (!decide (d2.2 = 0))
      ·intro k
       have b8 := d7
       try simp only [qa] at b8
       refine ah rfl rfl (br rfl (aa.g_N r0)) (ah rfl rfl (bq rfl rfl rfl) ?_)
       obtain ⟨e4, f1, a8⟩ := my (t := tI) r1 (i := 0) (by omega) (by omega)
       have a8 : e4 = vi (ix x1 0) := a8; subst a8
       refine ah rfl rfl (lr rfl rfl f1) (ah rfl rfl (bq rfl rfl rfl) (ah rfl rfl (br rfl (aa.g_W r0)) (ah rfl rfl (bq rfl rfl rfl) (ah rfl rfl (bp rfl rfl au3) (ah rfl rfl (bp rfl rfl ki) ?_)))))
       exact gK rfl rfl rfl rfl rfl k
      ·exact gN 8 rfl rfl rfl rfl rfl rfl
     refine nS ?_
     refine bt s rfl ?_ ?_ <;> clear s <;> intro c s <;> try simp only [qa] at c
     ·refine sR (mI rfl (mI rfl (nS ?_)))
      exact rT s rfl rfl rfl rfl rfl
     ·refine ba (aq (sR (fL rfl (aa.g_W r0) rfl rfl (mV rfl (mI rfl (nS ?_))))))
      exact rT s rfl rfl rfl rfl rfl
   ·refine sR (bN dn rfl rfl (mV rfl (nS ?_)))
    refine bt s rfl ?_ ?_ <;> clear s <;> intro c s <;> try simp only [qa] at c
    ·refine sR ?_
     obtain ⟨e3, f6, a4⟩ := my (t := tI) r1 (i := 0) (by omega) (by omega)
     have a4 : e3 = vi (ix x1 0) := a4; subst a4
     refine ae (lr rfl rfl f6) (lR rfl rfl rfl ?_)
     obtain ⟨g6, f4, a9⟩ := my (t := tI) r1 (i := 1) (by omega) (by omega)
     have a9 : g6 = vi (ix x1 1) := a9; subst a9
     refine ae (lr rfl rfl f4) (lR rfl rfl rfl (bN fy rfl rfl ?_))
     obtain ⟨h0, c6, s⟩ := bn s
     have c9 := yr (x0 := (wr ((ix x1 0) + (ix x1 1))))  
     rw [c6] at c9
     refine cL c9 rfl rfl (ab rfl ay) (xT rfl rfl (xT rfl rfl (mV rfl (mV rfl (nS ?_)))))
     exact rT s rfl rfl rfl rfl rfl
    ·refine sR (bN dn rfl rfl (mV rfl (nS ?_)))
     refine bt s rfl ?_ ?_ <;> clear s <;> intro c s <;> try simp only [qa] at c
     ·refine au (sR ?_)
      obtain ⟨e5, e7, a1⟩ := my (t := tI) r1 (i := 0) (by omega) (by omega)
      have a1 : e5 = vi (ix x1 0) := a1; subst a1
      refine ae (lr rfl rfl e7) (lR rfl rfl rfl (bN kg rfl rfl (mV rfl ?_)))
      refine bw 6 (d := 67) (v := vb ((!decide ((ix x1 0) = 1)) || (!decide ((ix x1 1) = (ix x1 2))))) ?_ ?_
      ·intro S Q r
       cases e2 : (!decide ((ix x1 0) = 1))
       ·intro k
        have b0 := e2
        try simp only [qa] at b0
        obtain ⟨f9, e9, b3⟩ := my (t := tI) r1 (i := 1) (by omega) (by omega)
        have b3 : f9 = vi (ix x1 1) := b3; subst b3
        refine ah rfl rfl (lr rfl rfl e9) (ah rfl rfl (bq rfl rfl rfl) ?_)
        obtain ⟨g0, g9, a6⟩ := my (t := tI) r1 (i := 2) (by omega) (by omega)
        have a6 : g0 = vi (ix x1 2) := a6; subst a6
        refine ah rfl rfl (lr rfl rfl g9) (ah rfl rfl (bq rfl rfl rfl) (ah rfl rfl (bp rfl rfl kg) ?_))
        exact gK rfl rfl rfl rfl rfl k
       ·exact gN 5 rfl rfl rfl rfl rfl rfl
      refine nS ?_
      refine bt s rfl ?_ ?_ <;> clear s <;> intro c s <;> try simp only [qa] at c
      ·refine sR (mI rfl (mI rfl (nS ?_)))
       exact rT s rfl rfl rfl rfl rfl
      ·refine ba (aq (sR ?_))
       obtain ⟨g5, f0, b1⟩ := my (t := tI) r1 (i := 1) (by omega) (by omega)
       have b1 : g5 = vi (ix x1 1) := b1; subst b1
       refine ae (lr rfl rfl f0) (lR rfl rfl rfl (mV rfl (mI rfl (nS ?_))))
       exact rT s rfl rfl rfl rfl rfl
     ·refine ba (dj (aq (au (sR (fL rfl (aa.g_Op r0) rfl rfl ?_)))))
      obtain ⟨d0, e1, s⟩ := bn s
      have c4 := ac3 (x0 := x0.Op)  
      rw [e1] at c4
      refine cL c4 rfl rfl (ab rfl ay) (bN dn rfl rfl (mV rfl ?_))
      refine bw 6 (d := 80) (v := vb ((decide (d0 = 2)) && (!decide ((ix x1 0) = (ix x1 1))))) ?_ ?_
      ·intro S Q r
       cases d6 : (decide (d0 = 2))
       ·exact gN 5 rfl rfl rfl rfl rfl rfl
       ·intro k
        have b5 := d6
        try simp only [qa] at b5
        obtain ⟨g7, f5, b4⟩ := my (t := tI) r1 (i := 0) (by omega) (by omega)
        have b4 : g7 = vi (ix x1 0) := b4; subst b4
        refine ah rfl rfl (lr rfl rfl f5) (ah rfl rfl (bq rfl rfl rfl) ?_)
        obtain ⟨g8, f8, a2⟩ := my (t := tI) r1 (i := 1) (by omega) (by omega)
        have a2 : g8 = vi (ix x1 1) := a2; subst a2
        refine ah rfl rfl (lr rfl rfl f8) (ah rfl rfl (bq rfl rfl rfl) (ah rfl rfl (bp rfl rfl kg) ?_))
        exact gK rfl rfl rfl rfl rfl k
      refine nS ?_
      refine bt s rfl ?_ ?_ <;> clear s <;> intro c s <;> try simp only [qa] at c
      ·refine sR (mI rfl (mI rfl (nS ?_)))
       exact rT s rfl rfl rfl rfl rfl
      ·refine ba (aq (au (sR (fL rfl (aa.g_Op r0) rfl rfl (bN dn rfl rfl (mV rfl ?_))))))
       refine bw 4 (d := 88) (v := vb ((decide (x0.Op = 15)) || (decide (x0.Op = 16)))) ?_ ?_
       ·intro S Q r
        cases d8 : (decide (x0.Op = 15))
        ·intro k
         have a3 := d8
         try simp only [qa] at a3
         refine ah rfl rfl (br rfl (aa.g_Op r0)) (ah rfl rfl (bq rfl rfl rfl) (ah rfl rfl (bp rfl rfl dn) ?_))
         exact gK rfl rfl rfl rfl rfl k
        ·exact gN 3 rfl rfl rfl rfl rfl rfl
       refine nS ?_
       refine bt s rfl ?_ ?_ <;> clear s <;> intro c s <;> try simp only [qa] at c
       ·refine sR (mI rfl (mI rfl (nS ?_)))
        exact rT s rfl rfl rfl rfl rfl
       ·refine ba (aq (sR ?_))
        obtain ⟨e6, e8, c1⟩ := my (t := tI) r1 (i := 0) (by omega) (by omega)
        have c1 : e6 = vi (ix x1 0) := c1; subst c1
        refine ae (lr rfl rfl e8) (lR rfl rfl rfl (mV rfl (mI rfl (nS ?_))))
        exact rT s rfl rfl rfl rfl rfl
 ·intro J
  refine bt s rfl ?_ ?_ <;> clear s <;> intro c s <;> try simp only [qa] at c
  ·refine ba ?_
   refine aq (wC (J _  s) rfl)
  ·refine bb (bN dn rfl rfl (mV rfl (cf ?_)))
   refine aq (wC (J _  s) rfl)

end Go.Proofs.YtmonnlkagniolaaGreat
