/-
 The code of each function does what its plain program says.
-/
import Derived.Test.YtmonnlkagniolaaGreatL8W3
set_option linter.unusedVariables false
set_option linter.unusedSimpArgs false
set_option maxRecDepth 100000
namespace Go.Proofs.YtmonnlkagniolaaGreat
open Go Go.Pb Go.RowKit
def RF174 (res : Int × Int) (r : PV) : Prop := r = .tup [vi res.1, vi res.2]
theorem ap9 {x0 : List af} {x1 : bc} {v0 v1 : PV} (r0 : (tSl af.t).R x0 v0) (r1 : bc.t.R x1 v1) : FnR Tryz.prog 174 [v0, v1] (.tup [vi ((mf x0 x1).1), vi ((mf x0 x1).2)]) := by
 refine fnS (R := RF174) bi4 (fun _ h => h) rfl fun res s => ?_
 unfold mf at s
 refine sR (ae (dm rfl (TR.cnt bc.t r1)) (mI rfl (mI rfl (nS (am (sR (mV rfl (ae (cv rfl (ci r0 Tryz.underlying32 _)) ?_))))))))
 refine bN nj rfl rfl (nS ?_)
 refine cg s rfl ?_ ?_ <;> clear s <;> intro c s <;> try simp only [qa] at c
 ·refine sR (mI rfl (mI rfl (nS ?_)))
  exact rT s rfl rfl rfl rfl rfl
 ·refine az (aq (sR (lD r1 rfl rfl rfl (mV rfl ?_))))
  obtain ⟨a2, a1, s⟩ := bt s
  have a0 := ck8 (x2 := 0) r1 r0 (by first | assumption | omega | (rw [ee (by omega) (by omega)]; omega) | (have hk := rval rfl (And.right (And.left (by assumption))); omega) | (have hk := rval (by assumption) (by assumption); omega) | (have hk := rval (by assumption) (And.left (by assumption)); omega) | (have hk := rval (by assumption) (And.left (And.left (by assumption))); have hz := rslc (by assumption); omega) | (simp; done) | (simp only [List.length_append, List.length_nil, List.length_cons]; omega) | (have hk := (dx (by assumption) (by assumption)).1; omega) | (simp only [List.length_cons, List.length_nil]; omega) | (simp only [List.length_append]; have hk := (dx (by assumption) (by assumption)).1; omega) | (simp only [List.length_append, List.length_nil]; have hk := (dx (by assumption) (by assumption)).1; omega)) (by first | assumption | omega | (rw [ee (by omega) (by omega)]; omega) | (have hk := rval rfl (And.right (And.left (by assumption))); omega) | (have hk := rval (by assumption) (by assumption); omega) | (have hk := rval (by assumption) (And.left (by assumption)); omega) | (have hk := rval (by assumption) (And.left (And.left (by assumption))); have hz := rslc (by assumption); omega) | (simp; done) | (simp only [List.length_append, List.length_nil, List.length_cons]; omega) | (have hk := (dx (by assumption) (by assumption)).1; omega) | (simp only [List.length_cons, List.length_nil]; omega) | (simp only [List.length_append]; have hk := (dx (by assumption) (by assumption)).1; omega) | (simp only [List.length_append, List.length_nil]; have hk := (dx (by assumption) (by assumption)).1; omega))
  rw [a1] at a0
  refine cL a0 rfl rfl (ai (TR.clo bc.t r1) (ai (TR.clo (tSl af.t) r0) (ai rfl bf))) (mV rfl (xT rfl rfl (xT rfl rfl (xT rfl rfl (mV rfl (mV rfl (mV rfl (nS ?_))))))))
  refine am (bm (sR (mV rfl (bN mi rfl rfl (mV rfl (nS ?_))))))
  refine cg s rfl ?_ ?_ <;> clear s <;> intro c s <;> try simp only [qa] at c
  ·refine sR (mV rfl (mI rfl (mV rfl (nS ?_))))
   exact rT s rfl rfl rfl rfl rfl
  ·refine sR (mV rfl (mV rfl (ae (cv rfl (ci r0 Tryz.underlying32 _)) (bN cw rfl rfl (mV rfl (nS ?_))))))
   refine cg s rfl ?_ ?_ <;> clear s <;> intro c s <;> try simp only [qa] at c
   ·refine sR (mI rfl (mI rfl (nS ?_)))
    exact rT s rfl rfl rfl rfl rfl
   ·refine az (de (aq (sR (mV rfl (mV rfl (mI rfl (nS ?_)))))))
    exact rT s rfl rfl rfl rfl rfl

def RF173 (res : Int) (r : PV) : Prop := r = vi res
theorem bc9 {x0 : cz} {x1 : List af} {x2 : Int} {v0 v1 : PV} (r0 : cz.t.R x0 v0) (r1 : (tSl af.t).R x1 v1) : FnR Tryz.prog 173 [v0, v1, vi x2] (vi (jc x0 x1 x2)) := by
 refine fnS (R := RF173) bg8 (fun _ h => h) rfl fun res s => ?_
 unfold jc at s
 refine sR (ae (dm rfl (TR.cnt cz.t r0)) (mI rfl (nR (mV rfl ?_))))
 obtain ⟨a7, a6, a0⟩ := cz.g_scope r0
 refine fA rfl a6 (lD a0 rfl rfl rfl ?_)
 obtain ⟨a2, a3, s⟩ := bt s
 have a4 := ap9  r1 a0 
 rw [a3] at a4
 refine cL a4 rfl rfl (ai (TR.clo (tSl af.t) r1) (ai (TR.clo bc.t a0) bf)) (mV rfl (xT rfl rfl (xT rfl rfl (mV rfl (mV rfl (nS (am (sR ?_))))))))
 refine mV rfl (bN fi rfl rfl (mV rfl ?_))
 refine cq 4 (d := 22) (v := vb ((decide (a2.2 = 0)) && (!decide (a2.1 = x2)))) ?_ ?_
 ·intro S Q r
  cases a5 : (decide (a2.2 = 0))
  ·exact gN 3 rfl rfl rfl rfl rfl rfl
  ·intro k
   have a1 := a5
   try simp only [qa] at a1
   refine ah rfl rfl (av rfl) (ah rfl rfl (av rfl) (ah rfl rfl (bq rfl rfl mi) ?_))
   exact gK rfl rfl rfl rfl rfl k
 refine nS ?_
 refine cg s rfl ?_ ?_ <;> clear s <;> intro c s <;> try simp only [qa] at c
 ·refine sR (mI rfl (nS ?_))
  exact rR s rfl rfl rfl
 ·refine az (aq (sR (mV rfl (mV rfl (nS ?_)))))
  exact rR s rfl rfl rfl

def RF104 (res : Int) (r : PV) : Prop := r = vi res
theorem cl7 {x0 : cz} {x1 : ak} {v0 v1 : PV} (r0 : cz.t.R x0 v0) (r1 : ak.t.R x1 v1) : FnR Tryz.prog 104 [v0, v1] (vi (ek x0 x1)) := by
 refine fnS (R := RF104) bn1 (fun _ h => h) rfl fun res s => ?_
 unfold ek at s
 refine sR (ae (dm rfl (TR.cnt cz.t r0)) (ae (dm rfl (TR.cnt ak.t r1)) (mI rfl (nR ?_))))
 obtain ⟨g3, d8, e2⟩ := cz.g_scope r0
 refine fA rfl d8 (gL (bc.g_Program e2) rfl rfl rfl fun b1 a2 => ?_)
 refine ej (x := .agg [vs [], nilS, nilS, nilS, nilS, nilS, nilS, nilS, nilS]) (Mem.nil ⟨0, []⟩) rfl rfl (fun a6 a9 g4 f1 => ?_)
 refine ct (k := 0) (v := b1) f1 rfl rfl rfl (TR.cnt ab.t a2) (fun e7 a5 => ?_)
 replace a5 : Mem e7 [⟨.op a6 a9 0, 31, 9, [b1]⟩] := a5
 refine nR (ae (ir (k := 0) a5 rfl rfl (TR.agg ab.t a2)) (gL (ak.g_Dst r1) rfl rfl rfl fun f5 d3 => ?_))
 obtain ⟨a3, c3, s⟩ := bt s
 have b8 := cu1  a2 d3 
 rw [c3] at b8
 refine cL b8 rfl rfl (ai (TR.clo ab.t a2) (ai (TR.clo aa.t d3) bf)) (mV rfl (xT rfl rfl (xT rfl rfl (mV rfl (mV rfl (nR (fL rfl (ak.g_Register r1) rfl rfl (bN mo rfl rfl ?_))))))))
 refine mV rfl ?_
 refine cq 7 (d := 31) (v := vb ((decide (0 ≤ x1.Register)) && (decide (x1.Register < (x0.scope.Program.Registers.length : Int))))) ?_ ?_
 ·intro S Q r
  cases c8 : (decide (0 ≤ x1.Register))
  ·exact gN 6 rfl rfl rfl rfl rfl rfl
  ·intro k
   have b4 := c8
   try simp only [qa] at b4
   refine ah rfl rfl (bw rfl (ak.g_Register r1)) (ah rfl rfl (bv rfl rfl rfl) (ah rfl rfl (bz rfl) ?_))
   obtain ⟨f8, e1, e5⟩ := ab.g_Registers a2
   refine ah rfl rfl (dj (k := 0) a5 rfl rfl e1) (ah rfl rfl (cv rfl (ci e5 Tryz.underlying24 _)) (ah rfl rfl (bq rfl rfl cw) ?_))
   exact gK rfl rfl rfl rfl rfl k
 refine mV rfl (nS (am (sR (fL rfl (ak.g_Kind r1) rfl rfl (nS (bm (sR (bN fi rfl rfl ?_))))))))
 refine mV rfl (nS ?_)
 refine cg s rfl ?_ ?_ <;> clear s <;> intro c s <;> try simp only [qa] at c
 ·refine am (sR (mV rfl (ae (ju rfl) (nS ?_))))
  refine cg s rfl ?_ ?_ <;> clear s <;> intro c s <;> try simp only [qa] at c
  ·refine sR (mI rfl (nS ?_))
   exact rR s rfl rfl rfl
  ·refine az (aq (sR (lD r0 rfl rfl rfl (gL (ak.g_Value r1) rfl rfl rfl fun f7 d2 => (mV rfl ?_)))))
   obtain ⟨f6, c9, s⟩ := bt s
   have b9 := bc9 (x2 := a3.1) r0 d2 
   rw [c9] at b9
   refine cL b9 rfl rfl (ai (TR.clo cz.t r0) (ai (TR.clo (tSl af.t) d2) (ai rfl bf))) (mV rfl (nS ?_))
   exact rR s rfl rfl rfl
 ·refine am (sR (bN fi rfl rfl (mV rfl (nS ?_))))
  obtain ⟨e3, c4, s⟩ := bt s
  refine qc (F := fun b S Q => ∀ (a1 : Bool) (a7 : Heap) (a4 : Mem a7 [⟨.op a6 a9 0, 31, 9, [b1]⟩]), e3 a1 = res → RC Tryz.prog b S Q [(43, vb a1), (33, vi x1.Kind), (8, vb ((decide (0 ≤ x1.Register)) && (decide (x1.Register < (x0.scope.Program.Registers.length : Int))))), (7, vb a3.2), (6, vi a3.1), (5, .op a6 a9 0), (3, .fp v1), (2, .fp v0)] a7) ?_ ?_
  ·intro a1 a7 a4 s
   rw [← c4] at s
   refine cg s rfl ?_ ?_ <;> clear s <;> intro c s <;> try simp only [qa] at c
   ·refine am (sR (fL rfl (ak.g_Header r1) rfl rfl (bN cw rfl rfl (mV rfl ?_))))
    refine cq 7 (d := 56) (v := vb ((decide (x1.Header < 0)) || (decide ((x0.scope.Program.Headers.length : Int) ≤ x1.Header)))) ?_ ?_
    ·intro S Q r
     cases b7 : (decide (x1.Header < 0))
     ·intro k
      have b3 := b7
      try simp only [qa] at b3
      refine ah rfl rfl (bw rfl (ak.g_Header r1)) (ah rfl rfl (bv rfl rfl rfl) (ah rfl rfl (bz rfl) ?_))
      obtain ⟨f4, d5, f2⟩ := ab.g_Headers a2
      refine ah rfl rfl (dj (k := 0) a4 rfl rfl d5) (ah rfl rfl (cv rfl (ci f2 Tryz.underlying22 _)) (ah rfl rfl (bq rfl rfl mo) ?_))
      exact gK rfl rfl rfl rfl rfl k
     ·exact gN 6 rfl rfl rfl rfl rfl rfl
    refine nS ?_
    refine cg s rfl ?_ ?_ <;> clear s <;> intro c s <;> try simp only [qa] at c
    ·refine sR (mI rfl (nS ?_))
     exact rR s rfl rfl rfl
    ·refine az (aq (sR (mI rfl (nS ?_))))
     exact rR s rfl rfl rfl
   ·refine am (sR (bN fi rfl rfl (mV rfl (nS ?_))))
    obtain ⟨d7, c7, s⟩ := bt s
    refine qc (F := fun b S Q => ∀ (a0 : Bool) (b0 : Heap) (a8 : Mem b0 [⟨.op a6 a9 0, 31, 9, [b1]⟩]), d7 a0 = res → RC Tryz.prog b S Q [(57, vb a0), (8, vb ((decide (0 ≤ x1.Register)) && (decide (x1.Register < (x0.scope.Program.Registers.length : Int))))), (7, vb a3.2), (6, vi a3.1), (5, .op a6 a9 0), (3, .fp v1), (2, .fp v0)] b0) ?_ ?_
    ·intro a0 b0 a8 s
     rw [← c7] at s
     refine cg s rfl ?_ ?_ <;> clear s <;> intro c s <;> try simp only [qa] at c
     ·refine am (sR (mV rfl (ae (ju rfl) (mV rfl ?_))))
      refine cq 8 (d := 70) (v := vb ((!((decide (0 ≤ x1.Register)) && (decide (x1.Register < (x0.scope.Program.Registers.length : Int))))) || ((decide (x1.Kind = 4)) && (!a3.2)))) ?_ ?_
      ·intro S Q r
       cases c1 : (!((decide (0 ≤ x1.Register)) && (decide (x1.Register < (x0.scope.Program.Registers.length : Int)))))
       ·intro k
        have b2 := c1
        try simp only [qa] at b2
        refine ah rfl rfl (bw rfl (ak.g_Kind r1)) (ah rfl rfl (bv rfl rfl rfl) (ah rfl rfl (bq rfl rfl fi) (ah rfl rfl (av rfl) ?_)))
        refine cq 3 (d := 69) (v := vb ((decide (x1.Kind = 4)) && (!a3.2))) ?_ ?_
        ·intro S Q r
         cases c5 : (decide (x1.Kind = 4))
         ·intro k
          refine pr rfl rfl (pr rfl rfl (ah (v := vb false) rfl rfl (qx rfl rfl rfl rfl) ?_))
          exact wD k rfl
         ·intro k
          have b5 := c5
          try simp only [qa] at b5
          refine ah rfl rfl (av rfl) (ah rfl rfl (ju rfl) (ah (v := vb (!a3.2)) rfl rfl (qx rfl rfl rfl rfl) ?_))
          exact wD k rfl
        exact gK rfl rfl rfl rfl rfl k
       ·exact gN 7 rfl rfl rfl rfl rfl rfl
      refine nS ?_
      refine cg s rfl ?_ ?_ <;> clear s <;> intro c s <;> try simp only [qa] at c
      ·refine sR (mI rfl (nS ?_))
       exact rR s rfl rfl rfl
      ·refine az (aq (am (sR (gL (ak.g_Index r1) rfl rfl rfl fun g9 c0 => (gL (cz.g_scope r0) rfl rfl rfl fun f9 d0 => ?_)))))
       obtain ⟨g0, c2, s⟩ := bt s
       have d4 := ap9  c0 d0 
       rw [c2] at d4
       refine cL d4 rfl rfl (ai (TR.clo (tSl af.t) c0) (ai (TR.clo bc.t d0) bf)) (mV rfl (xT rfl rfl (xT rfl rfl (mV rfl (mV rfl (nR (mV rfl (bN mi rfl rfl ?_))))))))
       refine nS ?_
       refine cg s rfl ?_ ?_ <;> clear s <;> intro c s <;> try simp only [qa] at c
       ·refine sR (mV rfl (mV rfl (nS ?_)))
        exact rR s rfl rfl rfl
       ·refine az (aq (am (sR (fL rfl (ak.g_Kind r1) rfl rfl (bN fi rfl rfl (nS ?_))))))
        refine cg s rfl ?_ ?_ <;> clear s <;> intro c s <;> try simp only [qa] at c
        ·refine sR (lD r0 rfl rfl rfl (gL (ak.g_Value r1) rfl rfl rfl fun g2 d1 => (ae (bz rfl) ?_)))
         obtain ⟨g7, f0, e4⟩ := ab.g_Registers a2
         refine ae (dj (k := 0) a8 rfl rfl f0) (fL rfl (ak.g_Register r1) rfl rfl ?_)
         obtain ⟨g1, f3, e9⟩ := dq (i := x1.Register) e4 (by omega) (by omega)
         refine ae (bg rfl rfl f3) (fL rfl (cm.g_Width e9) rfl rfl ?_)
         obtain ⟨g5, b6, s⟩ := bt s
         have c6 := bc9 (x2 := (ix x0.scope.Program.Registers x1.Register).Width) r0 d1 
         rw [b6] at c6
         refine cL c6 rfl rfl (ai (TR.clo cz.t r0) (ai (TR.clo (tSl af.t) d1) (ai rfl bf))) (mV rfl (nS ?_))
         exact rR s rfl rfl rfl
        ·refine az (aq (am (sR (mV rfl (ae (bz rfl) ?_)))))
         obtain ⟨g6, e6, e8⟩ := ab.g_Registers a2
         refine ae (dj (k := 0) a8 rfl rfl e6) (fL rfl (ak.g_Register r1) rfl rfl ?_)
         obtain ⟨g8, d9, d6⟩ := dq (i := x1.Register) e8 (by omega) (by omega)
         refine ae (bg rfl rfl d9) (fL rfl (cm.g_Width d6) rfl rfl (bN mi rfl rfl (nS ?_)))
         refine cg s rfl ?_ ?_ <;> clear s <;> intro c s <;> try simp only [qa] at c
         ·refine sR (mI rfl (nS ?_))
          exact rR s rfl rfl rfl
         ·refine az (aq (sR (mI rfl (nS ?_))))
          exact rR s rfl rfl rfl
     ·refine az (de (aq (sR (mI rfl (nS ?_)))))
      exact rR s rfl rfl rfl
    ·intro J
     refine cg s rfl ?_ ?_ <;> clear s <;> intro c s <;> try simp only [qa] at c
     ·refine az ?_
      refine aq (wC (J _ _ (Mem.sub a4 (.cons_cons _ .slnil)) s) rfl)
     ·refine ay (bN fi rfl rfl (mV rfl (br ?_)))
      refine aq (wC (J _ _ (Mem.sub a4 (.cons_cons _ .slnil)) s) rfl)
  ·intro J
   refine cg s rfl ?_ ?_ <;> clear s <;> intro c s <;> try simp only [qa] at c
   ·refine az ?_
    refine aq (wC (J _ _ (Mem.sub a5 (.cons_cons _ .slnil)) s) rfl)
   ·refine ay (bN fi rfl rfl (mV rfl (br ?_)))
    refine aq (wC (J _ _ (Mem.sub a5 (.cons_cons _ .slnil)) s) rfl)

def RF35 (res : Int × Int) (r : PV) : Prop := r = .tup [vi res.1, vi res.2]
theorem xm {S : List Fr} {res : Int × Int} {x0 : ab} {x1 c3 : Int} {b3 a4 a7 a0 a2 a5 a3 a1 a6 b8 : PV} {b2 b1 : Nat} (c2 : ((decide (x1 < 0)) || (decide ((x0.Actions.length : Int) ≤ x1))) = false) (d2 : ji (ix x0.Actions x1) = c3) (c5 : (!decide (c3 = 0)) = false) (b9 : (tSl ak.t).R ((ix x0.Actions x1).Body) b8) (b6 : cz.t.R ({ scope := ({ Program := x0, Params := (ix x0.Actions x1).Params } : bc) } : cz) (.agg [vs x0.Name, a4, a7, a0, a2, a5, a3, a1, a6, b3])) {K0 : Unit → (Int × Int)}
  (d5 : ∀ {h : Heap} (M0 : Mem h [⟨.op b2 b1 0, 151, 10, [.agg [vs x0.Name, a4, a7, a0, a2, a5, a3, a1, a6, b3]]⟩]), K0 () = res → PX Tryz.prog 0 S (QR Tryz.prog [(4, none), (5, none)] (RF35 res)) [] h) :
  ∀ {m : Nat} {a8 : Int} (d1 : m = Int.toNat ((((ix x0.Actions x1).Body).length : Int) - a8)) (c1 : 0 ≤ a8) {h : Heap} (M0 : Mem h [⟨.op b2 b1 0, 151, 10, [.agg [vs x0.Name, a4, a7, a0, a2, a5, a3, a1, a6, b3]]⟩]), gz x0 x1 K0 m a8 = res → RC Tryz.prog (.loop cs6) S (QR Tryz.prog [(4, none), (5, none)] (RF35 res)) [(37, vi a8), (36, vi (((ix x0.Actions x1).Body).length : Int)), (35, b8), (7, .op b2 b1 0)] h := by
 have b4 := c2
 try simp only [qa] at b4
 have b5 := c5
 try simp only [qa] at b5
 intro m
 induction m with
 | zero =>
  intro a8 d1 c1 h M0 s
  rw [gz] at s
  refine co (sR (bN cw rfl rfl (nS (am ?_))))
  refine cd rfl ?_ ?_ <;> intro c <;> try simp only [qa] at c
  ·omega
  refine fj (gg (dw ?_))
  exact wP (d5 (Mem.sub M0 (.cons_cons _ .slnil)) s) rfl
 | succ m ih =>
  intro a8 d1 c1 h M0 s
  rw [gz] at s
  refine co (sR (bN cw rfl rfl (nS (am ?_))))
  refine cd rfl ?_ ?_ <;> intro c <;> try simp only [qa] at c
  rotate_left
  ·omega
  refine az (aq (am (bm (sR (mV rfl ?_)))))
  obtain ⟨c4, d0, b0⟩ := dq (i := a8) b9 (by omega) (by omega)
  refine ae (bg rfl rfl d0) (lD b0 rfl rfl rfl ?_)
  refine ej (x := .agg [vi 0, vi 0, vi 0, vi 0, vi 0, nilS, nilS]) M0 rfl rfl (fun c7 c6 d3 c8 => ?_)
  refine mV rfl ?_
  refine ct (k := 0) (v := c4) c8 rfl rfl rfl (TR.cnt ak.t b0) (fun c9 a9 => ?_)
  replace a9 : Mem c9 [⟨.op c7 c6 0, 135, 7, [c4]⟩, ⟨.op b2 b1 0, 151, 10, [.agg [vs x0.Name, a4, a7, a0, a2, a5, a3, a1, a6, b3]]⟩] := a9
  refine nR (ae (ir (k := 1) a9 rfl rfl (TR.agg cz.t b6)) (ae (ir (k := 0) a9 rfl rfl (TR.agg ak.t b0)) ?_))
  obtain ⟨d4, b7, s⟩ := bt s
  have c0 := cl7  b6 b0 
  rw [b7] at c0
  refine cL c0 rfl rfl (ai (TR.clo cz.t b6) (ai (TR.clo ak.t b0) bf)) (mV rfl (nR (mV rfl (bN mi rfl rfl (nS ?_)))))
  refine cg s rfl ?_ ?_ <;> clear s <;> intro c s <;> try simp only [qa] at c
  ·refine sR (mV rfl (mV rfl (mV rfl (mV rfl (nS ?_)))))
   exact rT s rfl rfl rfl rfl rfl
  ·refine az (de (aq (ay (bN gv rfl rfl (mV rfl (br (di ?_)))))))
   have hbd := en b9
   have hinc : wr (a8 + 1) = a8 + 1 := ee (by omega) (by omega)
   erw [hinc]
   exact wC (ih   (by omega) (by omega) (Mem.sub a9 (.cons _ (.cons_cons _ .slnil))) s) rfl

theorem bw4 {x0 : ab} {x1 : Int} {v0 : PV} (r0 : ab.t.R x0 v0) : FnR Tryz.prog 35 [v0, vi x1] (.tup [vi ((gw x0 x1).1), vi ((gw x0 x1).2)]) := by
 refine fnS (R := RF35) cc4 (fun _ h => h) rfl fun res s => ?_
 unfold gw at s
 refine sR (ae (dm rfl (TR.cnt ab.t r0)) (mI rfl (mI rfl (nS (am (sR (mV rfl (bN cw rfl rfl ?_))))))))
 refine mV rfl ?_
 refine cq 6 (d := 18) (v := vb ((decide (x1 < 0)) || (decide ((x0.Actions.length : Int) ≤ x1)))) ?_ ?_
 ·intro S Q r
  cases d1 : (decide (x1 < 0))
  ·intro k
   have c7 := d1
   try simp only [qa] at c7
   refine ah rfl rfl (av rfl) ?_
   obtain ⟨f5, e8, c5⟩ := ab.g_Actions r0
   refine ah rfl rfl (bw rfl e8) (ah rfl rfl (bv rfl (TR.cnt (tSl bp.t) c5) (TR.agg (tSl bp.t) c5)) (ah rfl rfl (cv rfl (ci c5 Tryz.underlying25 _)) (ah rfl rfl (bq rfl rfl mo) ?_)))
   exact gK rfl rfl rfl rfl rfl k
  ·exact gN 5 rfl rfl rfl rfl rfl rfl
 refine nS ?_
 refine cg s rfl ?_ ?_ <;> clear s <;> intro c1 s <;> have c3 := c1 <;> try simp only [qa] at c3
 ·refine sR (mI rfl (mI rfl (nS ?_)))
  exact rT s rfl rfl rfl rfl rfl
 ·refine az (aq (sR ?_))
  obtain ⟨e9, d7, d2⟩ := ab.g_Actions r0
  refine fA rfl d7 (lD d2 rfl rfl rfl (mV rfl ?_))
  obtain ⟨c4, d9, a9⟩ := dq (i := x1) d2 (by omega) (by omega)
  refine ae (bg rfl rfl d9) (lD a9 rfl rfl rfl ?_)
  refine ej (x := .agg [vs [], nilS, nilS]) (Mem.nil ⟨0, []⟩) rfl rfl (fun d3 d0 f1 e2 => ?_)
  refine ct (k := 0) (v := c4) e2 rfl rfl rfl (TR.cnt bp.t a9) (fun e6 b0 => ?_)
  replace b0 : Mem e6 [⟨.op d3 d0 0, 97, 3, [c4]⟩] := b0
  refine nS (am (sR (ae (ir (k := 0) b0 rfl rfl (TR.agg bp.t a9)) ?_)))
  obtain ⟨f4, c0, s⟩ := bt s
  have d4 := cf6  a9 
  rw [c0] at d4
  refine cL d4 rfl rfl (ai (TR.clo bp.t a9) bf) (mV rfl (nR (mV rfl (bN mi rfl rfl (nS ?_)))))
  refine cg s rfl ?_ ?_ <;> clear s <;> intro c2 s <;> have c6 := c2 <;> try simp only [qa] at c6
  ·refine sR (mV rfl (mI rfl (mV rfl (nS ?_))))
   exact rT s rfl rfl rfl rfl rfl
  ·refine az (aq (sR (lD r0 rfl rfl rfl (ae (bz rfl) ?_))))
   obtain ⟨a8, e7, c8⟩ := bp.g_Params a9
   refine ae (dj (k := 0) b0 rfl rfl e7) ?_
   obtain ⟨a4, a7, a0, a2, a5, a3, a1, a6, e5, b6, b8, b5, b7, b9, b2, b1, b4⟩ := r0
   subst e5
   refine ae (v := .agg [vs x0.Name, a4, a7, a0, a2, a5, a3, a1, a6, a8]) (fk (cs := [vs x0.Name, a4, a7, a0, a2, a5, a3, a1, a6, a8]) rfl (by simp only [buildV, ou (TR.cnt (tSl ax.t) c8) (TR.agg (tSl ax.t) c8)]; rfl)) (ae (v := .agg [vs x0.Name, a4, a7, a0, a2, a5, a3, a1, a6, a8]) (fk (cs := [vs x0.Name, a4, a7, a0, a2, a5, a3, a1, a6, a8]) rfl rfl) ?_)
   refine ej (x := .agg [vs [], nilS, nilS, nilS, nilS, nilS, nilS, nilS, nilS, nilS]) b0 rfl rfl (fun d8 d6 f0 e1 => ?_)
   refine ct (k := 0) (v := .agg [vs x0.Name, a4, a7, a0, a2, a5, a3, a1, a6, a8]) e1 rfl rfl rfl rfl (fun e3 b3 => ?_)
   replace b3 : Mem e3 [⟨.op d8 d6 0, 151, 10, [.agg [vs x0.Name, a4, a7, a0, a2, a5, a3, a1, a6, a8]]⟩, ⟨.op d3 d0 0, 97, 3, [c4]⟩] := b3
   refine nS (am (sR (ae (bz rfl) ?_)))
   obtain ⟨f2, d5, c9⟩ := bp.g_Body a9
   refine ae (dj (k := 1) b3 rfl rfl d5) (ae (cv rfl (ci c9 Tryz.underlying95 _)) (mI rfl (nS (bm ?_))))
   have e4 : cz.t.R ({ scope := ({ Program := x0, Params := (ix x0.Actions x1).Params } : bc) } : cz) (.agg [vs x0.Name, a4, a7, a0, a2, a5, a3, a1, a6, a8]) := ⟨a4, a7, a0, a2, a5, a3, a1, a6, a8, rfl, b6, b8, b5, b7, b9, b2, b1, b4, c8⟩
   refine wC (xm c1 c0 c2 c9 e4 ?_  rfl (by omega) (Mem.sub b3 (.cons_cons _ (.cons _ .slnil))) s) rfl
   ·intro f3 f6 s
    refine gm (aq (sR (mI rfl (mI rfl (nS ?_)))))
    exact rT s rfl rfl rfl rfl rfl

def RF114 (res : Bool) (r : PV) : Prop := r = vb res
theorem cu3 {x0 : BitVec 32} {x1 : Int} : FnR Tryz.prog 114 [bh x0, vi x1] (vb (uy x0 x1)) := by
 refine fnS (R := RF114) bi3 (fun _ h => h) rfl fun res s => ?_
 unfold uy at s
 refine sR (mB rfl (nR (mV rfl (ae (v := .fs true [vi x1]) (kt rfl (all_cons rfl nn)) ?_))))
 have a4 : (tSl tI).R ([x1] : List Int) (.fs true [vi x1]) := vj ⟨rfl, trivial⟩ (by simp)
 obtain ⟨a2, a3, s⟩ := bt s
 have a1 := ad7  a4 
 rw [a3] at a1
 refine cL a1 rfl rfl (ai (TR.clo (tSl tI) a4) bf) (mV rfl ?_)
 refine cq 5 (d := 13) (v := vb (a2 && (decide (x0 ≤ (ck x1))))) ?_ ?_
 ·intro S Q r
  cases a5 : a2
  ·exact gN 4 rfl rfl rfl rfl rfl rfl
  ·intro k
   have a0 := a5
   try simp only [qa] at a0
   refine ah rfl rfl (av rfl) (ah rfl rfl (av rfl) ?_)
   have a6 := ky (x0 := x1)  
   refine ld rfl rfl (ru rfl rfl (ai rfl bf) a6) (ah rfl rfl (bq (a := bh x0) (b := bh (ck x1)) rfl rfl dv6) ?_)
   exact gK rfl rfl rfl rfl rfl k
 refine mV rfl (nS ?_)
 exact rR s rfl rfl rfl

def RF41 (res : Int) (r : PV) : Prop := r = vi res
theorem tp {S : List Fr} {res : Int} {x0 : ab} {x1 : bn} {a3 a5 : PV} (b0 : ((decide (x1.Action < 0)) || (decide ((x0.Actions.length : Int) ≤ x1.Action))) = false) (b2 : (tSl ax.t).R ((ix x0.Actions x1.Action).Params) a3) (a4 : (!decide ((x1.Args.length : Int) = (((ix x0.Actions x1.Action).Params).length : Int))) = false) (a6 : (tSl dn).R x1.Args a5) {K0 : Unit → Int}
  (b7 : K0 () = res → PX Tryz.prog 0 S (QR Tryz.prog [(4, none)] (RF41 res)) [] ⟨0, []⟩) :
  ∀ {m : Nat} {a0 : Int} (b4 : m = Int.toNat ((x1.Args.length : Int) - a0)) (a8 : 0 ≤ a0), lx x0 x1 K0 m a0 = res → RC Tryz.prog (.loop ck2) S (QR Tryz.prog [(4, none)] (RF41 res)) [(35, vi a0), (34, vi (x1.Args.length : Int)), (33, a5), (5, a3)] ⟨0, []⟩ := by
 have a1 := b0
 try simp only [qa] at a1
 have a2 := a4
 try simp only [qa] at a2
 intro m
 induction m with
 | zero =>
  intro a0 b4 a8 s
  rw [lx] at s
  refine co (sR (bN cw rfl rfl (nS (am ?_))))
  refine cd rfl ?_ ?_ <;> intro c <;> try simp only [qa] at c
  ·omega
  refine fj (gg (dw ?_))
  exact wP (b7  s) rfl
 | succ m ih =>
  intro a0 b4 a8 s
  rw [lx] at s
  refine co (sR (bN cw rfl rfl (nS (am ?_))))
  refine cd rfl ?_ ?_ <;> intro c <;> try simp only [qa] at c
  rotate_left
  ·omega
  refine az (aq (am (bm (sR (mV rfl (ae (bg rfl rfl (uj a6 (by omega) (by omega))) (lR rfl rfl rfl (mV rfl ?_))))))))
  refine mV rfl (nR (mV rfl (mV rfl (mV rfl ?_))))
  obtain ⟨b6, b3, b1⟩ := dq (i := a0) b2 (by omega) (by omega)
  refine ae (bg rfl rfl b3) (fL rfl (ax.g_Width b1) rfl rfl ?_)
  obtain ⟨b5, a9, s⟩ := bt s
  have a7 := cu3 (x0 := (ix x1.Args a0)) (x1 := (ix ((ix x0.Actions x1.Action).Params) a0).Width)  
  rw [a9] at a7
  refine cL a7 rfl rfl (ai rfl (ai rfl bf)) (ae (ju rfl) (nS ?_))
  refine cg s rfl ?_ ?_ <;> clear s <;> intro c s <;> try simp only [qa] at c
  ·refine sR (mI rfl (nS ?_))
   exact rR s rfl rfl rfl
  ·refine az (de (aq (ay (bN gv rfl rfl (mV rfl (br (di ?_)))))))
   have hbd := en a6
   have hinc : wr (a0 + 1) = a0 + 1 := ee (by omega) (by omega)
   erw [hinc]
   exact wC (ih   (by omega) (by omega) s) rfl

theorem dg4 {x0 : ab} {x1 : bn} {v0 v1 : PV} (r0 : ab.t.R x0 v0) (r1 : bn.t.R x1 v1) : FnR Tryz.prog 41 [v0, v1] (vi (fy x0 x1)) := by
 refine fnS (R := RF41) ce1 (fun _ h => h) rfl fun res s => ?_
 unfold fy at s
 refine sR (ae (dm rfl (TR.cnt ab.t r0)) (ae (dm rfl (TR.cnt bn.t r1)) (mI rfl (nS (am (sR (fL rfl (bn.g_Action r1) rfl rfl (bN cw rfl rfl ?_))))))))
 refine mV rfl ?_
 refine cq 7 (d := 18) (v := vb ((decide (x1.Action < 0)) || (decide ((x0.Actions.length : Int) ≤ x1.Action)))) ?_ ?_
 ·intro S Q r
  cases a7 : (decide (x1.Action < 0))
  ·intro k
   have a5 := a7
   try simp only [qa] at a5
   refine ah rfl rfl (bw rfl (bn.g_Action r1)) (ah rfl rfl (bv rfl rfl rfl) ?_)
   obtain ⟨b9, b3, a4⟩ := ab.g_Actions r0
   refine ah rfl rfl (bw rfl b3) (ah rfl rfl (bv rfl (TR.cnt (tSl bp.t) a4) (TR.agg (tSl bp.t) a4)) (ah rfl rfl (cv rfl (ci a4 Tryz.underlying25 _)) (ah rfl rfl (bq rfl rfl mo) ?_)))
   exact gK rfl rfl rfl rfl rfl k
  ·exact gN 6 rfl rfl rfl rfl rfl rfl
 refine nS ?_
 refine cg s rfl ?_ ?_ <;> clear s <;> intro a1 s <;> have a2 := a1 <;> try simp only [qa] at a2
 ·refine sR (mI rfl (nS ?_))
  exact rR s rfl rfl rfl
 ·refine az (aq (sR (gL (ab.g_Actions r0) rfl rfl rfl fun b5 b2 => (fL rfl (bn.g_Action r1) rfl rfl ?_))))
  obtain ⟨b6, b1, a9⟩ := dq (i := x1.Action) b2 (by omega) (by omega)
  refine ae (bg rfl rfl b1) (gL (bp.g_Params a9) rfl rfl rfl fun b4 a8 => (mV rfl (nS (am (sR (gL (bn.g_Args r1) rfl rfl rfl fun b7 b0 => (ae (cv rfl (ci b0 Tryz.underlying43 _)) (mV rfl ?_))))))))
  refine ae (cv rfl (ci a8 Tryz.underlying23 _)) (bN mi rfl rfl (nS ?_))
  refine cg s rfl ?_ ?_ <;> clear s <;> intro a0 s <;> have a3 := a0 <;> try simp only [qa] at a3
  ·refine sR (mI rfl (nS ?_))
   exact rR s rfl rfl rfl
  ·refine az (aq (am (sR (gL (bn.g_Args r1) rfl rfl rfl fun b8 a6 => (ae (cv rfl (ci a6 Tryz.underlying43 _)) (mI rfl (nS (bm ?_))))))))
   refine wC (tp a1 a8 a0 a6 ?_  rfl (by omega) s) rfl
   ·intro  s
    refine gm (aq (sR (mI rfl (nS ?_))))
    exact rR s rfl rfl rfl

def RF294 (res : (BitVec 32)) (r : PV) : Prop := r = bh res
theorem ch0 {x0 : au} {x1 : aa} {v0 v1 : PV} (r0 : au.t.R x0 v0) (r1 : aa.t.R x1 v1) : FnR Tryz.prog 294 [v0, v1] (bh (ao6 x0 x1)) := by
 refine fnS (R := RF294) bd4 (fun _ h => h) rfl fun res s => ?_
 unfold ao6 at s
 refine sR (ae (dm rfl (TR.cnt au.t r0)) (ae (dm rfl (TR.cnt aa.t r1)) (ae (v := bh 0#32) (av rfl) (nR (lD r0 rfl rfl rfl (lD r1 rfl rfl rfl ?_))))))
 obtain ⟨a4, a0, s⟩ := bt s
 obtain ⟨a3, a2, a1⟩ := cq2  r0 r1 
 rw [a0] at a2 a1
 refine cL a2 rfl rfl (ai (TR.clo au.t r0) (ai (TR.clo aa.t r1) bf)) (mV rfl (xT rfl rfl (xT rfl rfl (mV rfl (mV rfl (nS (am (sR ?_))))))))
 refine mV rfl (ae (ju rfl) (nS ?_))
 refine cg s rfl ?_ ?_ <;> clear s <;> intro c s <;> try simp only [qa] at c
 ·refine sR (ae (v := bh 0#32) (av rfl) (nS ?_))
  exact rR s rfl rfl rfl
 ·refine az (aq (sR (mV rfl (fL rfl (aa.g_Field r1) rfl rfl (ae (bg rfl rfl (uj a1 (by first | omega | exact (bj0 (by assumption) (by assumption)).1 | exact (bj0 (by assumption) (by assumption)).2) (by first | omega | exact (bj0 (by assumption) (by assumption)).1 | exact (bj0 (by assumption) (by assumption)).2))) (lR rfl rfl rfl (mV rfl (nS ?_))))))))
  exact rR s rfl rfl rfl

def RF289 (i0_ w0_ : Nat) (R_ : List Ent) (res : aj × ba) (r : PV) (h : Heap) : Prop := ∃ uF0 : PV, ∃ c0_ : PV, Mem h (⟨.op i0_ w0_ 0, 299, 17, [uF0]⟩ :: R_) ∧ (ba.t.R res.2 uF0) ∧ r = c0_ ∧ aj.t.R res.1 c0_
theorem cs0 {x0 : ba} {x1 : af} {v1 a5 : PV} {R_ : List Ent} {h_ : Heap} {b5 b4 : Nat} (r1 : af.t.R x1 v1) (a4 : ba.t.R x0 a5) (M_ : Mem h_ (⟨.op b5 b4 0, 299, 17, [a5]⟩ :: R_)) (hp : (fd x0.scope x1).2 = 0) : ∃ r h4, FnX Tryz.prog 289 [.op b5 b4 0, v1] h_ r h4 ∧ RF289 b5 b4 R_ (lh x0 x1) r h4 := by
 refine fnXX (R := RF289 b5 b4 R_) bl9 rfl fun res s => ?_
 unfold lh at s
 refine sR (ae (dm rfl (TR.cnt af.t r1)) ?_)
 refine ej (x := .agg [bh 0#32, vi 0]) M_ rfl rfl (fun a2 a1 h7 a3 => ?_)
 refine nR (mV rfl (ae (cx rfl rfl) (ae (bz rfl) ?_)))
 obtain ⟨h6, h2, c4⟩ := ba.g_scope a4
 refine ae (dj (k := 1) a3 rfl rfl h2) (lD r1 rfl rfl rfl ?_)
 obtain ⟨a0, d6, s⟩ := bt s
 have e8 := bj5  c4 r1 
 rw [d6] at e8
 refine cL e8 rfl rfl (ai (TR.clo bc.t c4) (ai (TR.clo af.t r1) bf)) (mV rfl (xT rfl rfl (xT rfl rfl (mV rfl (mV rfl (nR (ae (v := bh 0#32) (av rfl) (nS ?_))))))))
 refine am (sR (fL rfl (af.g_Op r1) rfl rfl (nS (bm (sR (bN fi rfl rfl (mV rfl (nS ?_))))))))
 refine cg s rfl ?_ ?_ <;> clear s <;> intro c s <;> try simp only [qa] at c
 ·refine ay (fL rfl (af.g_N r1) rfl rfl (ae (ue (a := vi x1.N) rfl (c_iw Tryz.underlying3 Tryz.underlying89)) (mV rfl (br (de (aq (sR (mV rfl ?_))))))))
  refine mV rfl ?_
  obtain ⟨b1, c8, s⟩ := bt s
  have e6 := ky (x0 := a0.1)  
  rw [c8] at e6
  refine cL e6 rfl rfl (ai rfl bf) (ae (bq (a := bh (BitVec.ofInt 32 x1.N)) (b := bh b1) rfl rfl qd) (mV rfl (ae (v := .agg [bh ((BitVec.ofInt 32 x1.N) &&& b1), vi a0.1]) (fk (cs := [bh ((BitVec.ofInt 32 x1.N) &&& b1), vi a0.1]) rfl rfl) ?_)))
  refine ct (k := 0) (v := .agg [bh ((BitVec.ofInt 32 x1.N) &&& b1), vi a0.1]) a3 rfl rfl rfl rfl (fun e2 b7 => ?_)
  replace b7 : Mem e2 (⟨.op a2 a1 0, 301, 2, [.agg [bh ((BitVec.ofInt 32 x1.N) &&& b1), vi a0.1]]⟩ :: ⟨.op b5 b4 0, 299, 17, [a5]⟩ :: R_) := b7
  refine nS ?_
  have f2 : Mem e2 (⟨.op b5 b4 0, 299, 17, [a5]⟩ :: ⟨.op a2 a1 0, 301, 2, [.agg [bh ((BitVec.ofInt 32 x1.N) &&& b1), vi a0.1]]⟩ :: R_) := (Mem.front (k := 1) b7 rfl)
  subst s
  exact iy (.cell rfl (dg (k := 0) b7 rfl rfl) .nil) ⟨a5, (.agg [bh ((BitVec.ofInt 32 x1.N) &&& b1), vi a0.1]), Mem.sub f2 (.cons_cons _ (.cons _ (List.Sublist.refl R_))), a4, rfl, (show aj.t.R ({ v := ((BitVec.ofInt 32 x1.N) &&& b1), w := a0.1 } : aj) (.agg [bh ((BitVec.ofInt 32 x1.N) &&& b1), vi a0.1]) from rfl)⟩
 ·refine sR (bN fi rfl rfl (mV rfl (nS ?_)))
  refine cg s rfl ?_ ?_ <;> clear s <;> intro c s <;> try simp only [qa] at c
  ·refine ay (mV rfl (ae (cx rfl rfl) (ae (bz rfl) ?_)))
   obtain ⟨h9, g7, f4⟩ := ba.g_env a4
   refine ae (dj (k := 1) a3 rfl rfl g7) (fL rfl (af.g_N r1) rfl rfl (fL rfl (af.g_W r1) rfl rfl (ae (v := .agg [vi x1.N, vi x1.W]) (fk (cs := [vi x1.N, vi x1.W]) rfl rfl) ?_)))
   obtain ⟨a9, f9, s⟩ := bt s
   have d9 := ch0  f4 (show aa.t.R ({ Header := x1.N, Field := x1.W } : aa) (.agg [vi x1.N, vi x1.W]) from rfl) 
   rw [f9] at d9
   refine cL d9 rfl rfl (ai (TR.clo au.t f4) (ai (TR.clo aa.t (show aa.t.R ({ Header := x1.N, Field := x1.W } : aa) (.agg [vi x1.N, vi x1.W]) from rfl)) bf)) (mV rfl (br (de (aq (sR (mV rfl (mV rfl ?_)))))))
   obtain ⟨b2, c9, s⟩ := bt s
   have d5 := ky (x0 := a0.1)  
   rw [c9] at d5
   refine cL d5 rfl rfl (ai rfl bf) (ae (bq (a := bh a9) (b := bh b2) rfl rfl qd) (mV rfl (ae (v := .agg [bh (a9 &&& b2), vi a0.1]) (fk (cs := [bh (a9 &&& b2), vi a0.1]) rfl rfl) ?_)))
   refine ct (k := 0) (v := .agg [bh (a9 &&& b2), vi a0.1]) a3 rfl rfl rfl rfl (fun d3 b6 => ?_)
   replace b6 : Mem d3 (⟨.op a2 a1 0, 301, 2, [.agg [bh (a9 &&& b2), vi a0.1]]⟩ :: ⟨.op b5 b4 0, 299, 17, [a5]⟩ :: R_) := b6
   refine nS ?_
   have f8 : Mem d3 (⟨.op b5 b4 0, 299, 17, [a5]⟩ :: ⟨.op a2 a1 0, 301, 2, [.agg [bh (a9 &&& b2), vi a0.1]]⟩ :: R_) := (Mem.front (k := 1) b6 rfl)
   subst s
   exact iy (.cell rfl (dg (k := 0) b6 rfl rfl) .nil) ⟨a5, (.agg [bh (a9 &&& b2), vi a0.1]), Mem.sub f8 (.cons_cons _ (.cons _ (List.Sublist.refl R_))), a4, rfl, (show aj.t.R ({ v := (a9 &&& b2), w := a0.1 } : aj) (.agg [bh (a9 &&& b2), vi a0.1]) from rfl)⟩
  ·refine sR (bN fi rfl rfl (mV rfl (nS ?_)))
   refine cg s rfl ?_ ?_ <;> clear s <;> intro c s <;> try simp only [qa] at c
   ·refine sR (fL rfl (af.g_N r1) rfl rfl (mV rfl (ae (cx rfl rfl) (ae (bz rfl) ?_))))
    obtain ⟨i2, g5, g3⟩ := ba.g_args a4
    refine ae (dj (k := 1) a3 rfl rfl g5) (ae (cv rfl (ci g3 Tryz.underlying43 _)) (bN cw rfl rfl (nS ?_)))
    refine cg s rfl ?_ ?_ <;> clear s <;> intro c s <;> try simp only [qa] at c
    ·refine ay (mV rfl (ae (cx rfl rfl) (ae (bz rfl) ?_)))
     obtain ⟨h5, g0, h1⟩ := ba.g_args a4
     refine ae (dj (k := 1) a3 rfl rfl g0) (fL rfl (af.g_N r1) rfl rfl (ae (bg rfl rfl (uj h1 (by first | omega | (have hk := pr3 hp (by assumption); omega) | (have hk := pr4 hp (by assumption); omega)) (by first | omega | (have hk := pr3 hp (by assumption); omega) | (have hk := pr4 hp (by assumption); omega)))) (lR rfl rfl rfl (mV rfl (br (de (aq (sR ?_))))))))
     refine mV rfl (mV rfl ?_)
     obtain ⟨a8, f5, s⟩ := bt s
     have d2 := ky (x0 := a0.1)  
     rw [f5] at d2
     refine cL d2 rfl rfl (ai rfl bf) (ae (bq (a := bh (ix x0.args x1.N)) (b := bh a8) rfl rfl qd) (mV rfl (ae (v := .agg [bh ((ix x0.args x1.N) &&& a8), vi a0.1]) (fk (cs := [bh ((ix x0.args x1.N) &&& a8), vi a0.1]) rfl rfl) ?_)))
     refine ct (k := 0) (v := .agg [bh ((ix x0.args x1.N) &&& a8), vi a0.1]) a3 rfl rfl rfl rfl (fun e1 b9 => ?_)
     replace b9 : Mem e1 (⟨.op a2 a1 0, 301, 2, [.agg [bh ((ix x0.args x1.N) &&& a8), vi a0.1]]⟩ :: ⟨.op b5 b4 0, 299, 17, [a5]⟩ :: R_) := b9
     refine nS ?_
     have d0 : Mem e1 (⟨.op b5 b4 0, 299, 17, [a5]⟩ :: ⟨.op a2 a1 0, 301, 2, [.agg [bh ((ix x0.args x1.N) &&& a8), vi a0.1]]⟩ :: R_) := (Mem.front (k := 1) b9 rfl)
     subst s
     exact iy (.cell rfl (dg (k := 0) b9 rfl rfl) .nil) ⟨a5, (.agg [bh ((ix x0.args x1.N) &&& a8), vi a0.1]), Mem.sub d0 (.cons_cons _ (.cons _ (List.Sublist.refl R_))), a4, rfl, (show aj.t.R ({ v := ((ix x0.args x1.N) &&& a8), w := a0.1 } : aj) (.agg [bh ((ix x0.args x1.N) &&& a8), vi a0.1]) from rfl)⟩
    ·refine az (de (aq (sR (mV rfl (mV rfl ?_)))))
     obtain ⟨b3, d1, s⟩ := bt s
     have d4 := ky (x0 := a0.1)  
     rw [d1] at d4
     refine cL d4 rfl rfl (ai rfl bf) (ae (bq (a := bh 0#32) (b := bh b3) rfl rfl qd) (mV rfl (ae (v := .agg [bh (0#32 &&& b3), vi a0.1]) (fk (cs := [bh (0#32 &&& b3), vi a0.1]) rfl rfl) ?_)))
     refine ct (k := 0) (v := .agg [bh (0#32 &&& b3), vi a0.1]) a3 rfl rfl rfl rfl (fun e5 c1 => ?_)
     replace c1 : Mem e5 (⟨.op a2 a1 0, 301, 2, [.agg [bh (0#32 &&& b3), vi a0.1]]⟩ :: ⟨.op b5 b4 0, 299, 17, [a5]⟩ :: R_) := c1
     refine nS ?_
     have f7 : Mem e5 (⟨.op b5 b4 0, 299, 17, [a5]⟩ :: ⟨.op a2 a1 0, 301, 2, [.agg [bh (0#32 &&& b3), vi a0.1]]⟩ :: R_) := (Mem.front (k := 1) c1 rfl)
     subst s
     exact iy (.cell rfl (dg (k := 0) c1 rfl rfl) .nil) ⟨a5, (.agg [bh (0#32 &&& b3), vi a0.1]), Mem.sub f7 (.cons_cons _ (.cons _ (List.Sublist.refl R_))), a4, rfl, (show aj.t.R ({ v := (0#32 &&& b3), w := a0.1 } : aj) (.agg [bh (0#32 &&& b3), vi a0.1]) from rfl)⟩
   ·refine sR (bN fi rfl rfl (mV rfl (nS ?_)))
    refine cg s rfl ?_ ?_ <;> clear s <;> intro c s <;> try simp only [qa] at c
    ·refine sR (fL rfl (af.g_N r1) rfl rfl (mV rfl (ae (cx rfl rfl) (ae (bz rfl) (ae (bz rfl) ?_)))))
     obtain ⟨i3, g8, g1⟩ := ba.g_env a4
     obtain ⟨h8, h3, g9⟩ := au.g_Valid g1
     refine ae (dj (k := 1) a3 rfl rfl (nl g8 h3)) (ae (cv rfl (ci g9 Tryz.underlying41 _)) (bN cw rfl rfl (mV rfl ?_)))
     refine cq 10 (d := 75) (v := vb ((decide (x1.N < (x0.env.Valid.length : Int))) && (ix x0.env.Valid x1.N))) ?_ ?_
     ·intro S Q r
      cases c6 : (decide (x1.N < (x0.env.Valid.length : Int)))
      ·exact gN 9 rfl rfl rfl rfl rfl rfl
      ·intro k
       have c3 := c6
       try simp only [qa] at c3
       refine ah rfl rfl (av rfl) (ah rfl rfl (cx rfl rfl) (ah rfl rfl (bz rfl) (ah rfl rfl (bz rfl) ?_)))
       obtain ⟨i0, g6, g4⟩ := ba.g_env a4
       obtain ⟨i1, h0, g2⟩ := au.g_Valid g4
       refine ah rfl rfl (dj (k := 1) a3 rfl rfl (nl g6 h0)) (ah rfl rfl (bw rfl (af.g_N r1)) (ah rfl rfl (bv rfl rfl rfl) (ah rfl rfl (bg rfl rfl (slB g2 (by first | omega | (have hk := pr3 hp (by assumption); omega) | (have hk := pr4 hp (by assumption); omega)) (by first | omega | (have hk := pr3 hp (by assumption); omega) | (have hk := pr4 hp (by assumption); omega)))) (ah rfl rfl (bv rfl rfl rfl) ?_))))
       exact gK rfl rfl rfl rfl rfl k
     refine nS ?_
     refine cg s rfl ?_ ?_ <;> clear s <;> intro c s <;> try simp only [qa] at c
     ·refine ay (ae (v := bh 1#32) (av rfl) (br (de (aq (sR (mV rfl (mV rfl ?_)))))))
      obtain ⟨a6, e7, s⟩ := bt s
      have e9 := ky (x0 := a0.1)  
      rw [e7] at e9
      refine cL e9 rfl rfl (ai rfl bf) (ae (bq (a := bh 1#32) (b := bh a6) rfl rfl qd) (mV rfl (ae (v := .agg [bh (1#32 &&& a6), vi a0.1]) (fk (cs := [bh (1#32 &&& a6), vi a0.1]) rfl rfl) ?_)))
      refine ct (k := 0) (v := .agg [bh (1#32 &&& a6), vi a0.1]) a3 rfl rfl rfl rfl (fun e4 c0 => ?_)
      replace c0 : Mem e4 (⟨.op a2 a1 0, 301, 2, [.agg [bh (1#32 &&& a6), vi a0.1]]⟩ :: ⟨.op b5 b4 0, 299, 17, [a5]⟩ :: R_) := c0
      refine nS ?_
      have d7 : Mem e4 (⟨.op b5 b4 0, 299, 17, [a5]⟩ :: ⟨.op a2 a1 0, 301, 2, [.agg [bh (1#32 &&& a6), vi a0.1]]⟩ :: R_) := (Mem.front (k := 1) c0 rfl)
      subst s
      exact iy (.cell rfl (dg (k := 0) c0 rfl rfl) .nil) ⟨a5, (.agg [bh (1#32 &&& a6), vi a0.1]), Mem.sub d7 (.cons_cons _ (.cons _ (List.Sublist.refl R_))), a4, rfl, (show aj.t.R ({ v := (1#32 &&& a6), w := a0.1 } : aj) (.agg [bh (1#32 &&& a6), vi a0.1]) from rfl)⟩
     ·refine az (de (aq (sR (mV rfl (mV rfl ?_)))))
      obtain ⟨b0, f3, s⟩ := bt s
      have c7 := ky (x0 := a0.1)  
      rw [f3] at c7
      refine cL c7 rfl rfl (ai rfl bf) (ae (bq (a := bh 0#32) (b := bh b0) rfl rfl qd) (mV rfl (ae (v := .agg [bh (0#32 &&& b0), vi a0.1]) (fk (cs := [bh (0#32 &&& b0), vi a0.1]) rfl rfl) ?_)))
      refine ct (k := 0) (v := .agg [bh (0#32 &&& b0), vi a0.1]) a3 rfl rfl rfl rfl (fun f6 c2 => ?_)
      replace c2 : Mem f6 (⟨.op a2 a1 0, 301, 2, [.agg [bh (0#32 &&& b0), vi a0.1]]⟩ :: ⟨.op b5 b4 0, 299, 17, [a5]⟩ :: R_) := c2
      refine nS ?_
      have f1 : Mem f6 (⟨.op b5 b4 0, 299, 17, [a5]⟩ :: ⟨.op a2 a1 0, 301, 2, [.agg [bh (0#32 &&& b0), vi a0.1]]⟩ :: R_) := (Mem.front (k := 1) c2 rfl)
      subst s
      exact iy (.cell rfl (dg (k := 0) c2 rfl rfl) .nil) ⟨a5, (.agg [bh (0#32 &&& b0), vi a0.1]), Mem.sub f1 (.cons_cons _ (.cons _ (List.Sublist.refl R_))), a4, rfl, (show aj.t.R ({ v := (0#32 &&& b0), w := a0.1 } : aj) (.agg [bh (0#32 &&& b0), vi a0.1]) from rfl)⟩
    ·refine az (de (aq (sR (mV rfl (mV rfl ?_)))))
     obtain ⟨a7, f0, s⟩ := bt s
     have d8 := ky (x0 := a0.1)  
     rw [f0] at d8
     refine cL d8 rfl rfl (ai rfl bf) (ae (bq (a := bh 0#32) (b := bh a7) rfl rfl qd) (mV rfl (ae (v := .agg [bh (0#32 &&& a7), vi a0.1]) (fk (cs := [bh (0#32 &&& a7), vi a0.1]) rfl rfl) ?_)))
     refine ct (k := 0) (v := .agg [bh (0#32 &&& a7), vi a0.1]) a3 rfl rfl rfl rfl (fun c5 b8 => ?_)
     replace b8 : Mem c5 (⟨.op a2 a1 0, 301, 2, [.agg [bh (0#32 &&& a7), vi a0.1]]⟩ :: ⟨.op b5 b4 0, 299, 17, [a5]⟩ :: R_) := b8
     refine nS ?_
     have e3 : Mem c5 (⟨.op b5 b4 0, 299, 17, [a5]⟩ :: ⟨.op a2 a1 0, 301, 2, [.agg [bh (0#32 &&& a7), vi a0.1]]⟩ :: R_) := (Mem.front (k := 1) b8 rfl)
     subst s
     exact iy (.cell rfl (dg (k := 0) b8 rfl rfl) .nil) ⟨a5, (.agg [bh (0#32 &&& a7), vi a0.1]), Mem.sub e3 (.cons_cons _ (.cons _ (List.Sublist.refl R_))), a4, rfl, (show aj.t.R ({ v := (0#32 &&& a7), w := a0.1 } : aj) (.agg [bh (0#32 &&& a7), vi a0.1]) from rfl)⟩

end Go.Proofs.YtmonnlkagniolaaGreat
