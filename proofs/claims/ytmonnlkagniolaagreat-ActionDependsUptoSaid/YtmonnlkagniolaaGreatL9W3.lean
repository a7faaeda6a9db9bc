/-
 The code of each function does what its plain program says.
-/
import Derived.Test.YtmonnlkagniolaaGreatL9W2
set_option linter.unusedVariables false
set_option linter.unusedSimpArgs false
set_option maxRecDepth 100000
namespace Go.Proofs.YtmonnlkagniolaaGreat
open Go Go.Pb Go.RowKit
def RF174 (res : Int × Int) (r : PV) : Prop := r = .tup [vi res.1, vi res.2]
theorem ap0 {x0 : List af} {x1 : bd} {v0 v1 : PV} (r0 : (tSl af.t).R x0 v0) (r1 : bd.t.R x1 v1) : FnR Tryz.prog 174 [v0, v1] (.tup [vi ((mu x0 x1).1), vi ((mu x0 x1).2)]) := by
 refine fnS (R := RF174) bi2 (fun _ h => h) rfl fun res s => ?_
 unfold mu at s
 refine sR (ab (dq rfl (TR.cnt bd.t r1)) (mI rfl (mI rfl (nS (aq (sR (mV rfl (ab (cy rfl (cm r0 Tryz.underlying32 _)) ?_))))))))
 refine bN nu rfl rfl (nS ?_)
 refine ci s rfl ?_ ?_ <;> clear s <;> intro c s <;> try simp only [qa] at c
 ·refine sR (mI rfl (mI rfl (nS ?_)))
  exact rT s rfl rfl rfl rfl rfl
 ·refine bb (am (sR (lD r1 rfl rfl rfl (mV rfl ?_))))
  obtain ⟨a2, a0, s⟩ := bn s
  have a1 := cp0 (x2 := 0) r1 r0 (by omega) (by omega)
  rw [a0] at a1
  refine cL a1 rfl rfl (ai (TR.clo bd.t r1) (ai (TR.clo (tSl af.t) r0) (ai rfl bg))) (mV rfl (xT rfl rfl (xT rfl rfl (xT rfl rfl (mV rfl (mV rfl (mV rfl (nS ?_))))))))
  refine aq (br (sR (mV rfl (bN mw rfl rfl (mV rfl (nS ?_))))))
  refine ci s rfl ?_ ?_ <;> clear s <;> intro c s <;> try simp only [qa] at c
  ·refine sR (mV rfl (mI rfl (mV rfl (nS ?_))))
   exact rT s rfl rfl rfl rfl rfl
  ·refine sR (mV rfl (mV rfl (ab (cy rfl (cm r0 Tryz.underlying32 _)) (bN cz rfl rfl (mV rfl (nS ?_))))))
   refine ci s rfl ?_ ?_ <;> clear s <;> intro c s <;> try simp only [qa] at c
   ·refine sR (mI rfl (mI rfl (nS ?_)))
    exact rT s rfl rfl rfl rfl rfl
   ·refine bb (de (am (sR (mV rfl (mV rfl (mI rfl (nS ?_)))))))
    exact rT s rfl rfl rfl rfl rfl

def RF173 (res : Int) (r : PV) : Prop := r = vi res
theorem bj2 {x0 : da} {x1 : List af} {x2 : Int} {v0 v1 : PV} (r0 : da.t.R x0 v0) (r1 : (tSl af.t).R x1 v1) : FnR Tryz.prog 173 [v0, v1, vi x2] (vi (jr x0 x1 x2)) := by
 refine fnS (R := RF173) bb6 (fun _ h => h) rfl fun res s => ?_
 unfold jr at s
 refine sR (ab (dq rfl (TR.cnt da.t r0)) (mI rfl (nR (mV rfl ?_))))
 obtain ⟨a7, a6, a1⟩ := da.g_scope r0
 refine fA rfl a6 (lD a1 rfl rfl rfl ?_)
 obtain ⟨a2, a3, s⟩ := bn s
 have a5 := ap0  r1 a1 
 rw [a3] at a5
 refine cL a5 rfl rfl (ai (TR.clo (tSl af.t) r1) (ai (TR.clo bd.t a1) bg)) (mV rfl (xT rfl rfl (xT rfl rfl (mV rfl (mV rfl (nS (aq (sR ?_))))))))
 refine mV rfl (bN fe rfl rfl (mV rfl ?_))
 refine cn 4 (d := 22) (v := vb ((decide (a2.2 = 0)) && (!decide (a2.1 = x2)))) ?_ ?_
 ·intro S Q r
  cases a4 : (decide (a2.2 = 0))
  ·exact gN 3 rfl rfl rfl rfl rfl rfl
  ·intro k
   have a0 := a4
   try simp only [qa] at a0
   refine ah rfl rfl (au rfl) (ah rfl rfl (au rfl) (ah rfl rfl (bz rfl rfl mw) ?_))
   exact gK rfl rfl rfl rfl rfl k
 refine nS ?_
 refine ci s rfl ?_ ?_ <;> clear s <;> intro c s <;> try simp only [qa] at c
 ·refine sR (mI rfl (nS ?_))
  exact rR s rfl rfl rfl
 ·refine bb (am (sR (mV rfl (mV rfl (nS ?_)))))
  exact rR s rfl rfl rfl

def RF104 (res : Int) (r : PV) : Prop := r = vi res
theorem cq0 {x0 : da} {x1 : ak} {v0 v1 : PV} (r0 : da.t.R x0 v0) (r1 : ak.t.R x1 v1) : FnR Tryz.prog 104 [v0, v1] (vi (en x0 x1)) := by
 refine fnS (R := RF104) bc3 (fun _ h => h) rfl fun res s => ?_
 unfold en at s
 refine sR (ab (dq rfl (TR.cnt da.t r0)) (ab (dq rfl (TR.cnt ak.t r1)) (mI rfl (nR ?_))))
 obtain ⟨f9, e9, f0⟩ := da.g_scope r0
 refine fA rfl e9 (gL (bd.g_Program f0) rfl rfl rfl fun b1 a3 => ?_)
 refine dz (x := .agg [vs [], nilS, nilS, nilS, nilS, nilS, nilS, nilS, nilS]) (Mem.nil ⟨0, []⟩) rfl rfl (fun a7 a6 g4 d6 => ?_)
 refine cw (k := 0) (v := b1) d6 rfl rfl rfl (TR.cnt ae.t a3) (fun e3 a5 => ?_)
 replace a5 : Mem e3 [⟨.op a7 a6 0, 31, 9, [b1]⟩] := a5
 refine nR (ab (iw (k := 0) a5 rfl rfl (TR.agg ae.t a3)) (gL (ak.g_Dst r1) rfl rfl rfl fun f8 c4 => ?_))
 obtain ⟨a2, d0, s⟩ := bn s
 have b7 := cg1  a3 c4 
 rw [d0] at b7
 refine cL b7 rfl rfl (ai (TR.clo ae.t a3) (ai (TR.clo aa.t c4) bg)) (mV rfl (xT rfl rfl (xT rfl rfl (mV rfl (mV rfl (nR (fL rfl (ak.g_Register r1) rfl rfl (bN mc rfl rfl ?_))))))))
 refine mV rfl ?_
 refine cn 7 (d := 31) (v := vb ((decide (0 ≤ x1.Register)) && (decide (x1.Register < (x0.scope.Program.Registers.length : Int))))) ?_ ?_
 ·intro S Q r
  cases c6 : (decide (0 ≤ x1.Register))
  ·exact gN 6 rfl rfl rfl rfl rfl rfl
  ·intro k
   have b3 := c6
   try simp only [qa] at b3
   refine ah rfl rfl (cd rfl (ak.g_Register r1)) (ah rfl rfl (ca rfl rfl rfl) (ah rfl rfl (bf rfl) ?_))
   obtain ⟨f5, d9, e2⟩ := ae.g_Registers a3
   refine ah rfl rfl (cg (k := 0) a5 rfl rfl d9) (ah rfl rfl (cy rfl (cm e2 Tryz.underlying24 _)) (ah rfl rfl (bz rfl rfl cz) ?_))
   exact gK rfl rfl rfl rfl rfl k
 refine mV rfl (nS (aq (sR (fL rfl (ak.g_Kind r1) rfl rfl (nS (br (sR (bN fe rfl rfl ?_))))))))
 refine mV rfl (nS ?_)
 refine ci s rfl ?_ ?_ <;> clear s <;> intro c s <;> try simp only [qa] at c
 ·refine aq (sR (mV rfl (ab (ks rfl) (nS ?_))))
  refine ci s rfl ?_ ?_ <;> clear s <;> intro c s <;> try simp only [qa] at c
  ·refine sR (mI rfl (nS ?_))
   exact rR s rfl rfl rfl
  ·refine bb (am (sR (lD r0 rfl rfl rfl (gL (ak.g_Value r1) rfl rfl rfl fun g2 c2 => (mV rfl ?_)))))
   obtain ⟨g9, d2, s⟩ := bn s
   have c0 := bj2 (x2 := a2.1) r0 c2 
   rw [d2] at c0
   refine cL c0 rfl rfl (ai (TR.clo da.t r0) (ai (TR.clo (tSl af.t) c2) (ai rfl bg))) (mV rfl (nS ?_))
   exact rR s rfl rfl rfl
 ·refine aq (sR (bN fe rfl rfl (mV rfl (nS ?_))))
  obtain ⟨f3, c8, s⟩ := bn s
  refine po (F := fun b S Q => ∀ (a1 : Bool) (a8 : Heap) (a4 : Mem a8 [⟨.op a7 a6 0, 31, 9, [b1]⟩]), f3 a1 = res → RC Tryz.prog b S Q [(43, vb a1), (33, vi x1.Kind), (8, vb ((decide (0 ≤ x1.Register)) && (decide (x1.Register < (x0.scope.Program.Registers.length : Int))))), (7, vb a2.2), (6, vi a2.1), (5, .op a7 a6 0), (3, .fp v1), (2, .fp v0)] a8) ?_ ?_
  ·intro a1 a8 a4 s
   rw [← c8] at s
   refine ci s rfl ?_ ?_ <;> clear s <;> intro c s <;> try simp only [qa] at c
   ·refine aq (sR (fL rfl (ak.g_Header r1) rfl rfl (bN cz rfl rfl (mV rfl ?_))))
    refine cn 7 (d := 56) (v := vb ((decide (x1.Header < 0)) || (decide ((x0.scope.Program.Headers.length : Int) ≤ x1.Header)))) ?_ ?_
    ·intro S Q r
     cases c9 : (decide (x1.Header < 0))
     ·intro k
      have b5 := c9
      try simp only [qa] at b5
      refine ah rfl rfl (cd rfl (ak.g_Header r1)) (ah rfl rfl (ca rfl rfl rfl) (ah rfl rfl (bf rfl) ?_))
      obtain ⟨g5, d7, e6⟩ := ae.g_Headers a3
      refine ah rfl rfl (cg (k := 0) a4 rfl rfl d7) (ah rfl rfl (cy rfl (cm e6 Tryz.underlying22 _)) (ah rfl rfl (bz rfl rfl mc) ?_))
      exact gK rfl rfl rfl rfl rfl k
     ·exact gN 6 rfl rfl rfl rfl rfl rfl
    refine nS ?_
    refine ci s rfl ?_ ?_ <;> clear s <;> intro c s <;> try simp only [qa] at c
    ·refine sR (mI rfl (nS ?_))
     exact rR s rfl rfl rfl
    ·refine bb (am (sR (mI rfl (nS ?_))))
     exact rR s rfl rfl rfl
   ·refine aq (sR (bN fe rfl rfl (mV rfl (nS ?_))))
    obtain ⟨d8, b9, s⟩ := bn s
    refine po (F := fun b S Q => ∀ (a0 : Bool) (a9 : Heap) (b0 : Mem a9 [⟨.op a7 a6 0, 31, 9, [b1]⟩]), d8 a0 = res → RC Tryz.prog b S Q [(57, vb a0), (8, vb ((decide (0 ≤ x1.Register)) && (decide (x1.Register < (x0.scope.Program.Registers.length : Int))))), (7, vb a2.2), (6, vi a2.1), (5, .op a7 a6 0), (3, .fp v1), (2, .fp v0)] a9) ?_ ?_
    ·intro a0 a9 b0 s
     rw [← b9] at s
     refine ci s rfl ?_ ?_ <;> clear s <;> intro c s <;> try simp only [qa] at c
     ·refine aq (sR (mV rfl (ab (ks rfl) (mV rfl ?_))))
      refine cn 8 (d := 70) (v := vb ((!((decide (0 ≤ x1.Register)) && (decide (x1.Register < (x0.scope.Program.Registers.length : Int))))) || ((decide (x1.Kind = 4)) && (!a2.2)))) ?_ ?_
      ·intro S Q r
       cases d3 : (!((decide (0 ≤ x1.Register)) && (decide (x1.Register < (x0.scope.Program.Registers.length : Int)))))
       ·intro k
        have b4 := d3
        try simp only [qa] at b4
        refine ah rfl rfl (cd rfl (ak.g_Kind r1)) (ah rfl rfl (ca rfl rfl rfl) (ah rfl rfl (bz rfl rfl fe) (ah rfl rfl (au rfl) ?_)))
        refine cn 3 (d := 69) (v := vb ((decide (x1.Kind = 4)) && (!a2.2))) ?_ ?_
        ·intro S Q r
         cases c1 : (decide (x1.Kind = 4))
         ·intro k
          refine qc rfl rfl (qc rfl rfl (ah (v := vb false) rfl rfl (qx rfl rfl rfl rfl) ?_))
          exact wD k rfl
         ·intro k
          have b2 := c1
          try simp only [qa] at b2
          refine ah rfl rfl (au rfl) (ah rfl rfl (ks rfl) (ah (v := vb (!a2.2)) rfl rfl (qx rfl rfl rfl rfl) ?_))
          exact wD k rfl
        exact gK rfl rfl rfl rfl rfl k
       ·exact gN 7 rfl rfl rfl rfl rfl rfl
      refine nS ?_
      refine ci s rfl ?_ ?_ <;> clear s <;> intro c s <;> try simp only [qa] at c
      ·refine sR (mI rfl (nS ?_))
       exact rR s rfl rfl rfl
      ·refine bb (am (aq (sR (gL (ak.g_Index r1) rfl rfl rfl fun f7 c7 => (gL (da.g_scope r0) rfl rfl rfl fun g8 c5 => ?_)))))
       obtain ⟨g0, d1, s⟩ := bn s
       have c3 := ap0  c7 c5 
       rw [d1] at c3
       refine cL c3 rfl rfl (ai (TR.clo (tSl af.t) c7) (ai (TR.clo bd.t c5) bg)) (mV rfl (xT rfl rfl (xT rfl rfl (mV rfl (mV rfl (nR (mV rfl (bN mw rfl rfl ?_))))))))
       refine nS ?_
       refine ci s rfl ?_ ?_ <;> clear s <;> intro c s <;> try simp only [qa] at c
       ·refine sR (mV rfl (mV rfl (nS ?_)))
        exact rR s rfl rfl rfl
       ·refine bb (am (aq (sR (fL rfl (ak.g_Kind r1) rfl rfl (bN fe rfl rfl (nS ?_))))))
        refine ci s rfl ?_ ?_ <;> clear s <;> intro c s <;> try simp only [qa] at c
        ·refine sR (lD r0 rfl rfl rfl (gL (ak.g_Value r1) rfl rfl rfl fun g3 d4 => (ab (bf rfl) ?_)))
         obtain ⟨g6, e4, e5⟩ := ae.g_Registers a3
         refine ab (cg (k := 0) b0 rfl rfl e4) (fL rfl (ak.g_Register r1) rfl rfl ?_)
         obtain ⟨g7, f2, e1⟩ := dt (i := x1.Register) e5 (by omega) (by omega)
         refine ab (bh rfl rfl f2) (fL rfl (cp.g_Width e1) rfl rfl ?_)
         obtain ⟨f6, b6, s⟩ := bn s
         have b8 := bj2 (x2 := (ix x0.scope.Program.Registers x1.Register).Width) r0 d4 
         rw [b6] at b8
         refine cL b8 rfl rfl (ai (TR.clo da.t r0) (ai (TR.clo (tSl af.t) d4) (ai rfl bg))) (mV rfl (nS ?_))
         exact rR s rfl rfl rfl
        ·refine bb (am (aq (sR (mV rfl (ab (bf rfl) ?_)))))
         obtain ⟨f4, f1, e8⟩ := ae.g_Registers a3
         refine ab (cg (k := 0) b0 rfl rfl f1) (fL rfl (ak.g_Register r1) rfl rfl ?_)
         obtain ⟨g1, e7, d5⟩ := dt (i := x1.Register) e8 (by omega) (by omega)
         refine ab (bh rfl rfl e7) (fL rfl (cp.g_Width d5) rfl rfl (bN mw rfl rfl (nS ?_)))
         refine ci s rfl ?_ ?_ <;> clear s <;> intro c s <;> try simp only [qa] at c
         ·refine sR (mI rfl (nS ?_))
          exact rR s rfl rfl rfl
         ·refine bb (am (sR (mI rfl (nS ?_))))
          exact rR s rfl rfl rfl
     ·refine bb (de (am (sR (mI rfl (nS ?_)))))
      exact rR s rfl rfl rfl
    ·intro J
     refine ci s rfl ?_ ?_ <;> clear s <;> intro c s <;> try simp only [qa] at c
     ·refine bb ?_
      refine am (wC (J _ _ (Mem.sub a4 (.cons_cons _ .slnil)) s) rfl)
     ·refine ax (bN fe rfl rfl (mV rfl (bp ?_)))
      refine am (wC (J _ _ (Mem.sub a4 (.cons_cons _ .slnil)) s) rfl)
  ·intro J
   refine ci s rfl ?_ ?_ <;> clear s <;> intro c s <;> try simp only [qa] at c
   ·refine bb ?_
    refine am (wC (J _ _ (Mem.sub a5 (.cons_cons _ .slnil)) s) rfl)
   ·refine ax (bN fe rfl rfl (mV rfl (bp ?_)))
    refine am (wC (J _ _ (Mem.sub a5 (.cons_cons _ .slnil)) s) rfl)

def RF35 (res : Int × Int) (r : PV) : Prop := r = .tup [vi res.1, vi res.2]
theorem xg {S : List Fr} {res : Int × Int} {x0 : ae} {x1 c5 : Int} {b1 a0 a7 a2 a3 a4 a5 a6 a1 b8 : PV} {b2 b3 : Nat} (c3 : ((decide (x1 < 0)) || (decide ((x0.Actions.length : Int) ≤ x1))) = false) (d1 : jy (ix x0.Actions x1) = c5) (b7 : (!decide (c5 = 0)) = false) (c2 : (tSl ak.t).R ((ix x0.Actions x1).Body) b8) (b6 : da.t.R ({ scope := ({ Program := x0, Params := (ix x0.Actions x1).Params } : bd) } : da) (.agg [vs x0.Name, a0, a7, a2, a3, a4, a5, a6, a1, b1])) {K0 : Unit → (Int × Int)}
  (d5 : ∀ {h : Heap} (M0 : Mem h [⟨.op b2 b3 0, 151, 10, [.agg [vs x0.Name, a0, a7, a2, a3, a4, a5, a6, a1, b1]]⟩]), K0 () = res → PX Tryz.prog 0 S (QR Tryz.prog [(4, none), (5, none)] (RF35 res)) [] h) :
  ∀ {m : Nat} {a8 : Int} (d2 : m = Int.toNat ((((ix x0.Actions x1).Body).length : Int) - a8)) (b9 : 0 ≤ a8) {h : Heap} (M0 : Mem h [⟨.op b2 b3 0, 151, 10, [.agg [vs x0.Name, a0, a7, a2, a3, a4, a5, a6, a1, b1]]⟩]), ig x0 x1 K0 m a8 = res → RC Tryz.prog (.loop cq9) S (QR Tryz.prog [(4, none), (5, none)] (RF35 res)) [(37, vi a8), (36, vi (((ix x0.Actions x1).Body).length : Int)), (35, b8), (7, .op b2 b3 0)] h := by
 have b4 := c3
 try simp only [qa] at b4
 have b5 := b7
 try simp only [qa] at b5
 intro m
 induction m with
 | zero =>
  intro a8 d2 b9 h M0 s
  rw [ig] at s
  refine ct (sR (bN cz rfl rfl (nS (aq ?_))))
  refine cj rfl ?_ ?_ <;> intro c <;> try simp only [qa] at c
  ·omega
  refine ft (gk (ej ?_))
  exact wP (d5 (Mem.sub M0 (.cons_cons _ .slnil)) s) rfl
 | succ m ih =>
  intro a8 d2 b9 h M0 s
  rw [ig] at s
  refine ct (sR (bN cz rfl rfl (nS (aq ?_))))
  refine cj rfl ?_ ?_ <;> intro c <;> try simp only [qa] at c
  rotate_left
  ·omega
  refine bb (am (aq (br (sR (mV rfl ?_)))))
  obtain ⟨c1, c9, b0⟩ := dt (i := a8) c2 (by omega) (by omega)
  refine ab (bh rfl rfl c9) (lD b0 rfl rfl rfl ?_)
  refine dz (x := .agg [vi 0, vi 0, vi 0, vi 0, vi 0, nilS, nilS]) M0 rfl rfl (fun c7 c6 d3 c8 => ?_)
  refine mV rfl ?_
  refine cw (k := 0) (v := c1) c8 rfl rfl rfl (TR.cnt ak.t b0) (fun d0 a9 => ?_)
  replace a9 : Mem d0 [⟨.op c7 c6 0, 135, 7, [c1]⟩, ⟨.op b2 b3 0, 151, 10, [.agg [vs x0.Name, a0, a7, a2, a3, a4, a5, a6, a1, b1]]⟩] := a9
  refine nR (ab (iw (k := 1) a9 rfl rfl (TR.agg da.t b6)) (ab (iw (k := 0) a9 rfl rfl (TR.agg ak.t b0)) ?_))
  obtain ⟨d4, c0, s⟩ := bn s
  have c4 := cq0  b6 b0 
  rw [c0] at c4
  refine cL c4 rfl rfl (ai (TR.clo da.t b6) (ai (TR.clo ak.t b0) bg)) (mV rfl (nR (mV rfl (bN mw rfl rfl (nS ?_)))))
  refine ci s rfl ?_ ?_ <;> clear s <;> intro c s <;> try simp only [qa] at c
  ·refine sR (mV rfl (mV rfl (mV rfl (mV rfl (nS ?_)))))
   exact rT s rfl rfl rfl rfl rfl
  ·refine bb (de (am (ax (bN gm rfl rfl (mV rfl (bp (di ?_)))))))
   have hbd := ee c2
   have hinc : wr (a8 + 1) = a8 + 1 := gb (by omega) (by omega)
   erw [hinc]
   exact wC (ih   (by omega) (by omega) (Mem.sub a9 (.cons _ (.cons_cons _ .slnil))) s) rfl

theorem ca1 {x0 : ae} {x1 : Int} {v0 : PV} (r0 : ae.t.R x0 v0) : FnR Tryz.prog 35 [v0, vi x1] (.tup [vi ((iu x0 x1).1), vi ((iu x0 x1).2)]) := by
 refine fnS (R := RF35) by6 (fun _ h => h) rfl fun res s => ?_
 unfold iu at s
 refine sR (ab (dq rfl (TR.cnt ae.t r0)) (mI rfl (mI rfl (nS (aq (sR (mV rfl (bN cz rfl rfl ?_))))))))
 refine mV rfl ?_
 refine cn 6 (d := 18) (v := vb ((decide (x1 < 0)) || (decide ((x0.Actions.length : Int) ≤ x1)))) ?_ ?_
 ·intro S Q r
  cases c9 : (decide (x1 < 0))
  ·intro k
   have c5 := c9
   try simp only [qa] at c5
   refine ah rfl rfl (au rfl) ?_
   obtain ⟨f5, e3, c7⟩ := ae.g_Actions r0
   refine ah rfl rfl (cd rfl e3) (ah rfl rfl (ca rfl (TR.cnt (tSl cb.t) c7) (TR.agg (tSl cb.t) c7)) (ah rfl rfl (cy rfl (cm c7 Tryz.underlying25 _)) (ah rfl rfl (bz rfl rfl mc) ?_)))
   exact gK rfl rfl rfl rfl rfl k
  ·exact gN 5 rfl rfl rfl rfl rfl rfl
 refine nS ?_
 refine ci s rfl ?_ ?_ <;> clear s <;> intro c2 s <;> have c4 := c2 <;> try simp only [qa] at c4
 ·refine sR (mI rfl (mI rfl (nS ?_)))
  exact rT s rfl rfl rfl rfl rfl
 ·refine bb (am (sR ?_))
  obtain ⟨e9, d5, d3⟩ := ae.g_Actions r0
  refine fA rfl d5 (lD d3 rfl rfl rfl (mV rfl ?_))
  obtain ⟨c6, d6, a9⟩ := dt (i := x1) d3 (by omega) (by omega)
  refine ab (bh rfl rfl d6) (lD a9 rfl rfl rfl ?_)
  refine dz (x := .agg [vs [], nilS, nilS]) (Mem.nil ⟨0, []⟩) rfl rfl (fun d0 d2 f2 e2 => ?_)
  refine cw (k := 0) (v := c6) e2 rfl rfl rfl (TR.cnt cb.t a9) (fun d7 b0 => ?_)
  replace b0 : Mem d7 [⟨.op d0 d2 0, 97, 3, [c6]⟩] := b0
  refine nS (aq (sR (ab (iw (k := 0) b0 rfl rfl (TR.agg cb.t a9)) ?_)))
  obtain ⟨f6, c1, s⟩ := bn s
  have d4 := co1  a9 
  rw [c1] at d4
  refine cL d4 rfl rfl (ai (TR.clo cb.t a9) bg) (mV rfl (nR (mV rfl (bN mw rfl rfl (nS ?_)))))
  refine ci s rfl ?_ ?_ <;> clear s <;> intro c0 s <;> have c8 := c0 <;> try simp only [qa] at c8
  ·refine sR (mV rfl (mI rfl (mV rfl (nS ?_))))
   exact rT s rfl rfl rfl rfl rfl
  ·refine bb (am (sR (lD r0 rfl rfl rfl (ab (bf rfl) ?_))))
   obtain ⟨a8, e8, c3⟩ := cb.g_Params a9
   refine ab (cg (k := 0) b0 rfl rfl e8) ?_
   obtain ⟨a0, a7, a2, a3, a4, a5, a6, a1, e6, b4, b6, b7, b2, b3, b9, b1, b5⟩ := r0
   subst e6
   refine ab (v := .agg [vs x0.Name, a0, a7, a2, a3, a4, a5, a6, a1, a8]) (fu (cs := [vs x0.Name, a0, a7, a2, a3, a4, a5, a6, a1, a8]) rfl (by simp only [buildV, my (TR.cnt (tSl ay.t) c3) (TR.agg (tSl ay.t) c3)]; rfl)) (ab (v := .agg [vs x0.Name, a0, a7, a2, a3, a4, a5, a6, a1, a8]) (fu (cs := [vs x0.Name, a0, a7, a2, a3, a4, a5, a6, a1, a8]) rfl rfl) ?_)
   refine dz (x := .agg [vs [], nilS, nilS, nilS, nilS, nilS, nilS, nilS, nilS, nilS]) b0 rfl rfl (fun d8 d9 f3 e4 => ?_)
   refine cw (k := 0) (v := .agg [vs x0.Name, a0, a7, a2, a3, a4, a5, a6, a1, a8]) e4 rfl rfl rfl rfl (fun e1 b8 => ?_)
   replace b8 : Mem e1 [⟨.op d8 d9 0, 151, 10, [.agg [vs x0.Name, a0, a7, a2, a3, a4, a5, a6, a1, a8]]⟩, ⟨.op d0 d2 0, 97, 3, [c6]⟩] := b8
   refine nS (aq (sR (ab (bf rfl) ?_)))
   obtain ⟨f1, e5, d1⟩ := cb.g_Body a9
   refine ab (cg (k := 1) b8 rfl rfl e5) (ab (cy rfl (cm d1 Tryz.underlying95 _)) (mI rfl (nS (br ?_))))
   have e7 : da.t.R ({ scope := ({ Program := x0, Params := (ix x0.Actions x1).Params } : bd) } : da) (.agg [vs x0.Name, a0, a7, a2, a3, a4, a5, a6, a1, a8]) := ⟨a0, a7, a2, a3, a4, a5, a6, a1, a8, rfl, b4, b6, b7, b2, b3, b9, b1, b5, c3⟩
   refine wC (xg c2 c1 c0 d1 e7 ?_  rfl (by omega) (Mem.sub b8 (.cons_cons _ (.cons _ .slnil))) s) rfl
   ·intro f4 f0 s
    refine gw (am (sR (mI rfl (mI rfl (nS ?_)))))
    exact rT s rfl rfl rfl rfl rfl

def RF108 (res : (List ak)) (r : PV) : Prop := (tSl ak.t).R res r
theorem bh6 {x0 : ae} {x1 : Int} {v0 : PV} (r0 : ae.t.R x0 v0) : ∃ r, FnR Tryz.prog 108 [v0, vi x1] r ∧ (tSl ak.t).R (im x0 x1) r := by
 refine fnT (R := RF108) bm8 rfl fun res s => ?_
 unfold im at s
 refine sR (ab (dq rfl (TR.cnt ae.t r0)) (ab (v := nilS) (au rfl) (nS (aq (sR (lD r0 rfl rfl rfl (mV rfl ?_)))))))
 obtain ⟨b0, a1, s⟩ := bn s
 have a2 := ca1 (x1 := x1) r0 
 rw [a1] at a2
 refine cL a2 rfl rfl (ai (TR.clo ae.t r0) (ai rfl bg)) (mV rfl (xT rfl rfl (xT rfl rfl (mV rfl (mV rfl (nR (mV rfl (bN mw rfl rfl ?_))))))))
 refine nS ?_
 refine ci s rfl ?_ ?_ <;> clear s <;> intro c s <;> try simp only [qa] at c
 ·refine sR (ab (v := nilS) (au rfl) (nS ?_))
  exact rR s rfl (TR.clo (tSl ak.t) ro) ro
 ·refine bb (am (sR (gL (ae.g_Actions r0) rfl rfl rfl fun a9 a3 => (mV rfl ?_))))
  obtain ⟨a7, a4, a6⟩ := dt (i := x1) a3 (by ((have hk := cw5 (by assumption) (by assumption); omega))) (by ((have hk := cw5 (by assumption) (by assumption); omega)))
  refine ab (bh rfl rfl a4) ?_
  obtain ⟨a8, a5, a0⟩ := cb.g_Body a6
  refine fA rfl a5 (lD a0 rfl rfl rfl (mV rfl (nS ?_)))
  exact rR s rfl (TR.clo (tSl ak.t) a0) a0

def RF206 (res : Bool) (r : PV) : Prop := r = vb res
theorem bj3 {x0 : Int} : FnR Tryz.prog 206 [vi x0] (vb (pm x0)) := by
 refine fnS (R := RF206) bn6 (fun _ h => h) rfl fun res s => ?_
 unfold pm at s
 refine sR (mB rfl (nR (mV rfl (mV rfl (bN mw rfl rfl (mV rfl (nS ?_)))))))
 exact rR s rfl rfl rfl

def RF141 (res : Int) (r : PV) : Prop := r = vi res
theorem ae6 {x0 x1 : Int} : FnR Tryz.prog 141 [vi x0, vi x1] (vi (kp x0 x1)) := by
 refine fnS (R := RF141) bn2 (fun _ h => h) rfl fun res s => ?_
 unfold kp at s
 refine sR (mI rfl (nR (mV rfl ?_)))
 obtain ⟨a5, a2, s⟩ := bn s
 have a0 := bj3 (x0 := x0)  
 rw [a2] at a0
 refine cL a0 rfl rfl (ai rfl bg) (mV rfl (nR (mV rfl ?_)))
 obtain ⟨a4, a1, s⟩ := bn s
 have a3 := bj3 (x0 := x1)  
 rw [a1] at a3
 refine cL a3 rfl rfl (ai rfl bg) (mV rfl (nS (aq (sR (mV rfl (nS ?_))))))
 refine ci s rfl ?_ ?_ <;> clear s <;> intro c s <;> try simp only [qa] at c
 ·refine aq (sR (mV rfl (nS ?_)))
  refine ci s rfl ?_ ?_ <;> clear s <;> intro c s <;> try simp only [qa] at c
  ·refine sR (mI rfl (nS ?_))
   exact rR s rfl rfl rfl
  ·refine bb (am (sR (mI rfl (nS ?_))))
   exact rR s rfl rfl rfl
 ·refine bb (am (aq (sR (mV rfl (nS ?_)))))
  refine ci s rfl ?_ ?_ <;> clear s <;> intro c s <;> try simp only [qa] at c
  ·refine sR (mI rfl (nS ?_))
   exact rR s rfl rfl rfl
  ·refine bb (am (aq (sR (mV rfl (mV rfl (bN cz rfl rfl (nS ?_)))))))
   refine ci s rfl ?_ ?_ <;> clear s <;> intro c s <;> try simp only [qa] at c
   ·refine sR (mI rfl (nS ?_))
    exact rR s rfl rfl rfl
   ·refine bb (am (aq (sR (mV rfl (mV rfl (bN nu rfl rfl (nS ?_)))))))
    refine ci s rfl ?_ ?_ <;> clear s <;> intro c s <;> try simp only [qa] at c
    ·refine sR (mI rfl (nS ?_))
     exact rR s rfl rfl rfl
    ·refine bb (am (sR (mI rfl (nS ?_))))
     exact rR s rfl rfl rfl

def RF140 (res : Int) (r : PV) : Prop := r = vi res
theorem ab2 {S : List Fr} {res : Int} {x0 : List Int} {v0 : PV} (r0 : (tSl tI).R x0 v0) {K0 : Unit → Int}
  (a3 : K0 () = res → PX Tryz.prog 0 S (QR Tryz.prog [(2, none)] (RF140 res)) [(3, vi 0)] ⟨0, []⟩) :
  ∀ {m : Nat} {a0 : Int} (a2 : m = Int.toNat ((x0.length : Int) - a0)) (a1 : 0 ≤ a0), mi x0 K0 m a0 = res → RC Tryz.prog (.loop cf8) S (QR Tryz.prog [(2, none)] (RF140 res)) [(8, vi a0), (7, vi (x0.length : Int)), (6, v0), (3, vi 0)] ⟨0, []⟩ := by
 intro m
 induction m with
 | zero =>
  intro a0 a2 a1 s
  rw [mi] at s
  refine ct (sR (bN cz rfl rfl (nS (aq ?_))))
  refine cj rfl ?_ ?_ <;> intro c <;> try simp only [qa] at c
  ·omega
  refine ft (gk (ej ?_))
  exact wP (a3  s) rfl
 | succ m ih =>
  intro a0 a2 a1 s
  rw [mi] at s
  refine ct (sR (bN cz rfl rfl (nS (aq ?_))))
  refine cj rfl ?_ ?_ <;> intro c <;> try simp only [qa] at c
  rotate_left
  ·omega
  refine bb (am (aq (br (sR (ab (bh rfl rfl (slI r0 (by omega) (by omega))) (lR rfl rfl rfl (mV rfl (nR ?_))))))))
  refine mV rfl (mV rfl (bN mw rfl rfl (nS ?_)))
  refine ci s rfl ?_ ?_ <;> clear s <;> intro c s <;> try simp only [qa] at c
  ·refine sR (mV rfl (mV rfl (nS ?_)))
   exact rR s rfl rfl rfl
  ·refine bb (de (am (ax (bN gm rfl rfl (mV rfl (bp (di ?_)))))))
   have hbd := ee r0
   have hinc : wr (a0 + 1) = a0 + 1 := gb (by omega) (by omega)
   erw [hinc]
   exact wC (ih   (by omega) (by omega) s) rfl

theorem bl7 {x0 : List Int} {v0 : PV} (r0 : (tSl tI).R x0 v0) : FnR Tryz.prog 140 [v0] (vi (qm x0)) := by
 refine fnS (R := RF140) bf0 (fun _ h => h) rfl fun res s => ?_
 unfold qm at s
 refine sR (mI rfl (nR (mI rfl (nS (aq (sR (mV rfl (ab (cy rfl (cm r0 Tryz.underlying29 _)) ?_))))))))
 refine mI rfl (nS (br ?_))
 refine wC (ab2 r0 ?_  rfl (by omega) s) rfl
 ·intro  s
  refine gw (am (sR (mV rfl (mV rfl (nS ?_)))))
  exact rR s rfl rfl rfl

def RF139 (res : Int) (r : PV) : Prop := r = vi res
theorem cm8 {x0 : aa} {x1 : aa} {v0 v1 : PV} (r0 : aa.t.R x0 v0) (r1 : aa.t.R x1 v1) : FnR Tryz.prog 139 [v0, v1] (vi (kg x0 x1)) := by
 refine fnS (R := RF139) ao0 (fun _ h => h) rfl fun res s => ?_
 unfold kg at s
 refine sR (ab (dq rfl (TR.cnt aa.t r0)) (ab (dq rfl (TR.cnt aa.t r1)) (mI rfl (nR (fL rfl (aa.g_Header r0) rfl rfl (fL rfl (aa.g_Header r1) rfl rfl ?_))))))
 obtain ⟨a1, a4, s⟩ := bn s
 have a7 := ae6 (x0 := x0.Header) (x1 := x1.Header)  
 rw [a4] at a7
 refine cL a7 rfl rfl (ai rfl (ai rfl bg)) (fL rfl (aa.g_Field r0) rfl rfl (fL rfl (aa.g_Field r1) rfl rfl ?_))
 obtain ⟨a0, a3, s⟩ := bn s
 have a8 := ae6 (x0 := x0.Field) (x1 := x1.Field)  
 rw [a3] at a8
 refine cL a8 rfl rfl (ai rfl (ai rfl bg)) (ab (v := .fs true [vi a1, vi a0]) (jh rfl (all_cons rfl (all_cons rfl lw))) ?_)
 have a2 : (tSl tI).R ([a1, a0] : List Int) (.fs true [vi a1, vi a0]) := qw ⟨rfl, ⟨rfl, trivial⟩⟩ (by simp)
 obtain ⟨a9, a5, s⟩ := bn s
 have a6 := bl7  a2 
 rw [a5] at a6
 refine cL a6 rfl rfl (ai (TR.clo (tSl tI) a2) bg) (mV rfl (nS ?_))
 exact rR s rfl rfl rfl

def RF179 (res : Int) (r : PV) : Prop := r = vi res
theorem cv2 {x0 : aa} {x1 : aa} {v0 v1 : PV} (r0 : aa.t.R x0 v0) (r1 : aa.t.R x1 v1) : FnR Tryz.prog 179 [v0, v1] (vi (fd x0 x1)) := by
 refine fnS (R := RF179) an8 (fun _ h => h) rfl fun res s => ?_
 unfold fd at s
 refine sR (ab (dq rfl (TR.cnt aa.t r0)) (ab (dq rfl (TR.cnt aa.t r1)) (mI rfl (nR (fL rfl (aa.g_Header r0) rfl rfl (fL rfl (aa.g_Header r1) rfl rfl ?_))))))
 obtain ⟨a1, a4, s⟩ := bn s
 have a7 := ae6 (x0 := x0.Header) (x1 := x1.Header)  
 rw [a4] at a7
 refine cL a7 rfl rfl (ai rfl (ai rfl bg)) (fL rfl (aa.g_Field r0) rfl rfl (fL rfl (aa.g_Field r1) rfl rfl ?_))
 obtain ⟨a0, a3, s⟩ := bn s
 have a8 := ae6 (x0 := x0.Field) (x1 := x1.Field)  
 rw [a3] at a8
 refine cL a8 rfl rfl (ai rfl (ai rfl bg)) (ab (v := .fs true [vi a1, vi a0]) (jh rfl (all_cons rfl (all_cons rfl lw))) ?_)
 have a2 : (tSl tI).R ([a1, a0] : List Int) (.fs true [vi a1, vi a0]) := qw ⟨rfl, ⟨rfl, trivial⟩⟩ (by simp)
 obtain ⟨a9, a5, s⟩ := bn s
 have a6 := bl7  a2 
 rw [a5] at a6
 refine cL a6 rfl rfl (ai (TR.clo (tSl tI) a2) bg) (mV rfl (nS ?_))
 exact rR s rfl rfl rfl

def RF138139 (a0 : PV) (R_ : List Ent) (res : List aa) (r : PV) (h : Heap) : Prop := ∃ es : List PV, Mem h (⟨a0, 87, 2, es⟩ :: R_) ∧ All2 aa.t.R res es ∧ res.length ≤ 4611686018427387904 ∧ Wri a0 es ∧ r = .tup []
theorem az4 {x0 : List aa} {a0 : PV} {a1 : List PV} {R_ : List Ent} {h_ : Heap} (q : All2 aa.t.R x0 a1) (ne : isL a0 = true) (hl : x0.length ≤ 4611686018427387904) (wi : Wri a0 a1) (M : Mem h_ (⟨a0, 87, 2, a1⟩ :: R_)) (hb : x0.length ≤ 1000000) : ∃ r a2, FnX Tryz.prog 138 [a0, .fn (.func 139) [] []] h_ r a2 ∧ RF138139 a0 R_ (mm x0) r a2 := by
 obtain ⟨r, h2, X, es', M2, q2, w2, hr⟩ := ak6 (t := aa.t) (mk := frmk) (enc := frenc) (cf := kg) ar1.enters (fun x v h => h) (fun x => rfl) (fun x => rfl) (fun x => rfl) (fun x u hu => by simp [frenc] at hu; rcases hu with rfl | rfl <;> rfl) (fun x y => cm8 rfl rfl) (fun blk off cap d w hc hH hb hs => Go.Proofs.Tryz.sortF_calls frenc (fun x => rfl) (fun x u hu => by simp [frenc] at hu; rcases hu with rfl | rfl <;> rfl) kg da9 cd1 139 ao0.enters blk off cap d w hc hH hb hs) (fun p cap w => Go.Proofs.Tryz.sortF_none p cap _ w) q ne hb wi M
 exact ⟨r, h2, X, es', M2, q2, by rw [mm, List.length_mergeSort]; exact hl, w2, hr⟩

def RF138179 (a0 : PV) (R_ : List Ent) (res : List aa) (r : PV) (h : Heap) : Prop := ∃ es : List PV, Mem h (⟨a0, 87, 2, es⟩ :: R_) ∧ All2 aa.t.R res es ∧ res.length ≤ 4611686018427387904 ∧ Wri a0 es ∧ r = .tup []
theorem ay1 {x0 : List aa} {a0 : PV} {a1 : List PV} {R_ : List Ent} {h_ : Heap} (q : All2 aa.t.R x0 a1) (ne : isL a0 = true) (hl : x0.length ≤ 4611686018427387904) (wi : Wri a0 a1) (M : Mem h_ (⟨a0, 87, 2, a1⟩ :: R_)) (hb : x0.length ≤ 1000000) : ∃ r a2, FnX Tryz.prog 138 [a0, .fn (.func 179) [] []] h_ r a2 ∧ RF138179 a0 R_ (kw x0) r a2 := by
 obtain ⟨r, h2, X, es', M2, q2, w2, hr⟩ := ak6 (t := aa.t) (mk := frmk) (enc := frenc) (cf := fd) ar1.enters (fun x v h => h) (fun x => rfl) (fun x => rfl) (fun x => rfl) (fun x u hu => by simp [frenc] at hu; rcases hu with rfl | rfl <;> rfl) (fun x y => cv2 rfl rfl) (fun blk off cap d w hc hH hb hs => Go.Proofs.Tryz.sortF_calls frenc (fun x => rfl) (fun x u hu => by simp [frenc] at hu; rcases hu with rfl | rfl <;> rfl) fd cz5 bv9 179 an8.enters blk off cap d w hc hH hb hs) (fun p cap w => Go.Proofs.Tryz.sortF_none p cap _ w) q ne hb wi M
 exact ⟨r, h2, X, es', M2, q2, by rw [kw, List.length_mergeSort]; exact hl, w2, hr⟩

theorem bc2 {x0 : List aa} {a0 : PV} {a1 : List PV} {R_ : List Ent} {h_ : Heap} (q : All2 aa.t.R x0 a1) (ne : isL a0 = true) (hl : x0.length ≤ 4611686018427387904) (wi : Wri a0 a1) (M : Mem h_ (⟨a0, 87, 2, a1⟩ :: R_)) : ∃ r a2, FnX Tryz.prog 142 [a0] h_ r a2 ∧ RF142 R_ (iq x0) r a2 := cd4 q ne hl wi M

def RF66 (res : (List aa)) (r : PV) : Prop := (tSl aa.t).R res r
theorem zk {S : List Fr} {res : (List aa)} {x0 : List af} {v0 : PV} (r0 : (tSl af.t).R x0 v0) (hb : x0.length ≤ 1000) {K0 : (List aa) → (List aa)}
  (d2 : ∀ {zE102 : List aa} {a0 : List PV} {a1 : PV} (a5 : All2 aa.t.R zE102 a0) (a6 : isL a1 = true) (a2 : Wri a1 a0) (a4 : zE102.length ≤ 4611686018427387904) (d3 : zE102.length ≤ 1000) {h : Heap} (M0 : Mem h [⟨a1, 87, 2, a0⟩]), K0 zE102 = res → PX Tryz.prog 0 S (QR Tryz.prog [(2, none)] (RF66 res)) [(3, a1)] h) :
  ∀ {m : Nat} {a3 : Int} {zE102 : List aa} {a0 : List PV} {a1 : PV} (a5 : All2 aa.t.R zE102 a0) (a6 : isL a1 = true) (a2 : Wri a1 a0) (a4 : zE102.length ≤ 4611686018427387904) (c8 : m = Int.toNat ((x0.length : Int) - a3)) (b9 : 0 ≤ a3) (b2 : (zE102.length : Int) ≤ a3) (b1 : a3 ≤ (x0.length : Int)) {h : Heap} (M0 : Mem h [⟨a1, 87, 2, a0⟩]), iz x0 K0 m a3 zE102 = res → RC Tryz.prog (.loop ch0) S (QR Tryz.prog [(2, none)] (RF66 res)) [(8, vi a3), (7, vi (x0.length : Int)), (6, v0), (3, a1)] h := by
 have hb' := hb
 try simp only [qa] at hb'
 intro m
 induction m with
 | zero =>
  intro a3 zE102 a0 a1 a5 a6 a2 a4 c8 b9 b2 b1 h M0 s
  rw [iz] at s
  refine ct (sR (bN cz rfl rfl (nS (aq ?_))))
  refine cj rfl ?_ ?_ <;> intro c <;> try simp only [qa] at c
  ·omega
  refine ft (gk (ej ?_))
  exact wP (d2 a5 a6 a2 a4 (by omega) (Mem.sub M0 (.cons_cons _ .slnil)) s) rfl
 | succ m ih =>
  intro a3 zE102 a0 a1 a5 a6 a2 a4 c8 b9 b2 b1 h M0 s
  rw [iz] at s
  refine ct (sR (bN cz rfl rfl (nS (aq ?_))))
  refine cj rfl ?_ ?_ <;> intro c <;> try simp only [qa] at c
  rotate_left
  ·omega
  refine bb (am (aq (br (sR ?_))))
  obtain ⟨b6, c3, a8⟩ := dt (i := a3) r0 (by omega) (by omega)
  refine ab (bh rfl rfl c3) (lD a8 rfl rfl rfl ?_)
  refine dz (x := .agg [vi 0, vi 0, vi 0]) M0 rfl rfl (fun c2 c4 d1 c6 => ?_)
  refine cw (k := 0) (v := b6) c6 rfl rfl rfl (TR.cnt af.t a8) (fun b7 a7 => ?_)
  replace a7 : Mem b7 [⟨.op c2 c4 0, 113, 3, [b6]⟩, ⟨a1, 87, 2, a0⟩] := a7
  refine nR (ab (bf rfl) (ab (cg (k := 0) a7 rfl rfl (af.g_Op a8)) (bN fe rfl rfl (nS ?_))))
  refine ci s rfl ?_ ?_ <;> clear s <;> intro c s <;> try simp only [qa] at c
  ·refine ax (mV rfl (ab (bf rfl) (ab (cg (k := 0) a7 rfl rfl (af.g_N a8)) (ab (bf rfl) (ab (cg (k := 0) a7 rfl rfl (af.g_W a8)) (ab (v := .agg [vi ((ix x0 a3).N), vi ((ix x0 a3).W)]) (fu (cs := [vi ((ix x0 a3).N), vi ((ix x0 a3).W)]) rfl rfl) (ab (v := .fs true [.agg [vi ((ix x0 a3).N), vi ((ix x0 a3).W)]]) (jh rfl (all_cons rfl lw)) ?_)))))))
   have c7 : (tSl aa.t).R ([({ Header := (ix x0 a3).N, Field := (ix x0 a3).W } : aa)] : List aa) (.fs true [.agg [vi ((ix x0 a3).N), vi ((ix x0 a3).W)]]) := qw ⟨rfl, trivial⟩ (by simp)
   obtain ⟨a9, b4, b0⟩ := ol (t := aa.t) (h := b7) c7
   have b3 : fits (a0.length + a9.length) 16 = true := by rw [All2.length_eq a5, All2.length_eq b0]; (try simp only [List.length_cons, List.length_nil]); exact lr (by omega) (by omega)
   refine nj (k := 1) (es := a0) (news := a9) a7 rfl rfl rfl a6 a2 b4 b3 (fun c9 d0 c5 b5 c1 => ?_)
   have b8 : All2 aa.t.R (zE102 ++ ([({ Header := (ix x0 a3).N, Field := (ix x0 a3).W } : aa)] : List aa)) (a0 ++ a9) := All2.app a5 b0
   have c0 : (zE102 ++ ([({ Header := (ix x0 a3).N, Field := (ix x0 a3).W } : aa)] : List aa)).length ≤ 4611686018427387904 := by rw [← All2.length_eq b8, List.length_append]; exact lm b3
   refine mV rfl (bp (de (am (ax (bN gm rfl rfl (mV rfl (bp (di ?_))))))))
   have hbd := ee r0
   have hinc : wr (a3 + 1) = a3 + 1 := gb (by omega) (by omega)
   erw [hinc]
   exact wC (ih  b8 c5 b5 c0 (by omega) (by omega) (by ((simp only [List.length_append, List.length_cons, List.length_nil]; omega))) (by omega) (Mem.sub c1 (.cons _ (.cons_cons _ .slnil))) s) rfl
  ·refine bb (de (am (ax (bN gm rfl rfl (mV rfl (bp (di ?_)))))))
   have hbd := ee r0
   have hinc : wr (a3 + 1) = a3 + 1 := gb (by omega) (by omega)
   erw [hinc]
   exact wC (ih  a5 a6 a2 a4 (by omega) (by omega) (by omega) (by omega) (Mem.sub a7 (.cons _ (.cons_cons _ .slnil))) s) rfl

theorem dh7 {x0 : List af} {v0 : PV} (r0 : (tSl af.t).R x0 v0) (hb : x0.length ≤ 1000) : ∃ r, FnR Tryz.prog 66 [v0] r ∧ (tSl aa.t).R (jm x0) r := by
 refine fnT (R := RF66) cb1 rfl fun res s => ?_
 unfold jm at s
 refine sR (ab (v := nilS) (au rfl) (nR (ab (v := nilS) (au rfl) (nS (aq (sR (mV rfl (ab (cy rfl (cm r0 Tryz.underlying32 _)) ?_))))))))
 refine mI rfl (nS (br ?_))
 have c6 := nm (sz := 2) (es := []) (Mem.nil ⟨0, []⟩) 87 (.inl ⟨none, rfl, rfl⟩) (by simp)
 refine wC (zk r0 hb ?_  aL rfl (.inl rfl) (by decide) rfl (by omega) (by simp) (by omega) (Mem.sub c6 (.cons_cons _ .slnil)) s) rfl
 ·intro a3 a5 a1 a6 a0 a4 a2 c5 c8 c9 s
  refine gw (am (aq (dv (bw (mV rfl (bv ?_))))))
  have d1 : Mem c8 [⟨a1, 87, 2, a5⟩] := (Mem.front (k := 0) c9 rfl)
  obtain ⟨d4, b8, s⟩ := bn s
  obtain ⟨d8, d5, c1, b6⟩ := az4 (x0 := a3) a6 a0 a2 a4 d1 (by omega)
  rw [b8] at b6
  obtain ⟨b2, c7, b0, a8, a9, a7⟩ := b6
  replace a7 := a7.symm; subst a7
  refine fx rfl rfl c1 (je (am (aq (dv (bw (mV rfl (bv ?_)))))))
  have d2 : Mem d5 [⟨a1, 87, 2, b2⟩] := (Mem.front (k := 0) c7 rfl)
  obtain ⟨e2, b9, s⟩ := bn s
  obtain ⟨d7, e1, c0, b7⟩ := bc2 (x0 := d4) b0 a0 a8 a9 d2 
  rw [b9] at b7
  obtain ⟨c3, c4, d3, b3, b5, b4, c2, b1⟩ := b7
  replace b1 := b1.symm; subst b1
  refine fx rfl rfl c0 (bw (mV rfl (bv (je (am ?_)))))
  obtain ⟨d9, d6, d0⟩ := oq (P := Tryz.prog) (k := 0) (t := aa.t) d3 rfl b5 b3 (Nat.le_trans b4 (by decide))
  subst s
  exact fy (.tmp rfl .nil) d6 d0

def RF143 (a0 : PV) (R_ : List Ent) (res : List Int) (r : PV) (h : Heap) : Prop := ∃ es : List PV, Mem h (⟨a0, 3, 1, es⟩ :: R_) ∧ All2 tI.R res es ∧ res.length ≤ 4611686018427387904 ∧ Wri a0 es ∧ r = .tup []
theorem aq6 {x0 : List Int} {a0 : PV} {a1 : List PV} {R_ : List Ent} {h_ : Heap} (q : All2 tI.R x0 a1) (ne : isL a0 = true) (hl : x0.length ≤ 4611686018427387904) (wi : Wri a0 a1) (M : Mem h_ (⟨a0, 3, 1, a1⟩ :: R_)) (hb : x0.length ≤ 1000000) : ∃ r a2, FnX Tryz.prog 143 [a0] h_ r a2 ∧ RF143 a0 R_ (jd x0) r a2 := by
 obtain ⟨r, h2, X, es', M2, q2, w2, hr⟩ := ay9 bm2.enters Go.Proofs.Tryz.sortI_calls Go.Proofs.Tryz.sortI_none q ne hb wi M
 exact ⟨r, h2, X, es', M2, q2, by rw [jd, List.length_mergeSort]; exact hl, w2, hr⟩

theorem ao4 {x0 : List Int} {a0 : PV} {a1 : List PV} {R_ : List Ent} {h_ : Heap} (q : All2 tI.R x0 a1) (ne : isL a0 = true) (hl : x0.length ≤ 4611686018427387904) (wi : Wri a0 a1) (M : Mem h_ (⟨a0, 3, 1, a1⟩ :: R_)) : ∃ r a2, FnX Tryz.prog 144 [a0] h_ r a2 ∧ RF144 R_ (kx x0) r a2 := bw8 q ne hl wi M

def RF67 (res : (List Int)) (r : PV) : Prop := (tSl tI).R res r
theorem xd {S : List Fr} {res : (List Int)} {x0 : List af} {v0 : PV} (r0 : (tSl af.t).R x0 v0) (hb : x0.length ≤ 1000) {K0 : (List Int) → (List Int)}
  (d2 : ∀ {zE102 : List Int} {a0 : List PV} {a1 : PV} (a4 : All2 tI.R zE102 a0) (a5 : isL a1 = true) (a2 : Wri a1 a0) (a3 : zE102.length ≤ 4611686018427387904) (d3 : zE102.length ≤ 1000) {h : Heap} (M0 : Mem h [⟨a1, 3, 1, a0⟩]), K0 zE102 = res → PX Tryz.prog 0 S (QR Tryz.prog [(2, none)] (RF67 res)) [(3, a1)] h) :
  ∀ {m : Nat} {a6 : Int} {zE102 : List Int} {a0 : List PV} {a1 : PV} (a4 : All2 tI.R zE102 a0) (a5 : isL a1 = true) (a2 : Wri a1 a0) (a3 : zE102.length ≤ 4611686018427387904) (c8 : m = Int.toNat ((x0.length : Int) - a6)) (b9 : 0 ≤ a6) (b2 : (zE102.length : Int) ≤ a6) (b1 : a6 ≤ (x0.length : Int)) {h : Heap} (M0 : Mem h [⟨a1, 3, 1, a0⟩]), ie x0 K0 m a6 zE102 = res → RC Tryz.prog (.loop cq6) S (QR Tryz.prog [(2, none)] (RF67 res)) [(8, vi a6), (7, vi (x0.length : Int)), (6, v0), (3, a1)] h := by
 have hb' := hb
 try simp only [qa] at hb'
 intro m
 induction m with
 | zero =>
  intro a6 zE102 a0 a1 a4 a5 a2 a3 c8 b9 b2 b1 h M0 s
  rw [ie] at s
  refine ct (sR (bN cz rfl rfl (nS (aq ?_))))
  refine cj rfl ?_ ?_ <;> intro c <;> try simp only [qa] at c
  ·omega
  refine ft (gk (ej ?_))
  exact wP (d2 a4 a5 a2 a3 (by omega) (Mem.sub M0 (.cons_cons _ .slnil)) s) rfl
 | succ m ih =>
  intro a6 zE102 a0 a1 a4 a5 a2 a3 c8 b9 b2 b1 h M0 s
  rw [ie] at s
  refine ct (sR (bN cz rfl rfl (nS (aq ?_))))
  refine cj rfl ?_ ?_ <;> intro c <;> try simp only [qa] at c
  rotate_left
  ·omega
  refine bb (am (aq (br (sR ?_))))
  obtain ⟨b6, c3, a9⟩ := dt (i := a6) r0 (by omega) (by omega)
  refine ab (bh rfl rfl c3) (lD a9 rfl rfl rfl ?_)
  refine dz (x := .agg [vi 0, vi 0, vi 0]) M0 rfl rfl (fun c2 c4 d1 c6 => ?_)
  refine cw (k := 0) (v := b6) c6 rfl rfl rfl (TR.cnt af.t a9) (fun b7 a7 => ?_)
  replace a7 : Mem b7 [⟨.op c2 c4 0, 113, 3, [b6]⟩, ⟨a1, 3, 1, a0⟩] := a7
  refine nR (ab (bf rfl) (ab (cg (k := 0) a7 rfl rfl (af.g_Op a9)) (bN fe rfl rfl (nS ?_))))
  refine ci s rfl ?_ ?_ <;> clear s <;> intro c s <;> try simp only [qa] at c
  ·refine ax (mV rfl (ab (bf rfl) (ab (cg (k := 0) a7 rfl rfl (af.g_N a9)) (ab (v := .fs true [vi ((ix x0 a6).N)]) (jh rfl (all_cons rfl lw)) ?_))))
   have c7 : (tSl tI).R ([(ix x0 a6).N] : List Int) (.fs true [vi ((ix x0 a6).N)]) := qw ⟨rfl, trivial⟩ (by simp)
   obtain ⟨a8, b4, b0⟩ := ol (t := tI) (h := b7) c7
   have b3 : fits (a0.length + a8.length) 8 = true := by rw [All2.length_eq a4, All2.length_eq b0]; (try simp only [List.length_cons, List.length_nil]); exact lr (by omega) (by omega)
   refine nj (k := 1) (es := a0) (news := a8) a7 rfl rfl rfl a5 a2 b4 b3 (fun c9 d0 c5 b5 c1 => ?_)
   have b8 : All2 tI.R (zE102 ++ ([(ix x0 a6).N] : List Int)) (a0 ++ a8) := All2.app a4 b0
   have c0 : (zE102 ++ ([(ix x0 a6).N] : List Int)).length ≤ 4611686018427387904 := by rw [← All2.length_eq b8, List.length_append]; exact lm b3
   refine mV rfl (bp (de (am (ax (bN gm rfl rfl (mV rfl (bp (di ?_))))))))
   have hbd := ee r0
   have hinc : wr (a6 + 1) = a6 + 1 := gb (by omega) (by omega)
   erw [hinc]
   exact wC (ih  b8 c5 b5 c0 (by omega) (by omega) (by ((simp only [List.length_append, List.length_cons, List.length_nil]; omega))) (by omega) (Mem.sub c1 (.cons _ (.cons_cons _ .slnil))) s) rfl
  ·refine bb (de (am (ax (bN gm rfl rfl (mV rfl (bp (di ?_)))))))
   have hbd := ee r0
   have hinc : wr (a6 + 1) = a6 + 1 := gb (by omega) (by omega)
   erw [hinc]
   exact wC (ih  a4 a5 a2 a3 (by omega) (by omega) (by omega) (by omega) (Mem.sub a7 (.cons _ (.cons_cons _ .slnil))) s) rfl

theorem da6 {x0 : List af} {v0 : PV} (r0 : (tSl af.t).R x0 v0) (hb : x0.length ≤ 1000) : ∃ r, FnR Tryz.prog 67 [v0] r ∧ (tSl tI).R (ir x0) r := by
 refine fnT (R := RF67) bs8 rfl fun res s => ?_
 unfold ir at s
 refine sR (ab (v := nilS) (au rfl) (nR (ab (v := nilS) (au rfl) (nS (aq (sR (mV rfl (ab (cy rfl (cm r0 Tryz.underlying32 _)) ?_))))))))
 refine mI rfl (nS (br ?_))
 have c6 := nm (sz := 1) (es := []) (Mem.nil ⟨0, []⟩) 3 (.inl ⟨none, rfl, rfl⟩) (by simp)
 refine wC (xd r0 hb ?_  aL rfl (.inl rfl) (by decide) rfl (by omega) (by simp) (by omega) (Mem.sub c6 (.cons_cons _ .slnil)) s) rfl
 ·intro a3 a5 a1 a6 a0 a4 a2 c5 c8 c9 s
  refine gw (am (aq (dv (bw (mV rfl (bv ?_))))))
  have d1 : Mem c8 [⟨a1, 3, 1, a5⟩] := (Mem.front (k := 0) c9 rfl)
  obtain ⟨d4, b8, s⟩ := bn s
  obtain ⟨d8, d5, c1, b6⟩ := aq6 (x0 := a3) a6 a0 a2 a4 d1 (by omega)
  rw [b8] at b6
  obtain ⟨b2, c7, b0, a8, a9, a7⟩ := b6
  replace a7 := a7.symm; subst a7
  refine fx rfl rfl c1 (je (am (aq (dv (bw (mV rfl (bv ?_)))))))
  have d2 : Mem d5 [⟨a1, 3, 1, b2⟩] := (Mem.front (k := 0) c7 rfl)
  obtain ⟨e2, b9, s⟩ := bn s
  obtain ⟨d7, e1, c0, b7⟩ := ao4 (x0 := d4) b0 a0 a8 a9 d2 
  rw [b9] at b7
  obtain ⟨c3, c4, d3, b3, b5, b4, c2, b1⟩ := b7
  replace b1 := b1.symm; subst b1
  refine fx rfl rfl c0 (bw (mV rfl (bv (je (am ?_)))))
  obtain ⟨d9, d6, d0⟩ := oq (P := Tryz.prog) (k := 0) (t := tI) d3 rfl b5 b3 (Nat.le_trans b4 (by decide))
  subst s
  exact fy (.tmp rfl .nil) d6 d0

end Go.Proofs.YtmonnlkagniolaaGreat
