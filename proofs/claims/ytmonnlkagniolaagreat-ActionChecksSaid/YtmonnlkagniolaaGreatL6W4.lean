/-
 The code of each function does what its plain program says.
-/
import Derived.Test.YtmonnlkagniolaaGreatL6W3
set_option linter.unusedVariables false
set_option linter.unusedSimpArgs false
set_option maxRecDepth 100000
namespace Go.Proofs.YtmonnlkagniolaaGreat
open Go Go.Pb Go.RowKit
def RF156 (n : Int × Int) (r : PV) : Prop := r = .tup [vi n.1, vi n.2]
theorem ac7 {x0 : List ab} {x1 : au} {v0 v1 : PV} (r0 : (tSl ab.t).R x0 v0) (r1 : au.t.R x1 v1) : FnR Tryz.prog 156 [v0, v1] (.tup [vi ((lu x0 x1).1), vi ((lu x0 x1).2)]) := by
 refine fnS (R := RF156) bv8 (fun _ h => h) rfl fun n z => ?_
 unfold lu at z
 refine sR (ae (ej rfl (TR.cnt au.t r1)) (mI rfl (mI rfl (nS (aq (sR (mV rfl (ae (cv rfl (cm r0 Tryz.underlying32 _)) ?_))))))))
 refine bN ke rfl rfl (nS ?_)
 refine bm z rfl ?_ ?_ <;> clear z <;> intro c z <;> try simp only [qa] at c
 ·refine sR (mI rfl (mI rfl (nS ?_)))
  exact rT z rfl rfl rfl rfl rfl
 ·refine ax (am (sR (mV rfl (lD r1 rfl rfl rfl ?_))))
  obtain ⟨a2, a0, z⟩ := bq z
  have a1 := bv1 (x1 := 0) r0 r1 (by first | assumption | omega | (rw [de (by omega) (by omega)]; omega)) (by first | assumption | omega | (rw [de (by omega) (by omega)]; omega))
  rw [a0] at a1
  refine cL a1 rfl rfl (ak (TR.clo (tSl ab.t) r0) (ak rfl (ak (TR.clo au.t r1) bc))) (mV rfl (xT rfl rfl (xT rfl rfl (xT rfl rfl (mV rfl (mV rfl (mV rfl (nS ?_))))))))
  refine aq (bh (sR (mV rfl (bN ig rfl rfl (mV rfl (nS ?_))))))
  refine bm z rfl ?_ ?_ <;> clear z <;> intro c z <;> try simp only [qa] at c
  ·refine sR (mV rfl (mI rfl (mV rfl (nS ?_))))
   exact rT z rfl rfl rfl rfl rfl
  ·refine sR (mV rfl (mV rfl (ae (cv rfl (cm r0 Tryz.underlying32 _)) (bN cn rfl rfl (mV rfl (nS ?_))))))
   refine bm z rfl ?_ ?_ <;> clear z <;> intro c z <;> try simp only [qa] at c
   ·refine sR (mI rfl (mI rfl (nS ?_)))
    exact rT z rfl rfl rfl rfl rfl
   ·refine ax (cp (am (sR (mV rfl (mV rfl (mI rfl (nS ?_)))))))
    exact rT z rfl rfl rfl rfl rfl

def RF178 (n : Int) (r : PV) : Prop := r = vi n
theorem au0 {x0 : List ab} {x1 : au} {x2 : Int} {v0 v1 : PV} (r0 : (tSl ab.t).R x0 v0) (r1 : au.t.R x1 v1) : FnR Tryz.prog 178 [v0, v1, vi x2] (vi (ni x0 x1 x2)) := by
 refine fnS (R := RF178) bw5 (fun _ h => h) rfl fun n z => ?_
 unfold ni at z
 refine sR (ae (ej rfl (TR.cnt au.t r1)) (mI rfl (nR (mV rfl (lD r1 rfl rfl rfl ?_)))))
 obtain ⟨a1, a4, z⟩ := bq z
 have a2 := ac7  r0 r1 
 rw [a4] at a2
 refine cL a2 rfl rfl (ak (TR.clo (tSl ab.t) r0) (ak (TR.clo au.t r1) bc)) (mV rfl (xT rfl rfl (xT rfl rfl (mV rfl (mV rfl (nS (aq (sR ?_))))))))
 refine mV rfl (bN dc rfl rfl (mV rfl ?_))
 refine bw 4 (d := 21) (v := vb ((decide (a1.2 = 0)) && (!decide (a1.1 = x2)))) ?_ ?_
 ·intro S Q r
  cases a3 : (decide (a1.2 = 0))
  ·exact gN 3 rfl rfl rfl rfl rfl rfl
  ·intro k
   have a0 := a3
   try simp only [qa] at a0
   refine ai rfl rfl (av rfl) (ai rfl rfl (av rfl) (ai rfl rfl (bv rfl rfl ig) ?_))
   exact gK rfl rfl rfl rfl rfl k
 refine nS ?_
 refine bm z rfl ?_ ?_ <;> clear z <;> intro c z <;> try simp only [qa] at c
 ·refine sR (mI rfl (nS ?_))
  exact rR z rfl rfl rfl
 ·refine ax (am (sR (mV rfl (mV rfl (nS ?_)))))
  exact rR z rfl rfl rfl

def RF107 (n : Int) (r : PV) : Prop := r = vi n
theorem br4 {x0 : af} {x1 : aj} {x2 : au} {v0 v1 v2 : PV} (r0 : af.t.R x0 v0) (r1 : aj.t.R x1 v1) (r2 : au.t.R x2 v2) : FnR Tryz.prog 107 [v0, v1, v2] (vi (mf x0 x1 x2)) := by
 refine fnS (R := RF107) cf4 (fun _ h => h) rfl fun n z => ?_
 unfold mf at z
 refine sR (ae (ej rfl (TR.cnt af.t r0)) (ae (ej rfl (TR.cnt aj.t r1)) (ae (ej rfl (TR.cnt au.t r2)) (mI rfl (nR (lD r0 rfl rfl rfl (gL (aj.g_Dst r1) rfl rfl rfl fun f2 b7 => ?_)))))))
 obtain ⟨a1, c5, z⟩ := bq z
 have b2 := at7  r0 b7 
 rw [c5] at b2
 refine cL b2 rfl rfl (ak (TR.clo af.t r0) (ak (TR.clo aa.t b7) bc)) (mV rfl (xT rfl rfl (xT rfl rfl (mV rfl (mV rfl (nR (fL rfl (aj.g_Register r1) rfl rfl (bN lv rfl rfl ?_))))))))
 refine mV rfl ?_
 refine bw 7 (d := 31) (v := vb ((decide (0 ≤ x1.Register)) && (decide (x1.Register < (x0.Registers.length : Int))))) ?_ ?_
 ·intro S Q r
  cases b5 : (decide (0 ≤ x1.Register))
  ·exact gN 6 rfl rfl rfl rfl rfl rfl
  ·intro k
   have a9 := b5
   try simp only [qa] at a9
   refine ai rfl rfl (cg rfl (aj.g_Register r1)) (ai rfl rfl (ca rfl rfl rfl) ?_)
   obtain ⟨e7, d7, a4⟩ := af.g_Registers r0
   refine ai rfl rfl (cg rfl d7) (ai rfl rfl (ca rfl (TR.cnt (tSl cx.t) a4) (TR.agg (tSl cx.t) a4)) (ai rfl rfl (cv rfl (cm a4 Tryz.underlying24 _)) (ai rfl rfl (bv rfl rfl cn) ?_)))
   exact gK rfl rfl rfl rfl rfl k
 refine mV rfl (nS (aq (sR (fL rfl (aj.g_Kind r1) rfl rfl (nS (bh (sR (bN dc rfl rfl ?_))))))))
 refine mV rfl (nS ?_)
 refine bm z rfl ?_ ?_ <;> clear z <;> intro c z <;> try simp only [qa] at c
 ·refine aq (sR (mV rfl (ae (jp rfl) (nS ?_))))
  refine bm z rfl ?_ ?_ <;> clear z <;> intro c z <;> try simp only [qa] at c
  ·refine sR (mI rfl (nS ?_))
   exact rR z rfl rfl rfl
  ·refine ax (am (sR (gL (aj.g_Value r1) rfl rfl rfl fun e9 c0 => (lD r2 rfl rfl rfl (mV rfl ?_)))))
   obtain ⟨e0, c8, z⟩ := bq z
   have b8 := au0 (x2 := a1.1) c0 r2 
   rw [c8] at b8
   refine cL b8 rfl rfl (ak (TR.clo (tSl ab.t) c0) (ak (TR.clo au.t r2) (ak rfl bc))) (mV rfl (nS ?_))
   exact rR z rfl rfl rfl
 ·refine aq (sR (bN dc rfl rfl (mV rfl (nS ?_))))
  obtain ⟨d0, c6, z⟩ := bq z
  refine jw (F := fun b S Q => ∀ (a0 : Bool), d0 a0 = n → RC Tryz.prog b S Q [(43, vb a0), (33, vi x1.Kind), (9, vb ((decide (0 ≤ x1.Register)) && (decide (x1.Register < (x0.Registers.length : Int))))), (8, vb a1.2), (7, vi a1.1), (5, .fp v2), (4, .fp v1), (3, .fp v0)] ⟨0, []⟩) ?_ ?_
  ·intro a0  z
   rw [← c6] at z
   refine bm z rfl ?_ ?_ <;> clear z <;> intro c z <;> try simp only [qa] at c
   ·refine aq (sR (fL rfl (aj.g_Header r1) rfl rfl (bN cn rfl rfl (mV rfl ?_))))
    refine bw 7 (d := 56) (v := vb ((decide (x1.Header < 0)) || (decide ((x0.Headers.length : Int) ≤ x1.Header)))) ?_ ?_
    ·intro S Q r
     cases b6 : (decide (x1.Header < 0))
     ·intro k
      have a7 := b6
      try simp only [qa] at a7
      refine ai rfl rfl (cg rfl (aj.g_Header r1)) (ai rfl rfl (ca rfl rfl rfl) ?_)
      obtain ⟨e8, d8, a6⟩ := af.g_Headers r0
      refine ai rfl rfl (cg rfl d8) (ai rfl rfl (ca rfl (TR.cnt (tSl cy.t) a6) (TR.agg (tSl cy.t) a6)) (ai rfl rfl (cv rfl (cm a6 Tryz.underlying22 _)) (ai rfl rfl (bv rfl rfl lv) ?_)))
      exact gK rfl rfl rfl rfl rfl k
     ·exact gN 6 rfl rfl rfl rfl rfl rfl
    refine nS ?_
    refine bm z rfl ?_ ?_ <;> clear z <;> intro c z <;> try simp only [qa] at c
    ·refine sR (mI rfl (nS ?_))
     exact rR z rfl rfl rfl
    ·refine ax (am (sR (mI rfl (nS ?_))))
     exact rR z rfl rfl rfl
   ·refine sR (bN dc rfl rfl (mV rfl (nS ?_)))
    refine bm z rfl ?_ ?_ <;> clear z <;> intro c z <;> try simp only [qa] at c
    ·refine aq (sR (mV rfl (ae (jp rfl) (mV rfl ?_))))
     refine bw 3 (d := 64) (v := vb ((!a1.2) || (!((decide (0 ≤ x1.Register)) && (decide (x1.Register < (x0.Registers.length : Int))))))) ?_ ?_
     ·intro S Q r
      cases b9 : (!a1.2)
      ·intro k
       have a5 := b9
       try simp only [qa] at a5
       refine ai rfl rfl (av rfl) (ai rfl rfl (jp rfl) ?_)
       exact gK rfl rfl rfl rfl rfl k
      ·exact gN 2 rfl rfl rfl rfl rfl rfl
     refine nS ?_
     refine bm z rfl ?_ ?_ <;> clear z <;> intro c z <;> try simp only [qa] at c
     ·refine sR (mI rfl (nS ?_))
      exact rR z rfl rfl rfl
     ·refine ax (am (sR ?_))
      obtain ⟨f1, d2, a8⟩ := aj.g_Index r1
      refine fA rfl d2 (lD a8 rfl rfl rfl (lD r2 rfl rfl rfl ?_))
      obtain ⟨c2, c9, z⟩ := bq z
      have b0 := ac7  a8 r2 
      rw [c9] at b0
      refine cL b0 rfl rfl (ak (TR.clo (tSl ab.t) a8) (ak (TR.clo au.t r2) bc)) (mV rfl (xT rfl rfl (xT rfl rfl (mV rfl (mV rfl (nS (aq (sR ?_))))))))
      refine mV rfl (bN dc rfl rfl (mV rfl ?_))
      refine bw 10 (d := 84) (v := vb ((decide (c2.2 = 0)) && (!decide (a1.1 = ((ix x0.Registers x1.Register).Width))))) ?_ ?_
      ·intro S Q r
       cases c7 : (decide (c2.2 = 0))
       ·exact gN 9 rfl rfl rfl rfl rfl rfl
       ·intro k
        have a2 := c7
        try simp only [qa] at a2
        refine ai rfl rfl (av rfl) ?_
        obtain ⟨f3, d5, a3⟩ := af.g_Registers r0
        refine ai rfl rfl (cg rfl d5) (ai rfl rfl (ca rfl (TR.cnt (tSl cx.t) a3) (TR.agg (tSl cx.t) a3)) (ai rfl rfl (cg rfl (aj.g_Register r1)) (ai rfl rfl (ca rfl rfl rfl) ?_)))
        obtain ⟨e3, d1, d6⟩ := cz (i := x1.Register) a3 (by omega) (by omega)
        refine ai rfl rfl (bf rfl rfl d1) (ai rfl rfl (cg rfl (cx.g_Width d6)) (ai rfl rfl (ca rfl rfl rfl) (ai rfl rfl (bv rfl rfl ig) ?_)))
        exact gK rfl rfl rfl rfl rfl k
      refine nS ?_
      refine bm z rfl ?_ ?_ <;> clear z <;> intro c z <;> try simp only [qa] at c
      ·refine sR (mI rfl (nS ?_))
       exact rR z rfl rfl rfl
      ·refine ax (am (sR (mV rfl (mV rfl (nS ?_)))))
       exact rR z rfl rfl rfl
    ·refine sR (bN dc rfl rfl (mV rfl (nS ?_)))
     refine bm z rfl ?_ ?_ <;> clear z <;> intro c z <;> try simp only [qa] at c
     ·refine aq (sR (mV rfl (ae (jp rfl) (nS ?_))))
      refine bm z rfl ?_ ?_ <;> clear z <;> intro c z <;> try simp only [qa] at c
      ·refine sR (mI rfl (nS ?_))
       exact rR z rfl rfl rfl
      ·refine ax (am (sR (gL (aj.g_Index r1) rfl rfl rfl fun f0 b4 => (lD r2 rfl rfl rfl ?_))))
       obtain ⟨e2, b1, z⟩ := bq z
       have c3 := ac7  b4 r2 
       rw [b1] at c3
       refine cL c3 rfl rfl (ak (TR.clo (tSl ab.t) b4) (ak (TR.clo au.t r2) bc)) (mV rfl (xT rfl rfl (xT rfl rfl (mV rfl (mV rfl (nS (aq (sR ?_))))))))
       refine mV rfl (bN ig rfl rfl (nS ?_))
       refine bm z rfl ?_ ?_ <;> clear z <;> intro c z <;> try simp only [qa] at c
       ·refine sR (mV rfl (mV rfl (nS ?_)))
        exact rR z rfl rfl rfl
       ·refine ax (am (sR (gL (aj.g_Value r1) rfl rfl rfl fun e1 c4 => (lD r2 rfl rfl rfl (gL (af.g_Registers r0) rfl rfl rfl fun e4 d4 => (fL rfl (aj.g_Register r1) rfl rfl ?_))))))
        obtain ⟨e6, d3, d9⟩ := cz (i := x1.Register) d4 (by omega) (by omega)
        refine ae (bf rfl rfl d3) (fL rfl (cx.g_Width d9) rfl rfl ?_)
        obtain ⟨e5, b3, z⟩ := bq z
        have c1 := au0 (x2 := (ix x0.Registers x1.Register).Width) c4 r2 
        rw [b3] at c1
        refine cL c1 rfl rfl (ak (TR.clo (tSl ab.t) c4) (ak (TR.clo au.t r2) (ak rfl bc))) (mV rfl (nS ?_))
        exact rR z rfl rfl rfl
     ·refine ax (cp (am (sR (mI rfl (nS ?_)))))
      exact rR z rfl rfl rfl
  ·intro J
   refine bm z rfl ?_ ?_ <;> clear z <;> intro c z <;> try simp only [qa] at c
   ·refine ax ?_
    refine am (wC (J _  z) rfl)
   ·refine aw (bN dc rfl rfl (mV rfl (bp ?_)))
    refine am (wC (J _  z) rfl)

def RF36 (n : Int × Int) (r : PV) : Prop := r = .tup [vi n.1, vi n.2]
theorem vp {S : List Fr} {n : Int × Int} {x0 : af} {x1 : Int} {b2 : Bool} {b3 : Int} {v0 a9 : PV} {a6 a8 : Nat} (r0 : af.t.R x0 v0) (c0 : ((decide (x1 < 0)) || (decide ((x0.Actions.length : Int) ≤ x1))) = false) (a5 : bg.t.R (ix x0.Actions x1) a9) (c9 : gn ((ix x0.Actions x1).Name) = b2) (b1 : (!b2) = false) (b9 : ((decide (4 < (((ix x0.Actions x1).Params).length : Int))) || (decide (12 < (((ix x0.Actions x1).Body).length : Int)))) = false) (d1 : mz ((ix x0.Actions x1).Params) = b3) (c1 : (!decide (b3 = 0)) = false) {K1 : Unit → (Int × Int)}
  (d8 : ∀ {h : Heap} (M0 : Mem h [⟨.op a6 a8 0, 97, 3, [a9]⟩]), K1 () = n → PX Tryz.prog 1 S (QR Tryz.prog [(4, none), (5, none)] (RF36 n)) [] h) :
  ∀ {m : Nat} {a0 : Int} (d0 : m = Int.toNat ((((ix x0.Actions x1).Body).length : Int) - a0)) (b7 : 0 ≤ a0) {h : Heap} (M0 : Mem h [⟨.op a6 a8 0, 97, 3, [a9]⟩]), kx x0 x1 K1 m a0 = n → RC Tryz.prog (.loop bs3) S (QR Tryz.prog [(4, none), (5, none)] (RF36 n)) [(7, vi a0), (6, .op a6 a8 0), (2, .fp v0), (1, vi x1)] h := by
 have a7 := c0
 try simp only [qa] at a7
 have a2 := b1
 try simp only [qa] at a2
 have a3 := b9
 try simp only [qa] at a3
 have a4 := c1
 try simp only [qa] at a4
 intro m
 induction m with
 | zero =>
  intro a0 d0 b7 h M0 z
  rw [kx] at z
  refine cj (aq (sR (mV rfl (ae (ba rfl) ?_))))
  obtain ⟨d9, c8, c7⟩ := bg.g_Body a5
  refine ae (br (k := 0) M0 rfl rfl c8) (ae (cv rfl (cm c7 Tryz.underlying95 _)) (bN cn rfl rfl (nS ?_)))
  refine cb rfl ?_ ?_ <;> intro c <;> try simp only [qa] at c
  ·omega
  refine dw (fj (dl ?_))
  exact wP (d8 (Mem.sub M0 (.cons_cons _ .slnil)) z) rfl
 | succ m ih =>
  intro a0 d0 b7 h M0 z
  rw [kx] at z
  refine cj (aq (sR (mV rfl (ae (ba rfl) ?_))))
  obtain ⟨d7, c3, b6⟩ := bg.g_Body a5
  refine ae (br (k := 0) M0 rfl rfl c3) (ae (cv rfl (cm b6 Tryz.underlying95 _)) (bN cn rfl rfl (nS ?_)))
  refine cb rfl ?_ ?_ <;> intro c <;> try simp only [qa] at c
  rotate_left
  ·omega
  refine ax (am (aq (bh (sR (lD r0 rfl rfl rfl (ae (ba rfl) ?_))))))
  obtain ⟨d2, c5, c2⟩ := bg.g_Body a5
  refine ae (br (k := 0) M0 rfl rfl c5) (mV rfl ?_)
  obtain ⟨d3, c4, a1⟩ := cz (i := a0) c2 (by omega) (by omega)
  refine ae (bf rfl rfl c4) (lD a1 rfl rfl rfl (lD r0 rfl rfl rfl (mV rfl ?_)))
  obtain ⟨d6, b5, z⟩ := bq z
  obtain ⟨d4, c6, b0⟩ := ct6 (x1 := x1) r0 (by first | assumption | omega | (rw [de (by omega) (by omega)]; omega))
  rw [b5] at b0
  refine cL c6 rfl rfl (ak (TR.clo af.t r0) (ak rfl bc)) ?_
  obtain ⟨d5, b8, z⟩ := bq z
  have b4 := br4  r0 a1 b0 
  rw [b8] at b4
  refine cL b4 rfl rfl (ak (TR.clo af.t r0) (ak (TR.clo aj.t a1) (ak (TR.clo au.t b0) bc))) (mV rfl (nR (mV rfl (bN ig rfl rfl (nS ?_)))))
  refine bm z rfl ?_ ?_ <;> clear z <;> intro c z <;> try simp only [qa] at c
  ·refine sR (mV rfl (mV rfl (mV rfl (mV rfl (nS ?_)))))
   exact rT z rfl rfl rfl rfl rfl
  ·refine ax (cp (am (aw (mV rfl (bN em rfl rfl (mV rfl (bp (cq ?_))))))))
   have s := db b6
   have o : wr (a0 + 1) = a0 + 1 := de (by omega) (by omega)
   erw [o]
   exact wC (ih   (by omega) (by omega) (Mem.sub M0 (.cons_cons _ .slnil)) z) rfl

theorem ap2 {x0 : af} {x1 : Int} {v0 : PV} (r0 : af.t.R x0 v0) : FnR Tryz.prog 36 [v0, vi x1] (.tup [vi ((jf x0 x1).1), vi ((jf x0 x1).2)]) := by
 refine fnS (R := RF36) cl7 (fun _ h => h) rfl fun n z => ?_
 unfold jf at z
 refine sR (ae (ej rfl (TR.cnt af.t r0)) (mI rfl (mI rfl (nS (aq (sR (mV rfl (bN cn rfl rfl ?_))))))))
 refine mV rfl ?_
 refine bw 6 (d := 17) (v := vb ((decide (x1 < 0)) || (decide ((x0.Actions.length : Int) ≤ x1)))) ?_ ?_
 ·intro S Q r
  cases b6 : (decide (x1 < 0))
  ·intro k
   have b4 := b6
   try simp only [qa] at b4
   refine ai rfl rfl (av rfl) ?_
   obtain ⟨d8, c5, b1⟩ := af.g_Actions r0
   refine ai rfl rfl (cg rfl c5) (ai rfl rfl (ca rfl (TR.cnt (tSl bg.t) b1) (TR.agg (tSl bg.t) b1)) (ai rfl rfl (cv rfl (cm b1 Tryz.underlying25 _)) (ai rfl rfl (bv rfl rfl lv) ?_)))
   exact gK rfl rfl rfl rfl rfl k
  ·exact gN 5 rfl rfl rfl rfl rfl rfl
 refine nS ?_
 refine bm z rfl ?_ ?_ <;> clear z <;> intro a7 z <;> have b2 := a7 <;> try simp only [qa] at b2
 ·refine sR (mI rfl (mI rfl (nS ?_)))
  exact rT z rfl rfl rfl rfl rfl
 ·refine ax (am (sR ?_))
  obtain ⟨e3, d2, b8⟩ := af.g_Actions r0
  refine fA rfl d2 (lD b8 rfl rfl rfl (mV rfl ?_))
  obtain ⟨c3, c6, a1⟩ := cz (i := x1) b8 (by omega) (by omega)
  refine ae (bf rfl rfl c6) (lD a1 rfl rfl rfl ?_)
  refine gh (x := .agg [vs [], nilS, nilS]) (Mem.nil ⟨0, []⟩) rfl rfl (fun d0 d4 d9 c8 => ?_)
  refine fu (k := 0) (v := c3) c8 rfl rfl rfl (TR.cnt bg.t a1) (fun d1 a0 => ?_)
  replace a0 : Mem d1 [⟨.op d0 d4 0, 97, 3, [c3]⟩] := a0
  refine nS (aq (bh (sR (ae (ba rfl) (ae (br (k := 0) a0 rfl rfl (bg.g_Name a1)) ?_)))))
  obtain ⟨e0, a3, z⟩ := bq z
  have c1 := ay8 (x0 := (ix x0.Actions x1).Name)  
  rw [a3] at c1
  refine cL c1 rfl rfl (ak rfl bc) (ae (jp rfl) (mV rfl (nS ?_)))
  refine bm z rfl ?_ ?_ <;> clear z <;> intro a2 z <;> have a8 := a2 <;> try simp only [qa] at a8
  ·refine sR (mI rfl (mI rfl (nS ?_)))
   exact rT z rfl rfl rfl rfl rfl
  ·refine sR (ae (ba rfl) ?_)
   obtain ⟨e2, c7, d6⟩ := bg.g_Params a1
   refine ae (br (k := 0) a0 rfl rfl c7) (ae (cv rfl (cm d6 Tryz.underlying23 _)) (bN ke rfl rfl (mV rfl ?_)))
   refine bw 5 (d := 38) (v := vb ((decide (4 < (((ix x0.Actions x1).Params).length : Int))) || (decide (12 < (((ix x0.Actions x1).Body).length : Int))))) ?_ ?_
   ·intro S Q r
    cases c0 : (decide (4 < (((ix x0.Actions x1).Params).length : Int)))
    ·intro k
     have b3 := c0
     try simp only [qa] at b3
     refine ai rfl rfl (ba rfl) ?_
     obtain ⟨e4, d5, d7⟩ := bg.g_Body a1
     refine ai rfl rfl (br (k := 0) a0 rfl rfl d5) (ai rfl rfl (cv rfl (cm d7 Tryz.underlying95 _)) (ai rfl rfl (bv rfl rfl ke) ?_))
     exact gK rfl rfl rfl rfl rfl k
    ·exact gN 4 rfl rfl rfl rfl rfl rfl
   refine mV rfl (nS ?_)
   refine bm z rfl ?_ ?_ <;> clear z <;> intro a6 z <;> have a9 := a6 <;> try simp only [qa] at a9
   ·refine sR (mI rfl (mI rfl (nS ?_)))
    exact rT z rfl rfl rfl rfl rfl
   ·refine sR (ae (ba rfl) ?_)
    obtain ⟨e5, d3, b9⟩ := bg.g_Params a1
    refine ae (br (k := 0) a0 rfl rfl d3) ?_
    obtain ⟨e1, a5, z⟩ := bq z
    have b7 := ax6  b9 
    rw [a5] at b7
    refine cL b7 rfl rfl (ak (TR.clo (tSl ay.t) b9) bc) (bN ig rfl rfl (mV rfl (nS ?_)))
    refine bm z rfl ?_ ?_ <;> clear z <;> intro a4 z <;> have b0 := a4 <;> try simp only [qa] at b0
    ·refine sR (ae (ba rfl) ?_)
     obtain ⟨e9, c9, c2⟩ := bg.g_Params a1
     refine ae (br (k := 0) a0 rfl rfl c9) ?_
     obtain ⟨e8, c4, z⟩ := bq z
     have b5 := ax6  c2 
     rw [c4] at b5
     refine cL b5 rfl rfl (ak (TR.clo (tSl ay.t) c2) bc) (mI rfl (mV rfl (nS ?_)))
     exact rT z rfl rfl rfl rfl rfl
    ·refine ax (cp (am (aq (sR (mI rfl (nS (bh ?_)))))))
     refine wC (vp r0 a7 a1 a3 a2 a6 a5 a4 ?_  rfl (by omega) (Mem.sub a0 (.cons_cons _ .slnil)) z) rfl
     ·intro e7 e6 z
      refine fx (am (sR (mI rfl (mI rfl (nS ?_)))))
      exact rT z rfl rfl rfl rfl rfl

def RF108 (n : (List aj)) (r : PV) : Prop := (tSl aj.t).R n r
theorem aw5 {x0 : af} {x1 : Int} {v0 : PV} (r0 : af.t.R x0 v0) : ∃ r, FnR Tryz.prog 108 [v0, vi x1] r ∧ (tSl aj.t).R (jh x0 x1) r := by
 refine fnT (R := RF108) at9 rfl fun n z => ?_
 unfold jh at z
 refine sR (ae (ej rfl (TR.cnt af.t r0)) (ae (v := nilS) (av rfl) (nS (aq (sR (lD r0 rfl rfl rfl (mV rfl ?_)))))))
 obtain ⟨a9, a2, z⟩ := bq z
 have a1 := be4 (x1 := x1) r0 
 rw [a2] at a1
 refine cL a1 rfl rfl (ak (TR.clo af.t r0) (ak rfl bc)) (mV rfl (xT rfl rfl (xT rfl rfl (mV rfl (mV rfl (nR (mV rfl (bN ig rfl rfl ?_))))))))
 refine nS ?_
 refine bm z rfl ?_ ?_ <;> clear z <;> intro c z <;> try simp only [qa] at c
 ·refine sR (ae (v := nilS) (av rfl) (nS ?_))
  exact rR z rfl (TR.clo (tSl aj.t) jx) jx
 ·refine ax (am (sR (gL (af.g_Actions r0) rfl rfl rfl fun a8 a6 => (mV rfl ?_))))
  obtain ⟨a7, a5, a4⟩ := cz (i := x1) a6 (by first | omega | (have hk := bn4 (by assumption) (by assumption); omega)) (by first | omega | (have hk := bn4 (by assumption) (by assumption); omega))
  refine ae (bf rfl rfl a5) ?_
  obtain ⟨b0, a3, a0⟩ := bg.g_Body a4
  refine fA rfl a3 (lD a0 rfl rfl rfl (mV rfl (nS ?_)))
  exact rR z rfl (TR.clo (tSl aj.t) a0) a0

def RF206 (n : Bool) (r : PV) : Prop := r = vb n
theorem at4 {x0 : Int} : FnR Tryz.prog 206 [vi x0] (vb (nb x0)) := by
 refine fnS (R := RF206) ay2 (fun _ h => h) rfl fun n z => ?_
 unfold nb at z
 refine sR (mB rfl (nR (mV rfl (mV rfl (bN ig rfl rfl (mV rfl (nS ?_)))))))
 exact rR z rfl rfl rfl

def RF141 (n : Int) (r : PV) : Prop := r = vi n
theorem xi {x0 x1 : Int} : FnR Tryz.prog 141 [vi x0, vi x1] (vi (jd x0 x1)) := by
 refine fnS (R := RF141) aw7 (fun _ h => h) rfl fun n z => ?_
 unfold jd at z
 refine sR (mI rfl (nR (mV rfl ?_)))
 obtain ⟨a4, a1, z⟩ := bq z
 have a2 := at4 (x0 := x0)  
 rw [a1] at a2
 refine cL a2 rfl rfl (ak rfl bc) (mV rfl (nR (mV rfl ?_)))
 obtain ⟨a5, a0, z⟩ := bq z
 have a3 := at4 (x0 := x1)  
 rw [a0] at a3
 refine cL a3 rfl rfl (ak rfl bc) (mV rfl (nS (aq (sR (mV rfl (nS ?_))))))
 refine bm z rfl ?_ ?_ <;> clear z <;> intro c z <;> try simp only [qa] at c
 ·refine aq (sR (mV rfl (nS ?_)))
  refine bm z rfl ?_ ?_ <;> clear z <;> intro c z <;> try simp only [qa] at c
  ·refine sR (mI rfl (nS ?_))
   exact rR z rfl rfl rfl
  ·refine ax (am (sR (mI rfl (nS ?_))))
   exact rR z rfl rfl rfl
 ·refine ax (am (aq (sR (mV rfl (nS ?_)))))
  refine bm z rfl ?_ ?_ <;> clear z <;> intro c z <;> try simp only [qa] at c
  ·refine sR (mI rfl (nS ?_))
   exact rR z rfl rfl rfl
  ·refine ax (am (aq (sR (mV rfl (mV rfl (bN cn rfl rfl (nS ?_)))))))
   refine bm z rfl ?_ ?_ <;> clear z <;> intro c z <;> try simp only [qa] at c
   ·refine sR (mI rfl (nS ?_))
    exact rR z rfl rfl rfl
   ·refine ax (am (aq (sR (mV rfl (mV rfl (bN ke rfl rfl (nS ?_)))))))
    refine bm z rfl ?_ ?_ <;> clear z <;> intro c z <;> try simp only [qa] at c
    ·refine sR (mI rfl (nS ?_))
     exact rR z rfl rfl rfl
    ·refine ax (am (sR (mI rfl (nS ?_))))
     exact rR z rfl rfl rfl

def RF140 (n : Int) (r : PV) : Prop := r = vi n
theorem wc {S : List Fr} {n : Int} {x0 : List Int} {v0 : PV} (r0 : (tSl tI).R x0 v0) {K0 : Unit → Int}
  (a3 : K0 () = n → PX Tryz.prog 0 S (QR Tryz.prog [(2, none)] (RF140 n)) [(3, vi 0)] ⟨0, []⟩) :
  ∀ {m : Nat} {a0 : Int} (a2 : m = Int.toNat ((x0.length : Int) - a0)) (a1 : 0 ≤ a0), kf x0 K0 m a0 = n → RC Tryz.prog (.loop bm4) S (QR Tryz.prog [(2, none)] (RF140 n)) [(8, vi a0), (7, vi (x0.length : Int)), (6, v0), (3, vi 0)] ⟨0, []⟩ := by
 intro m
 induction m with
 | zero =>
  intro a0 a2 a1 z
  rw [kf] at z
  refine cj (sR (bN cn rfl rfl (nS (aq ?_))))
  refine cb rfl ?_ ?_ <;> intro c <;> try simp only [qa] at c
  ·omega
  refine dw (fj (dl ?_))
  exact wP (a3  z) rfl
 | succ m ih =>
  intro a0 a2 a1 z
  rw [kf] at z
  refine cj (sR (bN cn rfl rfl (nS (aq ?_))))
  refine cb rfl ?_ ?_ <;> intro c <;> try simp only [qa] at c
  rotate_left
  ·omega
  refine ax (am (aq (bh (sR (ae (bf rfl rfl (slI r0 (by omega) (by omega))) (lR rfl rfl rfl (mV rfl (nR ?_))))))))
  refine mV rfl (mV rfl (bN ig rfl rfl (nS ?_)))
  refine bm z rfl ?_ ?_ <;> clear z <;> intro c z <;> try simp only [qa] at c
  ·refine sR (mV rfl (mV rfl (nS ?_)))
   exact rR z rfl rfl rfl
  ·refine ax (cp (am (aw (bN em rfl rfl (mV rfl (bp (cq ?_)))))))
   have s := db r0
   have o : wr (a0 + 1) = a0 + 1 := de (by omega) (by omega)
   erw [o]
   exact wC (ih   (by omega) (by omega) z) rfl

theorem as1 {x0 : List Int} {v0 : PV} (r0 : (tSl tI).R x0 v0) : FnR Tryz.prog 140 [v0] (vi (ny x0)) := by
 refine fnS (R := RF140) au1 (fun _ h => h) rfl fun n z => ?_
 unfold ny at z
 refine sR (mI rfl (nR (mI rfl (nS (aq (sR (mV rfl (ae (cv rfl (cm r0 Tryz.underlying29 _)) ?_))))))))
 refine mI rfl (nS (bh ?_))
 refine wC (wc r0 ?_  rfl (by omega) z) rfl
 ·intro  z
  refine fx (am (sR (mV rfl (mV rfl (nS ?_)))))
  exact rR z rfl rfl rfl

def RF139 (n : Int) (r : PV) : Prop := r = vi n
theorem cb0 {x0 : aa} {x1 : aa} {v0 v1 : PV} (r0 : aa.t.R x0 v0) (r1 : aa.t.R x1 v1) : FnR Tryz.prog 139 [v0, v1] (vi (iw x0 x1)) := by
 refine fnS (R := RF139) af5 (fun _ h => h) rfl fun n z => ?_
 unfold iw at z
 refine sR (ae (ej rfl (TR.cnt aa.t r0)) (ae (ej rfl (TR.cnt aa.t r1)) (mI rfl (nR (fL rfl (aa.g_Header r0) rfl rfl (fL rfl (aa.g_Header r1) rfl rfl ?_))))))
 obtain ⟨a1, a6, z⟩ := bq z
 have a2 := xi (x0 := x0.Header) (x1 := x1.Header)  
 rw [a6] at a2
 refine cL a2 rfl rfl (ak rfl (ak rfl bc)) (fL rfl (aa.g_Field r0) rfl rfl (fL rfl (aa.g_Field r1) rfl rfl ?_))
 obtain ⟨a0, a5, z⟩ := bq z
 have a3 := xi (x0 := x0.Field) (x1 := x1.Field)  
 rw [a5] at a3
 refine cL a3 rfl rfl (ak rfl (ak rfl bc)) (ae (v := .fs true [vi a1, vi a0]) (fd rfl (all_cons rfl (all_cons rfl iu))) ?_)
 have a4 : (tSl tI).R ([a1, a0] : List Int) (.fs true [vi a1, vi a0]) := mg ⟨rfl, ⟨rfl, trivial⟩⟩ (by simp)
 obtain ⟨a9, a8, z⟩ := bq z
 have a7 := as1  a4 
 rw [a8] at a7
 refine cL a7 rfl rfl (ak (TR.clo (tSl tI) a4) bc) (mV rfl (nS ?_))
 exact rR z rfl rfl rfl

def RF179 (n : Int) (r : PV) : Prop := r = vi n
theorem br7 {x0 : aa} {x1 : aa} {v0 v1 : PV} (r0 : aa.t.R x0 v0) (r1 : aa.t.R x1 v1) : FnR Tryz.prog 179 [v0, v1] (vi (dj x0 x1)) := by
 refine fnS (R := RF179) ae2 (fun _ h => h) rfl fun n z => ?_
 unfold dj at z
 refine sR (ae (ej rfl (TR.cnt aa.t r0)) (ae (ej rfl (TR.cnt aa.t r1)) (mI rfl (nR (fL rfl (aa.g_Header r0) rfl rfl (fL rfl (aa.g_Header r1) rfl rfl ?_))))))
 obtain ⟨a1, a6, z⟩ := bq z
 have a2 := xi (x0 := x0.Header) (x1 := x1.Header)  
 rw [a6] at a2
 refine cL a2 rfl rfl (ak rfl (ak rfl bc)) (fL rfl (aa.g_Field r0) rfl rfl (fL rfl (aa.g_Field r1) rfl rfl ?_))
 obtain ⟨a0, a5, z⟩ := bq z
 have a3 := xi (x0 := x0.Field) (x1 := x1.Field)  
 rw [a5] at a3
 refine cL a3 rfl rfl (ak rfl (ak rfl bc)) (ae (v := .fs true [vi a1, vi a0]) (fd rfl (all_cons rfl (all_cons rfl iu))) ?_)
 have a4 : (tSl tI).R ([a1, a0] : List Int) (.fs true [vi a1, vi a0]) := mg ⟨rfl, ⟨rfl, trivial⟩⟩ (by simp)
 obtain ⟨a9, a8, z⟩ := bq z
 have a7 := as1  a4 
 rw [a8] at a7
 refine cL a7 rfl rfl (ak (TR.clo (tSl tI) a4) bc) (mV rfl (nS ?_))
 exact rR z rfl rfl rfl

def RF138139 (a0 : PV) (R_ : List Ent) (n : List aa) (r : PV) (h : Heap) : Prop := ∃ es : List PV, Mem h (⟨a0, 87, 2, es⟩ :: R_) ∧ All2 aa.t.R n es ∧ n.length ≤ 4611686018427387904 ∧ Wri a0 es ∧ r = .tup []
theorem aq1 {x0 : List aa} {a0 : PV} {a1 : List PV} {R_ : List Ent} {h_ : Heap} (q : All2 aa.t.R x0 a1) (ne : isL a0 = true) (hl : x0.length ≤ 4611686018427387904) (wi : Wri a0 a1) (M : Mem h_ (⟨a0, 87, 2, a1⟩ :: R_)) (hb : x0.length ≤ 1000000) : ∃ r a2, FnX Tryz.prog 138 [a0, .fn (.func 139) [] []] h_ r a2 ∧ RF138139 a0 R_ (il x0) r a2 := by
 obtain ⟨r, h2, X, es', M2, q2, w2, hr⟩ := zm (t := aa.t) (mk := frmk) (enc := frenc) (cf := iw) ag9.enters (fun x v h => h) (fun x => rfl) (fun x => rfl) (fun x => rfl) (fun x u hu => by simp [frenc] at hu; rcases hu with rfl | rfl <;> rfl) (fun x y => cb0 rfl rfl) (fun blk off cap d w hc hH hb hs => Go.Proofs.Tryz.sortF_calls frenc (fun x => rfl) (fun x u hu => by simp [frenc] at hu; rcases hu with rfl | rfl <;> rfl) iw ct5 be3 139 af5.enters blk off cap d w hc hH hb hs) (fun p cap w => Go.Proofs.Tryz.sortF_none p cap _ w) q ne hb wi M
 exact ⟨r, h2, X, es', M2, q2, by rw [il, List.length_mergeSort]; exact hl, w2, hr⟩

def RF138179 (a0 : PV) (R_ : List Ent) (n : List aa) (r : PV) (h : Heap) : Prop := ∃ es : List PV, Mem h (⟨a0, 87, 2, es⟩ :: R_) ∧ All2 aa.t.R n es ∧ n.length ≤ 4611686018427387904 ∧ Wri a0 es ∧ r = .tup []
theorem ap1 {x0 : List aa} {a0 : PV} {a1 : List PV} {R_ : List Ent} {h_ : Heap} (q : All2 aa.t.R x0 a1) (ne : isL a0 = true) (hl : x0.length ≤ 4611686018427387904) (wi : Wri a0 a1) (M : Mem h_ (⟨a0, 87, 2, a1⟩ :: R_)) (hb : x0.length ≤ 1000000) : ∃ r a2, FnX Tryz.prog 138 [a0, .fn (.func 179) [] []] h_ r a2 ∧ RF138179 a0 R_ (dz x0) r a2 := by
 obtain ⟨r, h2, X, es', M2, q2, w2, hr⟩ := zm (t := aa.t) (mk := frmk) (enc := frenc) (cf := dj) ag9.enters (fun x v h => h) (fun x => rfl) (fun x => rfl) (fun x => rfl) (fun x u hu => by simp [frenc] at hu; rcases hu with rfl | rfl <;> rfl) (fun x y => br7 rfl rfl) (fun blk off cap d w hc hH hb hs => Go.Proofs.Tryz.sortF_calls frenc (fun x => rfl) (fun x u hu => by simp [frenc] at hu; rcases hu with rfl | rfl <;> rfl) dj cq0 be8 179 ae2.enters blk off cap d w hc hH hb hs) (fun p cap w => Go.Proofs.Tryz.sortF_none p cap _ w) q ne hb wi M
 exact ⟨r, h2, X, es', M2, q2, by rw [dz, List.length_mergeSort]; exact hl, w2, hr⟩

theorem as3 {x0 : List aa} {a0 : PV} {a1 : List PV} {R_ : List Ent} {h_ : Heap} (q : All2 aa.t.R x0 a1) (ne : isL a0 = true) (hl : x0.length ≤ 4611686018427387904) (wi : Wri a0 a1) (M : Mem h_ (⟨a0, 87, 2, a1⟩ :: R_)) : ∃ r a2, FnX Tryz.prog 142 [a0] h_ r a2 ∧ RF142 R_ (fw x0) r a2 := bj1 q ne hl wi M

def RF66 (n : (List aa)) (r : PV) : Prop := (tSl aa.t).R n r
theorem vx {S : List Fr} {n : (List aa)} {x0 : List ab} {v0 : PV} (r0 : (tSl ab.t).R x0 v0) (hb : x0.length ≤ 1000) {K0 : (List aa) → (List aa)}
  (d0 : ∀ {zE102 : List aa} {a0 : List PV} {a1 : PV} (a4 : All2 aa.t.R zE102 a0) (a6 : isL a1 = true) (a3 : Wri a1 a0) (a5 : zE102.length ≤ 4611686018427387904) (d3 : zE102.length ≤ 1000) {h : Heap} (M0 : Mem h [⟨a1, 87, 2, a0⟩]), K0 zE102 = n → PX Tryz.prog 0 S (QR Tryz.prog [(2, none)] (RF66 n)) [(3, a1)] h) :
  ∀ {m : Nat} {a2 : Int} {zE102 : List aa} {a0 : List PV} {a1 : PV} (a4 : All2 aa.t.R zE102 a0) (a6 : isL a1 = true) (a3 : Wri a1 a0) (a5 : zE102.length ≤ 4611686018427387904) (c8 : m = Int.toNat ((x0.length : Int) - a2)) (b8 : 0 ≤ a2) (b0 : (zE102.length : Int) ≤ a2) (b1 : a2 ≤ (x0.length : Int)) {h : Heap} (M0 : Mem h [⟨a1, 87, 2, a0⟩]), ga x0 K0 m a2 zE102 = n → RC Tryz.prog (.loop bq8) S (QR Tryz.prog [(2, none)] (RF66 n)) [(8, vi a2), (7, vi (x0.length : Int)), (6, v0), (3, a1)] h := by
 have hb' := hb
 try simp only [qa] at hb'
 intro m
 induction m with
 | zero =>
  intro a2 zE102 a0 a1 a4 a6 a3 a5 c8 b8 b0 b1 h M0 z
  rw [ga] at z
  refine cj (sR (bN cn rfl rfl (nS (aq ?_))))
  refine cb rfl ?_ ?_ <;> intro c <;> try simp only [qa] at c
  ·omega
  refine dw (fj (dl ?_))
  exact wP (d0 a4 a6 a3 a5 (by omega) (Mem.sub M0 (.cons_cons _ .slnil)) z) rfl
 | succ m ih =>
  intro a2 zE102 a0 a1 a4 a6 a3 a5 c8 b8 b0 b1 h M0 z
  rw [ga] at z
  refine cj (sR (bN cn rfl rfl (nS (aq ?_))))
  refine cb rfl ?_ ?_ <;> intro c <;> try simp only [qa] at c
  rotate_left
  ·omega
  refine ax (am (aq (bh (sR ?_))))
  obtain ⟨b9, c3, a8⟩ := cz (i := a2) r0 (by omega) (by omega)
  refine ae (bf rfl rfl c3) (lD a8 rfl rfl rfl ?_)
  refine gh (x := .agg [vi 0, vi 0, vi 0]) M0 rfl rfl (fun c5 c6 c9 c4 => ?_)
  refine fu (k := 0) (v := b9) c4 rfl rfl rfl (TR.cnt ab.t a8) (fun b7 a7 => ?_)
  replace a7 : Mem b7 [⟨.op c5 c6 0, 113, 3, [b9]⟩, ⟨a1, 87, 2, a0⟩] := a7
  refine nR (ae (ba rfl) (ae (br (k := 0) a7 rfl rfl (ab.g_Op a8)) (bN dc rfl rfl (nS ?_))))
  refine bm z rfl ?_ ?_ <;> clear z <;> intro c z <;> try simp only [qa] at c
  ·refine aw (mV rfl (ae (ba rfl) (ae (br (k := 0) a7 rfl rfl (ab.g_N a8)) (ae (ba rfl) (ae (br (k := 0) a7 rfl rfl (ab.g_W a8)) (ae (v := .agg [vi ((ix x0 a2).N), vi ((ix x0 a2).W)]) (me (cs := [vi ((ix x0 a2).N), vi ((ix x0 a2).W)]) rfl rfl) (ae (v := .fs true [.agg [vi ((ix x0 a2).N), vi ((ix x0 a2).W)]]) (fd rfl (all_cons rfl iu)) ?_)))))))
   have c2 : (tSl aa.t).R ([({ Header := (ix x0 a2).N, Field := (ix x0 a2).W } : aa)] : List aa) (.fs true [.agg [vi ((ix x0 a2).N), vi ((ix x0 a2).W)]]) := mg ⟨rfl, trivial⟩ (by simp)
   obtain ⟨a9, b4, b2⟩ := lb (t := aa.t) (h := b7) c2
   have b5 : fits (a0.length + a9.length) 16 = true := by rw [All2.length_eq a4, All2.length_eq b2]; (try simp only [List.length_cons, List.length_nil]); exact jl (by first | omega | (simp only [List.length_append, List.length_cons, List.length_nil]; omega)) (by first | omega | (simp only [List.length_append, List.length_cons, List.length_nil]; omega))
   refine jk (k := 1) (es := a0) (news := a9) a7 rfl rfl rfl a6 a3 b4 b5 (fun d1 d2 c7 c0 c1 => ?_)
   have b6 : All2 aa.t.R (zE102 ++ ([({ Header := (ix x0 a2).N, Field := (ix x0 a2).W } : aa)] : List aa)) (a0 ++ a9) := All2.app a4 b2
   have b3 : (zE102 ++ ([({ Header := (ix x0 a2).N, Field := (ix x0 a2).W } : aa)] : List aa)).length ≤ 4611686018427387904 := by rw [← All2.length_eq b6, List.length_append]; exact gy b5
   refine mV rfl (bp (cp (am (aw (bN em rfl rfl (mV rfl (bp (cq ?_))))))))
   have s := db r0
   have o : wr (a2 + 1) = a2 + 1 := de (by omega) (by omega)
   erw [o]
   exact wC (ih  b6 c7 c0 b3 (by omega) (by omega) (by first | omega | (simp only [List.length_append, List.length_cons, List.length_nil]; omega)) (by first | omega | (simp only [List.length_append, List.length_cons, List.length_nil]; omega)) (Mem.sub c1 (.cons _ (.cons_cons _ .slnil))) z) rfl
  ·refine ax (cp (am (aw (bN em rfl rfl (mV rfl (bp (cq ?_)))))))
   have s := db r0
   have o : wr (a2 + 1) = a2 + 1 := de (by omega) (by omega)
   erw [o]
   exact wC (ih  a4 a6 a3 a5 (by omega) (by omega) (by first | omega | (simp only [List.length_append, List.length_cons, List.length_nil]; omega)) (by first | omega | (simp only [List.length_append, List.length_cons, List.length_nil]; omega)) (Mem.sub a7 (.cons _ (.cons_cons _ .slnil))) z) rfl

theorem co4 {x0 : List ab} {v0 : PV} (r0 : (tSl ab.t).R x0 v0) (hb : x0.length ≤ 1000) : ∃ r, FnR Tryz.prog 66 [v0] r ∧ (tSl aa.t).R (jv x0) r := by
 refine fnT (R := RF66) bg8 rfl fun n z => ?_
 unfold jv at z
 refine sR (ae (v := nilS) (av rfl) (nR (ae (v := nilS) (av rfl) (nS (aq (sR (mV rfl (ae (cv rfl (cm r0 Tryz.underlying32 _)) ?_))))))))
 refine mI rfl (nS (bh ?_))
 have d4 := nu (sz := 2) (es := []) (Mem.nil ⟨0, []⟩) 87 (.inl ⟨none, rfl, rfl⟩) (by simp)
 refine wC (vx r0 hb ?_  aL rfl (.inl rfl) (by first | decide | simp) rfl (by omega) (by first | omega | simp) (by first | omega | simp) (Mem.sub d4 (.cons_cons _ .slnil)) z) rfl
 ·intro a5 a2 a1 b2 a0 a3 a4 c4 d3 d0 z
  refine fx (am (aq (gu (df (mV rfl (dg ?_))))))
  have d6 : Mem d3 [⟨a1, 87, 2, a2⟩] := (Mem.front (k := 0) d0 rfl)
  obtain ⟨c6, b8, z⟩ := bq z
  obtain ⟨d7, c7, b9, b7⟩ := aq1 (x0 := a5) b2 a0 a4 a3 d6 (by first | assumption | omega | (rw [de (by omega) (by omega)]; omega))
  rw [b8] at b7
  obtain ⟨b0, c8, a9, b1, a8, a6⟩ := b7
  replace a6 := a6.symm; subst a6
  refine ko rfl rfl b9 (mq (am (aq (gu (df (mV rfl (dg ?_)))))))
  have d2 : Mem c7 [⟨a1, 87, 2, b0⟩] := (Mem.front (k := 0) c8 rfl)
  obtain ⟨e1, c1, z⟩ := bq z
  obtain ⟨d8, d9, c0, b6⟩ := as3 (x0 := c6) a9 a0 b1 a8 d2 
  rw [c1] at b6
  obtain ⟨c5, c2, c9, b4, b5, b3, c3, a7⟩ := b6
  replace a7 := a7.symm; subst a7
  refine ko rfl rfl c0 (df (mV rfl (dg (mq (am ?_)))))
  obtain ⟨e0, d5, d1⟩ := ob (P := Tryz.prog) (k := 0) (t := aa.t) c9 rfl b5 b4 (Nat.le_trans b3 (by decide))
  subst z
  exact gm (.tmp rfl .nil) d5 d1

def RF143 (a0 : PV) (R_ : List Ent) (n : List Int) (r : PV) (h : Heap) : Prop := ∃ es : List PV, Mem h (⟨a0, 3, 1, es⟩ :: R_) ∧ All2 tI.R n es ∧ n.length ≤ 4611686018427387904 ∧ Wri a0 es ∧ r = .tup []
theorem ad5 {x0 : List Int} {a0 : PV} {a1 : List PV} {R_ : List Ent} {h_ : Heap} (q : All2 tI.R x0 a1) (ne : isL a0 = true) (hl : x0.length ≤ 4611686018427387904) (wi : Wri a0 a1) (M : Mem h_ (⟨a0, 3, 1, a1⟩ :: R_)) (hb : x0.length ≤ 1000000) : ∃ r a2, FnX Tryz.prog 143 [a0] h_ r a2 ∧ RF143 a0 R_ (dq x0) r a2 := by
 obtain ⟨r, h2, X, es', M2, q2, w2, hr⟩ := an3 ar3.enters Go.Proofs.Tryz.sortI_calls Go.Proofs.Tryz.sortI_none q ne hb wi M
 exact ⟨r, h2, X, es', M2, q2, by rw [dq, List.length_mergeSort]; exact hl, w2, hr⟩

theorem af8 {x0 : List Int} {a0 : PV} {a1 : List PV} {R_ : List Ent} {h_ : Heap} (q : All2 tI.R x0 a1) (ne : isL a0 = true) (hl : x0.length ≤ 4611686018427387904) (wi : Wri a0 a1) (M : Mem h_ (⟨a0, 3, 1, a1⟩ :: R_)) : ∃ r a2, FnX Tryz.prog 144 [a0] h_ r a2 ∧ RF144 R_ (jq x0) r a2 := bg7 q ne hl wi M

def RF67 (n : (List Int)) (r : PV) : Prop := (tSl tI).R n r
theorem ue {S : List Fr} {n : (List Int)} {x0 : List ab} {v0 : PV} (r0 : (tSl ab.t).R x0 v0) (hb : x0.length ≤ 1000) {K0 : (List Int) → (List Int)}
  (d0 : ∀ {zE102 : List Int} {a0 : List PV} {a1 : PV} (a3 : All2 tI.R zE102 a0) (a5 : isL a1 = true) (a2 : Wri a1 a0) (a4 : zE102.length ≤ 4611686018427387904) (d3 : zE102.length ≤ 1000) {h : Heap} (M0 : Mem h [⟨a1, 3, 1, a0⟩]), K0 zE102 = n → PX Tryz.prog 0 S (QR Tryz.prog [(2, none)] (RF67 n)) [(3, a1)] h) :
  ∀ {m : Nat} {a6 : Int} {zE102 : List Int} {a0 : List PV} {a1 : PV} (a3 : All2 tI.R zE102 a0) (a5 : isL a1 = true) (a2 : Wri a1 a0) (a4 : zE102.length ≤ 4611686018427387904) (c8 : m = Int.toNat ((x0.length : Int) - a6)) (b8 : 0 ≤ a6) (b0 : (zE102.length : Int) ≤ a6) (b1 : a6 ≤ (x0.length : Int)) {h : Heap} (M0 : Mem h [⟨a1, 3, 1, a0⟩]), fg x0 K0 m a6 zE102 = n → RC Tryz.prog (.loop ch4) S (QR Tryz.prog [(2, none)] (RF67 n)) [(8, vi a6), (7, vi (x0.length : Int)), (6, v0), (3, a1)] h := by
 have hb' := hb
 try simp only [qa] at hb'
 intro m
 induction m with
 | zero =>
  intro a6 zE102 a0 a1 a3 a5 a2 a4 c8 b8 b0 b1 h M0 z
  rw [fg] at z
  refine cj (sR (bN cn rfl rfl (nS (aq ?_))))
  refine cb rfl ?_ ?_ <;> intro c <;> try simp only [qa] at c
  ·omega
  refine dw (fj (dl ?_))
  exact wP (d0 a3 a5 a2 a4 (by omega) (Mem.sub M0 (.cons_cons _ .slnil)) z) rfl
 | succ m ih =>
  intro a6 zE102 a0 a1 a3 a5 a2 a4 c8 b8 b0 b1 h M0 z
  rw [fg] at z
  refine cj (sR (bN cn rfl rfl (nS (aq ?_))))
  refine cb rfl ?_ ?_ <;> intro c <;> try simp only [qa] at c
  rotate_left
  ·omega
  refine ax (am (aq (bh (sR ?_))))
  obtain ⟨b9, c3, a9⟩ := cz (i := a6) r0 (by omega) (by omega)
  refine ae (bf rfl rfl c3) (lD a9 rfl rfl rfl ?_)
  refine gh (x := .agg [vi 0, vi 0, vi 0]) M0 rfl rfl (fun c5 c6 c9 c4 => ?_)
  refine fu (k := 0) (v := b9) c4 rfl rfl rfl (TR.cnt ab.t a9) (fun b7 a7 => ?_)
  replace a7 : Mem b7 [⟨.op c5 c6 0, 113, 3, [b9]⟩, ⟨a1, 3, 1, a0⟩] := a7
  refine nR (ae (ba rfl) (ae (br (k := 0) a7 rfl rfl (ab.g_Op a9)) (bN dc rfl rfl (nS ?_))))
  refine bm z rfl ?_ ?_ <;> clear z <;> intro c z <;> try simp only [qa] at c
  ·refine aw (mV rfl (ae (ba rfl) (ae (br (k := 0) a7 rfl rfl (ab.g_N a9)) (ae (v := .fs true [vi ((ix x0 a6).N)]) (fd rfl (all_cons rfl iu)) ?_))))
   have c2 : (tSl tI).R ([(ix x0 a6).N] : List Int) (.fs true [vi ((ix x0 a6).N)]) := mg ⟨rfl, trivial⟩ (by simp)
   obtain ⟨a8, b4, b2⟩ := lb (t := tI) (h := b7) c2
   have b5 : fits (a0.length + a8.length) 8 = true := by rw [All2.length_eq a3, All2.length_eq b2]; (try simp only [List.length_cons, List.length_nil]); exact jl (by first | omega | (simp only [List.length_append, List.length_cons, List.length_nil]; omega)) (by first | omega | (simp only [List.length_append, List.length_cons, List.length_nil]; omega))
   refine jk (k := 1) (es := a0) (news := a8) a7 rfl rfl rfl a5 a2 b4 b5 (fun d1 d2 c7 c0 c1 => ?_)
   have b6 : All2 tI.R (zE102 ++ ([(ix x0 a6).N] : List Int)) (a0 ++ a8) := All2.app a3 b2
   have b3 : (zE102 ++ ([(ix x0 a6).N] : List Int)).length ≤ 4611686018427387904 := by rw [← All2.length_eq b6, List.length_append]; exact gy b5
   refine mV rfl (bp (cp (am (aw (bN em rfl rfl (mV rfl (bp (cq ?_))))))))
   have s := db r0
   have o : wr (a6 + 1) = a6 + 1 := de (by omega) (by omega)
   erw [o]
   exact wC (ih  b6 c7 c0 b3 (by omega) (by omega) (by first | omega | (simp only [List.length_append, List.length_cons, List.length_nil]; omega)) (by first | omega | (simp only [List.length_append, List.length_cons, List.length_nil]; omega)) (Mem.sub c1 (.cons _ (.cons_cons _ .slnil))) z) rfl
  ·refine ax (cp (am (aw (bN em rfl rfl (mV rfl (bp (cq ?_)))))))
   have s := db r0
   have o : wr (a6 + 1) = a6 + 1 := de (by omega) (by omega)
   erw [o]
   exact wC (ih  a3 a5 a2 a4 (by omega) (by omega) (by first | omega | (simp only [List.length_append, List.length_cons, List.length_nil]; omega)) (by first | omega | (simp only [List.length_append, List.length_cons, List.length_nil]; omega)) (Mem.sub a7 (.cons _ (.cons_cons _ .slnil))) z) rfl

theorem ck6 {x0 : List ab} {v0 : PV} (r0 : (tSl ab.t).R x0 v0) (hb : x0.length ≤ 1000) : ∃ r, FnR Tryz.prog 67 [v0] r ∧ (tSl tI).R (jb x0) r := by
 refine fnT (R := RF67) bd9 rfl fun n z => ?_
 unfold jb at z
 refine sR (ae (v := nilS) (av rfl) (nR (ae (v := nilS) (av rfl) (nS (aq (sR (mV rfl (ae (cv rfl (cm r0 Tryz.underlying32 _)) ?_))))))))
 refine mI rfl (nS (bh ?_))
 have d4 := nu (sz := 1) (es := []) (Mem.nil ⟨0, []⟩) 3 (.inl ⟨none, rfl, rfl⟩) (by simp)
 refine wC (ue r0 hb ?_  aL rfl (.inl rfl) (by first | decide | simp) rfl (by omega) (by first | omega | simp) (by first | omega | simp) (Mem.sub d4 (.cons_cons _ .slnil)) z) rfl
 ·intro a5 a2 a1 b2 a0 a3 a4 c4 d3 d0 z
  refine fx (am (aq (gu (df (mV rfl (dg ?_))))))
  have d6 : Mem d3 [⟨a1, 3, 1, a2⟩] := (Mem.front (k := 0) d0 rfl)
  obtain ⟨c6, b8, z⟩ := bq z
  obtain ⟨d7, c7, b9, b7⟩ := ad5 (x0 := a5) b2 a0 a4 a3 d6 (by first | assumption | omega | (rw [de (by omega) (by omega)]; omega))
  rw [b8] at b7
  obtain ⟨b0, c8, a9, b1, a8, a6⟩ := b7
  replace a6 := a6.symm; subst a6
  refine ko rfl rfl b9 (mq (am (aq (gu (df (mV rfl (dg ?_)))))))
  have d2 : Mem c7 [⟨a1, 3, 1, b0⟩] := (Mem.front (k := 0) c8 rfl)
  obtain ⟨e1, c1, z⟩ := bq z
  obtain ⟨d8, d9, c0, b6⟩ := af8 (x0 := c6) a9 a0 b1 a8 d2 
  rw [c1] at b6
  obtain ⟨c5, c2, c9, b4, b5, b3, c3, a7⟩ := b6
  replace a7 := a7.symm; subst a7
  refine ko rfl rfl c0 (df (mV rfl (dg (mq (am ?_)))))
  obtain ⟨e0, d5, d1⟩ := ob (P := Tryz.prog) (k := 0) (t := tI) c9 rfl b5 b4 (Nat.le_trans b3 (by decide))
  subst z
  exact gm (.tmp rfl .nil) d5 d1

end Go.Proofs.YtmonnlkagniolaaGreat
