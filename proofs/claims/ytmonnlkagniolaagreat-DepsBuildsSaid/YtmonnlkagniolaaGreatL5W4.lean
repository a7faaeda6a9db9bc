/-
 The code of each function does what its plain program says.
-/
import Derived.Test.YtmonnlkagniolaaGreatL5W3
set_option linter.unusedVariables false
set_option linter.unusedSimpArgs false
set_option maxRecDepth 100000
namespace Go.Proofs.YtmonnlkagniolaaGreat
open Go Go.Pb Go.RowKit
def RF104 (res : Int) (r : PV) : Prop := r = vi res
theorem cx9 {x0 : di} {x1 : au} {v0 v1 : PV} (r0 : di.t.R x0 v0) (r1 : au.t.R x1 v1) : FnR Tryz.prog 104 [v0, v1] (vi (ep x0 x1)) := by
 refine fnS (R := RF104) ck8 (fun _ h => h) rfl fun res z => ?_
 unfold ep at z
 refine sR (af (dw rfl (TR.cnt di.t r0)) (af (dw rfl (TR.cnt au.t r1)) (mI rfl (nR ?_))))
 obtain ⟨f5, f2, e9⟩ := di.g_scope r0
 refine fA rfl f2 (gL (bc.g_Program e9) rfl rfl rfl fun b1 a2 => ?_)
 refine fa (x := .agg [vs [], nilS, nilS, nilS, nilS, nilS, nilS, nilS, nilS]) (Mem.nil ⟨0, []⟩) rfl rfl (fun a8 b0 f7 f3 => ?_)
 refine ek (k := 0) (v := b1) f3 rfl rfl rfl (TR.cnt ae.t a2) (fun e8 a5 => ?_)
 replace a5 : Mem e8 [⟨.op a8 b0 0, 31, 9, [b1]⟩] := a5
 refine nR (af (pw (k := 0) a5 rfl rfl (TR.agg ae.t a2)) (gL (au.g_Dst r1) rfl rfl rfl fun f6 d5 => ?_))
 obtain ⟨a3, c6, z⟩ := br z
 have c5 := cp5  a2 d5 
 rw [c6] at c5
 refine cL c5 rfl rfl (aj (TR.clo ae.t a2) (aj (TR.clo aa.t d5) bh)) (mV rfl (xT rfl rfl (xT rfl rfl (mV rfl (mV rfl (nR (fL rfl (au.g_Register r1) rfl rfl (bN kj rfl rfl ?_))))))))
 refine mV rfl ?_
 refine cm 7 (d := 31) (v := vb ((decide (0 ≤ x1.Register)) && (decide (x1.Register < (x0.scope.Program.Registers.length : Int))))) ?_ ?_
 ·intro S Q r
  cases b6 : (decide (0 ≤ x1.Register))
  ·exact gN 6 rfl rfl rfl rfl rfl rfl
  ·intro k
   have b4 := b6
   try simp only [qa] at b4
   refine ai rfl rfl (co rfl (au.g_Register r1)) (ai rfl rfl (ck rfl rfl rfl) (ai rfl rfl (bg rfl) ?_))
   obtain ⟨g4, e5, e3⟩ := ae.g_Registers a2
   refine ai rfl rfl (cg (k := 0) a5 rfl rfl e5) (ai rfl rfl (cp rfl (ca e3 Tryz.underlying24 _)) (ai rfl rfl (ct rfl rfl cn) ?_))
   exact gK rfl rfl rfl rfl rfl k
 refine mV rfl (nS (am (sR (fL rfl (au.g_Kind r1) rfl rfl (nS (bf (sR (bN dt rfl rfl ?_))))))))
 refine mV rfl (nS ?_)
 refine cd z rfl ?_ ?_ <;> clear z <;> intro c z <;> try simp only [qa] at c
 ·refine am (sR (mV rfl (af (ju rfl) (nS ?_))))
  refine cd z rfl ?_ ?_ <;> clear z <;> intro c z <;> try simp only [qa] at c
  ·refine sR (mI rfl (nS ?_))
   exact rR z rfl rfl rfl
  ·refine ax (ap (sR (lD r0 rfl rfl rfl (gL (au.g_Value r1) rfl rfl rfl fun g1 d4 => (mV rfl ?_)))))
   obtain ⟨h0, d3, z⟩ := br z
   have c4 := bk2 (x2 := a3.1) r0 d4 
   rw [d3] at c4
   refine cL c4 rfl rfl (aj (TR.clo di.t r0) (aj (TR.clo (tSl ah.t) d4) (aj rfl bh))) (mV rfl (nS ?_))
   exact rR z rfl rfl rfl
 ·refine am (sR (bN dt rfl rfl (mV rfl (nS ?_))))
  obtain ⟨f0, c2, z⟩ := br z
  refine nd (F := fun b S Q => ∀ (a1 : Bool) (a7 : Heap) (a4 : Mem a7 [⟨.op a8 b0 0, 31, 9, [b1]⟩]), f0 a1 = res → RC Tryz.prog b S Q [(43, vb a1), (33, vi x1.Kind), (8, vb ((decide (0 ≤ x1.Register)) && (decide (x1.Register < (x0.scope.Program.Registers.length : Int))))), (7, vb a3.2), (6, vi a3.1), (5, .op a8 b0 0), (3, .fp v1), (2, .fp v0)] a7) ?_ ?_
  ·intro a1 a7 a4 z
   rw [← c2] at z
   refine cd z rfl ?_ ?_ <;> clear z <;> intro c z <;> try simp only [qa] at c
   ·refine am (sR (fL rfl (au.g_Header r1) rfl rfl (bN cn rfl rfl (mV rfl ?_))))
    refine cm 7 (d := 56) (v := vb ((decide (x1.Header < 0)) || (decide ((x0.scope.Program.Headers.length : Int) ≤ x1.Header)))) ?_ ?_
    ·intro S Q r
     cases d0 : (decide (x1.Header < 0))
     ·intro k
      have b3 := d0
      try simp only [qa] at b3
      refine ai rfl rfl (co rfl (au.g_Header r1)) (ai rfl rfl (ck rfl rfl rfl) (ai rfl rfl (bg rfl) ?_))
      obtain ⟨f9, e6, f1⟩ := ae.g_Headers a2
      refine ai rfl rfl (cg (k := 0) a4 rfl rfl e6) (ai rfl rfl (cp rfl (ca f1 Tryz.underlying22 _)) (ai rfl rfl (ct rfl rfl kj) ?_))
      exact gK rfl rfl rfl rfl rfl k
     ·exact gN 6 rfl rfl rfl rfl rfl rfl
    refine nS ?_
    refine cd z rfl ?_ ?_ <;> clear z <;> intro c z <;> try simp only [qa] at c
    ·refine sR (mI rfl (nS ?_))
     exact rR z rfl rfl rfl
    ·refine ax (ap (sR (mI rfl (nS ?_))))
     exact rR z rfl rfl rfl
   ·refine am (sR (bN dt rfl rfl (mV rfl (nS ?_))))
    obtain ⟨d7, b8, z⟩ := br z
    refine nd (F := fun b S Q => ∀ (a0 : Bool) (a6 : Heap) (a9 : Mem a6 [⟨.op a8 b0 0, 31, 9, [b1]⟩]), d7 a0 = res → RC Tryz.prog b S Q [(57, vb a0), (8, vb ((decide (0 ≤ x1.Register)) && (decide (x1.Register < (x0.scope.Program.Registers.length : Int))))), (7, vb a3.2), (6, vi a3.1), (5, .op a8 b0 0), (3, .fp v1), (2, .fp v0)] a6) ?_ ?_
    ·intro a0 a6 a9 z
     rw [← b8] at z
     refine cd z rfl ?_ ?_ <;> clear z <;> intro c z <;> try simp only [qa] at c
     ·refine am (sR (mV rfl (af (ju rfl) (mV rfl ?_))))
      refine cm 8 (d := 70) (v := vb ((!((decide (0 ≤ x1.Register)) && (decide (x1.Register < (x0.scope.Program.Registers.length : Int))))) || ((decide (x1.Kind = 4)) && (!a3.2)))) ?_ ?_
      ·intro S Q r
       cases d2 : (!((decide (0 ≤ x1.Register)) && (decide (x1.Register < (x0.scope.Program.Registers.length : Int)))))
       ·intro k
        have b5 := d2
        try simp only [qa] at b5
        refine ai rfl rfl (co rfl (au.g_Kind r1)) (ai rfl rfl (ck rfl rfl rfl) (ai rfl rfl (ct rfl rfl dt) (ai rfl rfl (ay rfl) ?_)))
        refine cm 3 (d := 69) (v := vb ((decide (x1.Kind = 4)) && (!a3.2))) ?_ ?_
        ·intro S Q r
         cases c8 : (decide (x1.Kind = 4))
         ·intro k
          refine ja rfl rfl (ja rfl rfl (ai (v := vb false) rfl rfl (po rfl rfl rfl rfl) ?_))
          exact wD k rfl
         ·intro k
          have b2 := c8
          try simp only [qa] at b2
          refine ai rfl rfl (ay rfl) (ai rfl rfl (ju rfl) (ai (v := vb (!a3.2)) rfl rfl (po rfl rfl rfl rfl) ?_))
          exact wD k rfl
        exact gK rfl rfl rfl rfl rfl k
       ·exact gN 7 rfl rfl rfl rfl rfl rfl
      refine nS ?_
      refine cd z rfl ?_ ?_ <;> clear z <;> intro c z <;> try simp only [qa] at c
      ·refine sR (mI rfl (nS ?_))
       exact rR z rfl rfl rfl
      ·refine ax (ap (am (sR (gL (au.g_Index r1) rfl rfl rfl fun g8 d1 => (gL (di.g_scope r0) rfl rfl rfl fun f8 b9 => ?_)))))
       obtain ⟨g9, c3, z⟩ := br z
       have c9 := bh8  d1 b9 
       rw [c3] at c9
       refine cL c9 rfl rfl (aj (TR.clo (tSl ah.t) d1) (aj (TR.clo bc.t b9) bh)) (mV rfl (xT rfl rfl (xT rfl rfl (mV rfl (mV rfl (nR (mV rfl (bN lx rfl rfl ?_))))))))
       refine nS ?_
       refine cd z rfl ?_ ?_ <;> clear z <;> intro c z <;> try simp only [qa] at c
       ·refine sR (mV rfl (mV rfl (nS ?_)))
        exact rR z rfl rfl rfl
       ·refine ax (ap (am (sR (fL rfl (au.g_Kind r1) rfl rfl (bN dt rfl rfl (nS ?_))))))
        refine cd z rfl ?_ ?_ <;> clear z <;> intro c z <;> try simp only [qa] at c
        ·refine sR (lD r0 rfl rfl rfl (gL (au.g_Value r1) rfl rfl rfl fun g7 d6 => (af (bg rfl) ?_)))
         obtain ⟨g3, d8, e0⟩ := ae.g_Registers a2
         refine af (cg (k := 0) a9 rfl rfl d8) (fL rfl (au.g_Register r1) rfl rfl ?_)
         obtain ⟨g6, e7, f4⟩ := de (i := x1.Register) e0 (by omega) (by omega)
         refine af (bd rfl rfl e7) (fL rfl (cq.g_Width f4) rfl rfl ?_)
         obtain ⟨g5, b7, z⟩ := br z
         have c7 := bk2 (x2 := (ix x0.scope.Program.Registers x1.Register).Width) r0 d6 
         rw [b7] at c7
         refine cL c7 rfl rfl (aj (TR.clo di.t r0) (aj (TR.clo (tSl ah.t) d6) (aj rfl bh))) (mV rfl (nS ?_))
         exact rR z rfl rfl rfl
        ·refine ax (ap (am (sR (mV rfl (af (bg rfl) ?_)))))
         obtain ⟨g2, e2, e4⟩ := ae.g_Registers a2
         refine af (cg (k := 0) a9 rfl rfl e2) (fL rfl (au.g_Register r1) rfl rfl ?_)
         obtain ⟨g0, e1, d9⟩ := de (i := x1.Register) e4 (by omega) (by omega)
         refine af (bd rfl rfl e1) (fL rfl (cq.g_Width d9) rfl rfl (bN lx rfl rfl (nS ?_)))
         refine cd z rfl ?_ ?_ <;> clear z <;> intro c z <;> try simp only [qa] at c
         ·refine sR (mI rfl (nS ?_))
          exact rR z rfl rfl rfl
         ·refine ax (ap (sR (mI rfl (nS ?_))))
          exact rR z rfl rfl rfl
     ·refine ax (cy (ap (sR (mI rfl (nS ?_)))))
      exact rR z rfl rfl rfl
    ·intro J
     refine cd z rfl ?_ ?_ <;> clear z <;> intro c z <;> try simp only [qa] at c
     ·refine ax ?_
      refine ap (wC (J _ _ (Mem.sub a4 (.cons_cons _ .slnil)) z) rfl)
     ·refine av (bN dt rfl rfl (mV rfl (bn ?_)))
      refine ap (wC (J _ _ (Mem.sub a4 (.cons_cons _ .slnil)) z) rfl)
  ·intro J
   refine cd z rfl ?_ ?_ <;> clear z <;> intro c z <;> try simp only [qa] at c
   ·refine ax ?_
    refine ap (wC (J _ _ (Mem.sub a5 (.cons_cons _ .slnil)) z) rfl)
   ·refine av (bN dt rfl rfl (mV rfl (bn ?_)))
    refine ap (wC (J _ _ (Mem.sub a5 (.cons_cons _ .slnil)) z) rfl)

def RF35 (res : Int × Int) (r : PV) : Prop := r = .tup [vi res.1, vi res.2]
theorem zg {S : List Fr} {res : Int × Int} {x0 : ae} {x1 c4 : Int} {b2 a3 a4 a0 a2 a7 a5 a1 a6 c7 : PV} {b1 b3 : Nat} (c2 : ((decide (x1 < 0)) || (decide ((x0.Actions.length : Int) ≤ x1))) = false) (d3 : kp (ix x0.Actions x1) = c4) (c6 : (!decide (c4 = 0)) = false) (b9 : (tSl au.t).R ((ix x0.Actions x1).Body) c7) (b4 : di.t.R ({ scope := ({ Program := x0, Params := (ix x0.Actions x1).Params } : bc) } : di) (.agg [vs x0.Name, a3, a4, a0, a2, a7, a5, a1, a6, b2])) {K0 : Unit → (Int × Int)}
  (d7 : ∀ {h : Heap} (M0 : Mem h [⟨.op b1 b3 0, 151, 10, [.agg [vs x0.Name, a3, a4, a0, a2, a7, a5, a1, a6, b2]]⟩]), K0 () = res → PX Tryz.prog 0 S (QR Tryz.prog [(4, none), (5, none)] (RF35 res)) [] h) :
  ∀ {m : Nat} {a8 : Int} (d4 : m = Int.toNat ((((ix x0.Actions x1).Body).length : Int) - a8)) (b8 : 0 ≤ a8) {h : Heap} (M0 : Mem h [⟨.op b1 b3 0, 151, 10, [.agg [vs x0.Name, a3, a4, a0, a2, a7, a5, a1, a6, b2]]⟩]), kh x0 x1 K0 m a8 = res → RC Tryz.prog (.loop co8) S (QR Tryz.prog [(4, none), (5, none)] (RF35 res)) [(37, vi a8), (36, vi (((ix x0.Actions x1).Body).length : Int)), (35, c7), (7, .op b1 b3 0)] h := by
 have b5 := c2
 try simp only [qa] at b5
 have b6 := c6
 try simp only [qa] at b6
 intro m
 induction m with
 | zero =>
  intro a8 d4 b8 h M0 z
  rw [kh] at z
  refine bv (sR (bN cn rfl rfl (nS (am ?_))))
  refine bp rfl ?_ ?_ <;> intro c <;> try simp only [qa] at c
  ·omega
  refine dg (dq (dc ?_))
  exact wP (d7 (Mem.sub M0 (.cons_cons _ .slnil)) z) rfl
 | succ m ih =>
  intro a8 d4 b8 h M0 z
  rw [kh] at z
  refine bv (sR (bN cn rfl rfl (nS (am ?_))))
  refine bp rfl ?_ ?_ <;> intro c <;> try simp only [qa] at c
  rotate_left
  ·omega
  refine ax (ap (am (bf (sR (mV rfl ?_)))))
  obtain ⟨c3, d1, b0⟩ := de (i := a8) b9 (by omega) (by omega)
  refine af (bd rfl rfl d1) (lD b0 rfl rfl rfl ?_)
  refine fa (x := .agg [vi 0, vi 0, vi 0, vi 0, vi 0, nilS, nilS]) M0 rfl rfl (fun c8 c9 d6 d0 => ?_)
  refine mV rfl ?_
  refine ek (k := 0) (v := c3) d0 rfl rfl rfl (TR.cnt au.t b0) (fun d2 a9 => ?_)
  replace a9 : Mem d2 [⟨.op c8 c9 0, 135, 7, [c3]⟩, ⟨.op b1 b3 0, 151, 10, [.agg [vs x0.Name, a3, a4, a0, a2, a7, a5, a1, a6, b2]]⟩] := a9
  refine nR (af (pw (k := 1) a9 rfl rfl (TR.agg di.t b4)) (af (pw (k := 0) a9 rfl rfl (TR.agg au.t b0)) ?_))
  obtain ⟨d5, b7, z⟩ := br z
  have c5 := cx9  b4 b0 
  rw [b7] at c5
  refine cL c5 rfl rfl (aj (TR.clo di.t b4) (aj (TR.clo au.t b0) bh)) (mV rfl (nR (mV rfl (bN lx rfl rfl (nS ?_)))))
  refine cd z rfl ?_ ?_ <;> clear z <;> intro c z <;> try simp only [qa] at c
  ·refine sR (mV rfl (mV rfl (mV rfl (mV rfl (nS ?_)))))
   exact rT z rfl rfl rfl rfl rfl
  ·refine ax (cy (ap (av (bN dp rfl rfl (mV rfl (bn (cv ?_)))))))
   have s := da b9
   have o : wr (a8 + 1) = a8 + 1 := dj (by omega) (by omega)
   erw [o]
   exact wC (ih   (by omega) (by omega) (Mem.sub a9 (.cons _ (.cons_cons _ .slnil))) z) rfl

theorem ds4 {x0 : ae} {x1 : Int} {v0 : PV} (r0 : ae.t.R x0 v0) : FnR Tryz.prog 35 [v0, vi x1] (.tup [vi ((mm x0 x1).1), vi ((mm x0 x1).2)]) := by
 refine fnS (R := RF35) dj1 (fun _ h => h) rfl fun res z => ?_
 unfold mm at z
 refine sR (af (dw rfl (TR.cnt ae.t r0)) (mI rfl (mI rfl (nS (am (sR (mV rfl (bN cn rfl rfl ?_))))))))
 refine mV rfl ?_
 refine cm 6 (d := 18) (v := vb ((decide (x1 < 0)) || (decide ((x0.Actions.length : Int) ≤ x1)))) ?_ ?_
 ·intro S Q r
  cases d3 : (decide (x1 < 0))
  ·intro k
   have d0 := d3
   try simp only [qa] at d0
   refine ai rfl rfl (ay rfl) ?_
   obtain ⟨f1, e6, c5⟩ := ae.g_Actions r0
   refine ai rfl rfl (co rfl e6) (ai rfl rfl (ck rfl (TR.cnt (tSl bm.t) c5) (TR.agg (tSl bm.t) c5)) (ai rfl rfl (cp rfl (ca c5 Tryz.underlying25 _)) (ai rfl rfl (ct rfl rfl kj) ?_)))
   exact gK rfl rfl rfl rfl rfl k
  ·exact gN 5 rfl rfl rfl rfl rfl rfl
 refine nS ?_
 refine cd z rfl ?_ ?_ <;> clear z <;> intro c3 z <;> have c7 := c3 <;> try simp only [qa] at c7
 ·refine sR (mI rfl (mI rfl (nS ?_)))
  exact rT z rfl rfl rfl rfl rfl
 ·refine ax (ap (sR ?_))
  obtain ⟨f2, e4, d4⟩ := ae.g_Actions r0
  refine fA rfl e4 (lD d4 rfl rfl rfl (mV rfl ?_))
  obtain ⟨c8, e7, a9⟩ := de (i := x1) d4 (by omega) (by omega)
  refine af (bd rfl rfl e7) (lD a9 rfl rfl rfl ?_)
  refine fa (x := .agg [vs [], nilS, nilS]) (Mem.nil ⟨0, []⟩) rfl rfl (fun d5 d6 f6 e2 => ?_)
  refine ek (k := 0) (v := c8) e2 rfl rfl rfl (TR.cnt bm.t a9) (fun e0 b0 => ?_)
  replace b0 : Mem e0 [⟨.op d5 d6 0, 97, 3, [c8]⟩] := b0
  refine nS (am (sR (af (pw (k := 0) b0 rfl rfl (TR.agg bm.t a9)) ?_)))
  obtain ⟨f5, c2, z⟩ := br z
  have d1 := ck4  a9 
  rw [c2] at d1
  refine cL d1 rfl rfl (aj (TR.clo bm.t a9) bh) (mV rfl (nR (mV rfl (bN lx rfl rfl (nS ?_)))))
  refine cd z rfl ?_ ?_ <;> clear z <;> intro c4 z <;> have c9 := c4 <;> try simp only [qa] at c9
  ·refine sR (mV rfl (mI rfl (mV rfl (nS ?_))))
   exact rT z rfl rfl rfl rfl rfl
  ·refine ax (ap (sR (lD r0 rfl rfl rfl (af (bg rfl) ?_))))
   obtain ⟨a8, e1, c6⟩ := bm.g_Params a9
   refine af (cg (k := 0) b0 rfl rfl e1) ?_
   obtain ⟨a3, a4, a0, a2, a7, a5, a1, a6, e8, b6, b3, b7, b5, b9, b8, b4, b1⟩ := r0
   subst e8
   refine af (v := .agg [vs x0.Name, a3, a4, a0, a2, a7, a5, a1, a6, a8]) (mr (cs := [vs x0.Name, a3, a4, a0, a2, a7, a5, a1, a6, a8]) rfl (by simp only [buildV, pf (TR.cnt (tSl az.t) c6) (TR.agg (tSl az.t) c6)]; rfl)) (af (v := .agg [vs x0.Name, a3, a4, a0, a2, a7, a5, a1, a6, a8]) (mr (cs := [vs x0.Name, a3, a4, a0, a2, a7, a5, a1, a6, a8]) rfl rfl) ?_)
   refine fa (x := .agg [vs [], nilS, nilS, nilS, nilS, nilS, nilS, nilS, nilS, nilS]) b0 rfl rfl (fun d7 e9 f3 e5 => ?_)
   refine ek (k := 0) (v := .agg [vs x0.Name, a3, a4, a0, a2, a7, a5, a1, a6, a8]) e5 rfl rfl rfl rfl (fun d9 b2 => ?_)
   replace b2 : Mem d9 [⟨.op d7 e9 0, 151, 10, [.agg [vs x0.Name, a3, a4, a0, a2, a7, a5, a1, a6, a8]]⟩, ⟨.op d5 d6 0, 97, 3, [c8]⟩] := b2
   refine nS (am (sR (af (bg rfl) ?_)))
   obtain ⟨f7, e3, d2⟩ := bm.g_Body a9
   refine af (cg (k := 1) b2 rfl rfl e3) (af (cp rfl (ca d2 Tryz.underlying95 _)) (mI rfl (nS (bf ?_))))
   have d8 : di.t.R ({ scope := ({ Program := x0, Params := (ix x0.Actions x1).Params } : bc) } : di) (.agg [vs x0.Name, a3, a4, a0, a2, a7, a5, a1, a6, a8]) := ⟨a3, a4, a0, a2, a7, a5, a1, a6, a8, rfl, b6, b3, b7, b5, b9, b8, b4, b1, c6⟩
   refine wC (zg c3 c2 c4 d2 d8 ?_  rfl (by omega) (Mem.sub b2 (.cons_cons _ (.cons _ .slnil))) z) rfl
   ·intro f0 f4 z
    refine dy (ap (sR (mI rfl (mI rfl (nS ?_)))))
    exact rT z rfl rfl rfl rfl rfl

def RF108 (res : (List au)) (r : PV) : Prop := (tSl au.t).R res r
theorem bj2 {x0 : ae} {x1 : Int} {v0 : PV} (r0 : ae.t.R x0 v0) : ∃ r, FnR Tryz.prog 108 [v0, vi x1] r ∧ (tSl au.t).R (jx x0 x1) r := by
 refine fnT (R := RF108) ch4 rfl fun res z => ?_
 unfold jx at z
 refine sR (af (dw rfl (TR.cnt ae.t r0)) (af (v := nilS) (ay rfl) (nS (am (sR (lD r0 rfl rfl rfl (mV rfl ?_)))))))
 obtain ⟨a9, a0, z⟩ := br z
 have a1 := ds4 (x1 := x1) r0 
 rw [a0] at a1
 refine cL a1 rfl rfl (aj (TR.clo ae.t r0) (aj rfl bh)) (mV rfl (xT rfl rfl (xT rfl rfl (mV rfl (mV rfl (nR (mV rfl (bN lx rfl rfl ?_))))))))
 refine nS ?_
 refine cd z rfl ?_ ?_ <;> clear z <;> intro c z <;> try simp only [qa] at c
 ·refine sR (af (v := nilS) (ay rfl) (nS ?_))
  exact rR z rfl (TR.clo (tSl au.t) ft) ft
 ·refine ax (ap (sR (gL (ae.g_Actions r0) rfl rfl rfl fun a8 a4 => (mV rfl ?_))))
  obtain ⟨a6, a5, a3⟩ := de (i := x1) a4 (by ((have hk := ce0 (by assumption) (by assumption); omega))) (by ((have hk := ce0 (by assumption) (by assumption); omega)))
  refine af (bd rfl rfl a5) (gL (bm.g_Body a3) rfl rfl rfl fun a7 a2 => (mV rfl (nS ?_)))
  exact rR z rfl (TR.clo (tSl au.t) a2) a2

def RF109 (i0_ w0_ : Nat) (R_ : List Ent) (res : cb) (r : PV) (h : Heap) : Prop := ∃ aF0_0 : PV, ∃ esF0_0 : List PV, ∃ aF0_2 : PV, ∃ esF0_2 : List PV, ∃ aF0_4 : PV, ∃ esF0_4 : List PV, Mem h (⟨.op i0_ w0_ 0, 157, 3, [.agg [aF0_0, aF0_2, aF0_4]]⟩ :: ⟨aF0_0, 87, 2, esF0_0⟩ :: ⟨aF0_2, 3, 1, esF0_2⟩ :: ⟨aF0_4, 3, 1, esF0_4⟩ :: R_) ∧ (All2 aa.t.R res.fields esF0_0) ∧ (isL aF0_0 = true) ∧ (res.fields.length ≤ 4611686018427387904) ∧ (Wri aF0_0 esF0_0) ∧ (All2 tI.R res.headers esF0_2) ∧ (isL aF0_2 = true) ∧ (res.headers.length ≤ 4611686018427387904) ∧ (Wri aF0_2 esF0_2) ∧ (All2 tI.R res.registers esF0_4) ∧ (isL aF0_4 = true) ∧ (res.registers.length ≤ 4611686018427387904) ∧ (Wri aF0_4 esF0_4) ∧ r = .tup []
theorem ai6 {x0 : cb} {x1 : List ah} {v1 a8 : PV} {a0 : List PV} {a6 : PV} {a1 : List PV} {a2 : PV} {a3 : List PV} {R_ : List Ent} {h_ : Heap} {c6 b9 : Nat} (r1 : (tSl ah.t).R x1 v1) (b3 : All2 aa.t.R x0.fields a0) (b4 : isL a8 = true) (f4 : x0.fields.length ≤ 4611686018427387904) (c8 : Wri a8 a0) (b2 : All2 tI.R x0.headers a1) (b1 : isL a6 = true) (f1 : x0.headers.length ≤ 4611686018427387904) (c2 : Wri a6 a1) (d0 : All2 tI.R x0.registers a3) (c7 : isL a2 = true) (c4 : x0.registers.length ≤ 4611686018427387904) (d1 : Wri a2 a3) (M_ : Mem h_ (⟨.op c6 b9 0, 157, 3, [.agg [a8, a6, a2]]⟩ :: ⟨a8, 87, 2, a0⟩ :: ⟨a6, 3, 1, a1⟩ :: ⟨a2, 3, 1, a3⟩ :: R_)) (hb : x1.length ≤ 1000 ∧ x0.fields.length ≤ 100000 ∧ x0.headers.length ≤ 100000) : ∃ r f5, FnX Tryz.prog 109 [.op c6 b9 0, v1] h_ r f5 ∧ RF109 c6 b9 R_ (dn x0 x1) r f5 := by
 refine fnXX (R := RF109 c6 b9 R_) co4 rfl fun res z => ?_
 unfold dn at z
 refine sR (mV rfl (mV rfl (af (ir rfl rfl) (af (bg rfl) (af (cg (k := 0) M_ rfl rfl (mk1 (gn (k := 1) M_ rfl b4).2)) (mV rfl ?_))))))
 obtain ⟨c9, b7, z⟩ := br z
 obtain ⟨f9, f2, d4⟩ := ca8  r1 (by omega)
 rw [b7] at d4
 have f6 : c9.length ≤ x1.length := by rw [← b7]; exact ry _
 refine cL f2 rfl rfl (aj (TR.clo (tSl ah.t) r1) bh) ?_
 obtain ⟨a4, d3, b6⟩ := ly (t := aa.t) (h := h_) d4
 have e5 : fits (a0.length + a4.length) 16 = true := by rw [All2.length_eq b3, All2.length_eq b6]; (try simp only [List.length_cons, List.length_nil]); exact iq (by omega) (by omega)
 refine jt (k := 1) (es := a0) (news := a4) M_ rfl rfl rfl b4 c8 d3 e5 (fun a7 f8 e6 e7 e8 => ?_)
 have f0 : All2 aa.t.R (x0.fields ++ c9) (a0 ++ a4) := All2.app b3 b6
 have e0 : (x0.fields ++ c9).length ≤ 4611686018427387904 := by rw [← All2.length_eq f0, List.length_append]; exact gg e5
 refine af (ir rfl rfl) (af (bg rfl) ?_)
 refine jh (k := 0) (v := a7) e8 rfl rfl rfl (gn (k := 1) e8 rfl e6).1 rfl (by ((simp only [List.length_cons, List.length_nil]; omega))) (fun d8 b0 => ?_)
 replace b0 : Mem d8 (⟨.op c6 b9 0, 157, 3, [.agg [a7, a6, a2]]⟩ :: ⟨a7, 87, 2, (a0 ++ a4)⟩ :: ⟨a6, 3, 1, a1⟩ :: ⟨a2, 3, 1, a3⟩ :: R_) := b0
 refine nS (av (mV rfl (mV rfl (af (ir rfl rfl) (af (bg rfl) (af (cg (k := 0) b0 rfl rfl (mk1 (gn (k := 2) b0 rfl b1).2)) (mV rfl ?_)))))))
 obtain ⟨c3, b5, z⟩ := br z
 obtain ⟨g1, f3, e4⟩ := cf8  r1 (by omega)
 rw [b5] at e4
 have f7 : c3.length ≤ x1.length := by rw [← b5]; exact rd _
 refine cL f3 rfl rfl (aj (TR.clo (tSl ah.t) r1) bh) ?_
 obtain ⟨a5, d5, b8⟩ := ly (t := tI) (h := d8) e4
 have d2 : fits (a1.length + a5.length) 8 = true := by rw [All2.length_eq b2, All2.length_eq b8]; (try simp only [List.length_cons, List.length_nil]); exact iq (by omega) (by omega)
 refine jt (k := 2) (es := a1) (news := a5) b0 rfl rfl rfl b1 c2 d5 d2 (fun a9 g0 e9 e2 d6 => ?_)
 have e1 : All2 tI.R (x0.headers ++ c3) (a1 ++ a5) := All2.app b2 b8
 have e3 : (x0.headers ++ c3).length ≤ 4611686018427387904 := by rw [← All2.length_eq e1, List.length_append]; exact gg d2
 refine af (ir rfl rfl) (af (bg rfl) ?_)
 refine jh (k := 0) (v := a9) d6 rfl rfl rfl (gn (k := 2) d6 rfl e9).1 rfl (by ((simp only [List.length_cons, List.length_nil]; omega))) (fun d9 c5 => ?_)
 replace c5 : Mem d9 (⟨.op c6 b9 0, 157, 3, [.agg [a7, a9, a2]]⟩ :: ⟨a7, 87, 2, (a0 ++ a4)⟩ :: ⟨a9, 3, 1, (a1 ++ a5)⟩ :: ⟨a2, 3, 1, a3⟩ :: R_) := c5
 refine bn ?_
 have d7 : Mem d9 (⟨.op c6 b9 0, 157, 3, [.agg [a7, a9, a2]]⟩ :: ⟨a7, 87, 2, (a0 ++ a4)⟩ :: ⟨a9, 3, 1, (a1 ++ a5)⟩ :: ⟨a2, 3, 1, a3⟩ :: R_) := (Mem.front (k := 3) (Mem.front (k := 3) (Mem.front (k := 3) (Mem.front (k := 3) c5 rfl) rfl) rfl) rfl)
 subst z
 exact ah9 .nil ⟨a7, (a0 ++ a4), a9, (a1 ++ a5), a2, a3, Mem.sub d7 (.cons_cons _ (.cons_cons _ (.cons_cons _ (.cons_cons _ (List.Sublist.refl R_))))), f0, e6, e0, e7, e1, e9, e3, e2, d0, c7, c4, d1, rfl⟩

def RF110 (i0_ w0_ : Nat) (R_ : List Ent) (res : (List aa) × (List Int) × (List Int)) (r : PV) (h : Heap) : Prop := ∃ asR0_ : PV, ∃ esR0_ : List PV, ∃ asR1_ : PV, ∃ esR1_ : List PV, ∃ asR2_ : PV, ∃ esR2_ : List PV, Mem h (⟨asR0_, 87, 2, esR0_⟩ :: ⟨asR1_, 3, 1, esR1_⟩ :: ⟨asR2_, 3, 1, esR2_⟩ :: R_) ∧ (All2 aa.t.R res.1 esR0_) ∧ (isL asR0_ = true) ∧ (res.1.length ≤ 4611686018427387904) ∧ (Wri asR0_ esR0_) ∧ (All2 tI.R res.2.1 esR1_) ∧ (isL asR1_ = true) ∧ (res.2.1.length ≤ 4611686018427387904) ∧ (Wri asR1_ esR1_) ∧ (All2 tI.R res.2.2 esR2_) ∧ (isL asR2_ = true) ∧ (res.2.2.length ≤ 4611686018427387904) ∧ (Wri asR2_ esR2_) ∧ r = .tup [asR0_, asR1_, asR2_]
theorem bk3 {x0 : cb} {a5 : PV} {b1 : List PV} {a3 : PV} {a7 : List PV} {a0 : PV} {a6 : List PV} {R_ : List Ent} {h_ : Heap} {i2 i3 : Nat} (g1 : All2 aa.t.R x0.fields b1) (a2 : isL a5 = true) (g4 : x0.fields.length ≤ 4611686018427387904) (g7 : Wri a5 b1) (g6 : All2 tI.R x0.headers a7) (a4 : isL a3 = true) (g5 : x0.headers.length ≤ 4611686018427387904) (g0 : Wri a3 a7) (g3 : All2 tI.R x0.registers a6) (a1 : isL a0 = true) (f9 : x0.registers.length ≤ 4611686018427387904) (g2 : Wri a0 a6) (M_ : Mem h_ (⟨.op i2 i3 0, 157, 3, [.agg [a5, a3, a0]]⟩ :: ⟨a5, 87, 2, b1⟩ :: ⟨a3, 3, 1, a7⟩ :: ⟨a0, 3, 1, a6⟩ :: R_)) (hb : x0.fields.length ≤ 1000000 ∧ x0.headers.length ≤ 1000000 ∧ x0.registers.length ≤ 1000000) : ∃ r k4, FnX Tryz.prog 110 [.op i2 i3 0] h_ r k4 ∧ RF110 i2 i3 R_ (cz x0) r k4 := by
 refine fnXX (R := RF110 i2 i3 R_) ch9 rfl fun res z => ?_
 unfold cz at z
 refine am (fc (cw (af (v := nilS) (ay rfl) (cx (cw (af (v := nilS) (ay rfl) (cx (cw ?_))))))))
 refine af (v := nilS) (ay rfl) (cx ?_)
 refine yi (k := 0) (E' := [(4, nilS), (3, nilS), (2, nilS), (0, .fp (.agg [a5, a3, a0]))]) M_ rfl (du rfl (du rfl (du rfl (vx rfl ah0)))) (fun h4 b8 => ?_)
 replace b8 : Mem h4 (⟨a5, 87, 2, b1⟩ :: ⟨a3, 3, 1, a7⟩ :: ⟨a0, 3, 1, a6⟩ :: R_) := b8
 refine kn (ap (am (fc (cw (mV rfl (cx (cw (af (ir rfl rfl) ?_))))))))
 refine cx (cw (fA rfl (mk1 (gn (k := 0) b8 rfl a2).2) (cx (cw (af (ck rfl (tc (k := 0) b8 rfl a2) (gn (k := 0) b8 rfl a2).2) (cx ?_))))))
 have i8 : Mem h4 (⟨a5, 87, 2, b1⟩ :: ⟨a3, 3, 1, a7⟩ :: ⟨a0, 3, 1, a6⟩ :: R_) := (Mem.front (k := 0) b8 rfl)
 obtain ⟨j8, h8, z⟩ := br z
 obtain ⟨k8, i6, h5, f3⟩ := bf6 (x0 := x0.fields) g1 a2 g4 g7 i8 (by omega)
 rw [h8] at f3
 obtain ⟨b0, f0, d3, b9, c2, d4⟩ := f3
 replace d4 := d4.symm; subst d4
 refine gu rfl rfl h5 (kn (ap (am (fc (cw (mV rfl (cx (cw ?_))))))))
 refine af (ir rfl rfl) (cx (cw (fA rfl (mk1 (gn (k := 1) f0 rfl a4).2) (cx (cw (af (ck rfl (tc (k := 1) f0 rfl a4) (gn (k := 1) f0 rfl a4).2) (cx ?_)))))))
 have j5 : Mem i6 (⟨a3, 3, 1, a7⟩ :: ⟨a5, 87, 2, b0⟩ :: ⟨a0, 3, 1, a6⟩ :: R_) := (Mem.front (k := 1) f0 rfl)
 obtain ⟨i4, h9, z⟩ := br z
 obtain ⟨k3, j4, h0, f4⟩ := ah5 (x0 := x0.headers) g6 a4 g5 g0 j5 (by omega)
 rw [h9] at f4
 obtain ⟨b2, e7, c4, d5, c5, d0⟩ := f4
 replace d0 := d0.symm; subst d0
 refine gu rfl rfl h0 (kn (ap (am (fc (cw (mV rfl (cx (cw ?_))))))))
 refine af (ir rfl rfl) (cx (cw (fA rfl (mk1 (gn (k := 2) e7 rfl a1).2) (cx (cw (af (ck rfl (tc (k := 2) e7 rfl a1) (gn (k := 2) e7 rfl a1).2) (cx ?_)))))))
 have j1 : Mem j4 (⟨a0, 3, 1, a6⟩ :: ⟨a3, 3, 1, b2⟩ :: ⟨a5, 87, 2, b0⟩ :: R_) := (Mem.front (k := 2) e7 rfl)
 obtain ⟨j0, h2, z⟩ := br z
 obtain ⟨k7, i5, g8, f7⟩ := ah5 (x0 := x0.registers) g3 a1 f9 g2 j1 (by omega)
 rw [h2] at f7
 obtain ⟨b3, e1, c7, c8, c6, d2⟩ := f7
 replace d2 := d2.symm; subst d2
 refine gu rfl rfl g8 (kn (ap (am (be5 (pv (mV rfl (pq (pv ?_))))))))
 refine af (ir rfl rfl) (pq (pv (fA rfl (mk1 (gn (k := 2) e1 rfl a2).2) (pq (pv (af (ck rfl (tc (k := 2) e1 rfl a2) (gn (k := 2) e1 rfl a2).2) (pq ?_)))))))
 have j2 : Mem i5 (⟨a5, 87, 2, b0⟩ :: ⟨a0, 3, 1, b3⟩ :: ⟨a3, 3, 1, b2⟩ :: R_) := (Mem.front (k := 2) e1 rfl)
 obtain ⟨l0, h6, z⟩ := br z
 obtain ⟨k0, j7, h3, f6⟩ := bl5 (x0 := j8) d3 a2 b9 c2 j2 
 rw [h6] at f6
 obtain ⟨a8, a9, d9, e5, d6, e6, e0, c3⟩ := f6
 replace c3 := c3.symm; subst c3
 refine ae4 rfl rfl h3 (pv (mV rfl (pq (pv (af (ir rfl rfl) (pq (pv (fA rfl (mk1 (gn (k := 2) d9 rfl a4).2) ?_))))))))
 refine pq (pv (af (ck rfl (tc (k := 2) d9 rfl a4) (gn (k := 2) d9 rfl a4).2) (pq ?_)))
 have i7 : Mem j7 (⟨a3, 3, 1, b2⟩ :: ⟨a8, 87, 2, a9⟩ :: ⟨a0, 3, 1, b3⟩ :: R_) := (Mem.front (k := 2) d9 rfl)
 obtain ⟨k9, i0, z⟩ := br z
 obtain ⟨k5, j6, i1, f5⟩ := ai5 (x0 := i4) c4 a4 d5 c5 i7 
 rw [i0] at f5
 obtain ⟨b5, b4, e8, f2, e4, e2, d8, d1⟩ := f5
 replace d1 := d1.symm; subst d1
 refine ae4 rfl rfl i1 (pv (mV rfl (pq (pv (af (ir rfl rfl) (pq (pv (fA rfl (mk1 (gn (k := 2) e8 rfl a1).2) ?_))))))))
 refine pq (pv (af (ck rfl (tc (k := 2) e8 rfl a1) (gn (k := 2) e8 rfl a1).2) (pq ?_)))
 have i9 : Mem j6 (⟨a0, 3, 1, b3⟩ :: ⟨b5, 3, 1, b4⟩ :: ⟨a8, 87, 2, a9⟩ :: R_) := (Mem.front (k := 2) e8 rfl)
 obtain ⟨l1, h7, z⟩ := br z
 obtain ⟨k6, j9, h1, f8⟩ := ai5 (x0 := j0) c7 a1 c8 c6 i9 
 rw [h7] at f8
 obtain ⟨b7, b6, j3, f1, d7, e3, e9, c9⟩ := f8
 replace c9 := c9.symm; subst c9
 refine ae4 rfl rfl h1 (pv (mV rfl (pq (pv (mV rfl (pq (pv (mV rfl ?_))))))))
 refine pq (di5 (ap ?_))
 have g9 : Mem j9 (⟨a8, 87, 2, a9⟩ :: ⟨b5, 3, 1, b4⟩ :: ⟨b7, 3, 1, b6⟩ :: R_) := (Mem.front (k := 2) (Mem.front (k := 1) (Mem.front (k := 0) j3 rfl) rfl) rfl)
 subst z
 exact tr (.tmp rfl (.tmp rfl (.tmp rfl .nil))) ⟨a8, a9, b5, b4, b7, b6, Mem.sub g9 (.cons_cons _ (.cons_cons _ (.cons_cons _ (List.Sublist.refl R_)))), e5, d6, e6, e0, f2, e4, e2, d8, f1, d7, e3, e9, rfl⟩

def RF37 (res : (List aa) × (List Int) × (List Int)) (r : PV) : Prop := ∃ c0, ∃ c1, ∃ c2, r = .tup [c0, c1, c2] ∧ (tSl aa.t).R res.1 c0 ∧ (tSl tI).R res.2.1 c1 ∧ (tSl tI).R res.2.2 c2
theorem yo {S : List Fr} {res : (List aa) × (List Int) × (List Int)} {x0 : ae} {x1 : Int} {a8 : (List au)} {p8 : PV} {e2 e1 : Nat} (x6 : jx x0 x1 = a8) (p9 : (tSl au.t).R a8 p8) (y1 : BO x0 a8) (x9 : a8.length ≤ 12) {K0 : cb → ((List aa) × (List Int) × (List Int))}
  (y6 : ∀ {zE102 : cb} {a2 : PV} {a7 : List PV} {a4 : PV} {a3 : List PV} {a1 : PV} {a6 : List PV} (b7 : All2 aa.t.R zE102.fields a7) (b4 : isL a2 = true) (c2 : zE102.fields.length ≤ 4611686018427387904) (b5 : Wri a2 a7) (b2 : All2 tI.R zE102.headers a3) (b3 : isL a4 = true) (c7 : zE102.headers.length ≤ 4611686018427387904) (b6 : Wri a4 a3) (b8 : All2 tI.R zE102.registers a6) (c4 : isL a1 = true) (b9 : zE102.registers.length ≤ 4611686018427387904) (c3 : Wri a1 a6) (z9 : zE102.fields.length ≤ 600 ∧ zE102.headers.length ≤ 600 ∧ zE102.registers.length ≤ 600) {h : Heap} (M0 : Mem h [⟨a1, 3, 1, a6⟩, ⟨a4, 3, 1, a3⟩, ⟨a2, 87, 2, a7⟩, ⟨.op e2 e1 0, 157, 3, [.agg [a2, a4, a1]]⟩]), K0 zE102 = res → PX Tryz.prog 0 S (QR Tryz.prog [(4, none), (5, none), (6, none)] (RF37 res)) [(7, .op e2 e1 0)] h) :
  ∀ {m : Nat} {a5 : Int} {zE102 : cb} {a2 : PV} {a7 : List PV} {a4 : PV} {a3 : List PV} {a1 : PV} {a6 : List PV} (b7 : All2 aa.t.R zE102.fields a7) (b4 : isL a2 = true) (c2 : zE102.fields.length ≤ 4611686018427387904) (b5 : Wri a2 a7) (b2 : All2 tI.R zE102.headers a3) (b3 : isL a4 = true) (c7 : zE102.headers.length ≤ 4611686018427387904) (b6 : Wri a4 a3) (b8 : All2 tI.R zE102.registers a6) (c4 : isL a1 = true) (b9 : zE102.registers.length ≤ 4611686018427387904) (c3 : Wri a1 a6) (y2 : m = Int.toNat ((a8.length : Int) - a5)) (s3 : 0 ≤ a5) (n8 : (zE102.fields.length : Int) ≤ 50 * a5) (o0 : (zE102.headers.length : Int) ≤ 50 * a5) (o4 : (zE102.registers.length : Int) ≤ 50 * a5) (o2 : a5 ≤ (a8.length : Int)) {h : Heap} (M0 : Mem h [⟨a1, 3, 1, a6⟩, ⟨a4, 3, 1, a3⟩, ⟨a2, 87, 2, a7⟩, ⟨.op e2 e1 0, 157, 3, [.agg [a2, a4, a1]]⟩]), gk a8 K0 m a5 zE102 = res → RC Tryz.prog (.loop cn3) S (QR Tryz.prog [(4, none), (5, none), (6, none)] (RF37 res)) [(14, vi a5), (13, vi (a8.length : Int)), (12, p8), (7, .op e2 e1 0)] h := by
 intro m
 induction m with
 | zero =>
  intro a5 zE102 a2 a7 a4 a3 a1 a6 b7 b4 c2 b5 b2 b3 c7 b6 b8 c4 b9 c3 y2 s3 n8 o0 o4 o2 h M0 z
  rw [gk] at z
  refine bv (sR (bN cn rfl rfl (nS (am ?_))))
  refine bp rfl ?_ ?_ <;> intro c <;> try simp only [qa] at c
  ·omega
  refine dg (dq (dc ?_))
  exact wP (y6 (zE102 := ({ fields := zE102.fields, headers := zE102.headers, registers := zE102.registers } : cb)) b7 b4 c2 b5 b2 b3 c7 b6 b8 c4 b9 c3 (by omega) (Mem.sub M0 (.cons_cons _ (.cons_cons _ (.cons_cons _ (.cons_cons _ .slnil))))) z) rfl
 | succ m ih =>
  intro a5 zE102 a2 a7 a4 a3 a1 a6 b7 b4 c2 b5 b2 b3 c7 b6 b8 c4 b9 c3 y2 s3 n8 o0 o4 o2 h M0 z
  rw [gk] at z
  refine bv (sR (bN cn rfl rfl (nS (am ?_))))
  refine bp rfl ?_ ?_ <;> intro c <;> try simp only [qa] at c
  rotate_left
  ·omega
  refine ax (ap (am (bf (sR ?_))))
  obtain ⟨f1, v0, e9⟩ := de (i := a5) p9 (by omega) (by omega)
  refine af (bd rfl rfl v0) (lD e9 rfl rfl rfl ?_)
  refine fa (x := .agg [vi 0, vi 0, vi 0, vi 0, vi 0, nilS, nilS]) M0 rfl rfl (fun e8 f0 z3 v4 => ?_)
  refine ek (k := 0) (v := f1) v4 rfl rfl rfl (TR.cnt au.t e9) (fun n2 e6 => ?_)
  replace e6 : Mem n2 [⟨.op e8 f0 0, 135, 7, [f1]⟩, ⟨a1, 3, 1, a6⟩, ⟨a4, 3, 1, a3⟩, ⟨a2, 87, 2, a7⟩, ⟨.op e2 e1 0, 157, 3, [.agg [a2, a4, a1]]⟩] := e6
  refine nS (am (sR (af (bg rfl) (af (cg (k := 0) e6 rfl rfl (au.g_Kind e9)) (nS ?_)))))
  obtain ⟨w2, q4, z⟩ := br z
  refine nd (F := fun b S Q => ∀ (a0 : cb) (b1 : PV) (c5 : List PV) (c8 : PV) (a9 : List PV) (b0 : PV) (c6 : List PV) (d2 : All2 aa.t.R a0.fields c5) (d9 : isL b1 = true) (d3 : a0.fields.length ≤ 4611686018427387904) (d1 : Wri b1 c5) (d0 : All2 tI.R a0.headers a9) (c9 : isL c8 = true) (e3 : a0.headers.length ≤ 4611686018427387904) (d6 : Wri c8 a9) (d7 : All2 tI.R a0.registers c6) (d8 : isL b0 = true) (d4 : a0.registers.length ≤ 4611686018427387904) (d5 : Wri b0 c6) (g6 : (a0.fields.length : Int) ≤ ({ fields := zE102.fields, headers := zE102.headers, registers := zE102.registers } : cb).fields.length + 48 ∧ (a0.headers.length : Int) ≤ ({ fields := zE102.fields, headers := zE102.headers, registers := zE102.registers } : cb).headers.length + 48 ∧ (a0.registers.length : Int) ≤ ({ fields := zE102.fields, headers := zE102.headers, registers := zE102.registers } : cb).registers.length + 48) (g8 : Heap) (e5 : Mem g8 [⟨.op e8 f0 0, 135, 7, [f1]⟩, ⟨b0, 3, 1, c6⟩, ⟨c8, 3, 1, a9⟩, ⟨b1, 87, 2, c5⟩, ⟨.op e2 e1 0, 157, 3, [.agg [b1, c8, b0]]⟩]), w2 a0 = res → RC Tryz.prog b S Q [(14, vi a5), (13, vi (a8.length : Int)), (12, p8), (9, .op e8 f0 0), (7, .op e2 e1 0)] g8) ?_ ?_
  ·intro a0 b1 c5 c8 a9 b0 c6 d2 d9 d3 d1 d0 c9 e3 d6 d7 d8 d4 d5 g6 g8 e5 z
   rw [← q4] at z
   refine sR (af (bg rfl) (af (cg (k := 0) e5 rfl rfl (au.g_Kind e9)) (bN dt rfl rfl (mV rfl ?_))))
   refine cm 4 (d := 61) (v := vb ((decide (((ix a8 a5).Kind) = 1)) || (decide (((ix a8 a5).Kind) = 4)))) ?_ ?_
   ·intro S Q r
    cases t1 : (decide (((ix a8 a5).Kind) = 1))
    ·intro k
     have p3 := t1
     try simp only [qa] at p3
     refine ai rfl rfl (bg rfl) (ai rfl rfl (cg (k := 0) e5 rfl rfl (au.g_Kind e9)) (ai rfl rfl (ct rfl rfl dt) ?_))
     exact gK rfl rfl rfl rfl rfl k
    ·exact gN 3 rfl rfl rfl rfl rfl rfl
   refine mV rfl ?_
   refine cm 5 (d := 67) (v := vb (((decide (((ix a8 a5).Kind) = 1)) || (decide (((ix a8 a5).Kind) = 4))) && (!decide ((((ix a8 a5).Dst).Header) = (-1))))) ?_ ?_
   ·intro S Q r
    cases t6 : ((decide (((ix a8 a5).Kind) = 1)) || (decide (((ix a8 a5).Kind) = 4)))
    ·exact gN 4 rfl rfl rfl rfl rfl rfl
    ·intro k
     have p4 := t6
     try simp only [qa] at p4
     refine ai rfl rfl (bg rfl) (ai rfl rfl (bg rfl) ?_)
     obtain ⟨z7, v9, w3⟩ := au.g_Dst e9
     refine ai rfl rfl (cg (k := 0) e5 rfl rfl (sb v9 (aa.g_Header w3))) (ai rfl rfl (ct rfl rfl (lx (b := -1))) ?_)
     exact gK rfl rfl rfl rfl rfl k
   refine nS ?_
   refine cd z rfl ?_ ?_ <;> clear z <;> intro c z <;> try simp only [qa] at c
   ·refine av (af (bg rfl) (af (cg (k := 4) e5 rfl rfl (mk1 (gn (k := 2) e5 rfl c9).2)) (af (bg rfl) (af (bg rfl) ?_))))
    obtain ⟨y7, v7, v3⟩ := au.g_Dst e9
    refine af (cg (k := 0) e5 rfl rfl (sb v7 (aa.g_Header v3))) (af (v := .fs true [vi (((ix a8 a5).Dst).Header)]) (gb rfl (all_cons rfl ji)) ?_)
    have w4 : (tSl tI).R ([((ix a8 a5).Dst).Header] : List Int) (.fs true [vi (((ix a8 a5).Dst).Header)]) := pd ⟨rfl, trivial⟩ (by simp)
    obtain ⟨g9, q6, o1⟩ := ly (t := tI) (h := g8) w4
    have s2 : fits (a9.length + g9.length) 8 = true := by rw [All2.length_eq d0, All2.length_eq o1]; (try simp only [List.length_cons, List.length_nil]); exact iq (by omega) (by omega)
    refine jt (k := 2) (es := a9) (news := g9) e5 rfl rfl rfl c9 d6 q6 s2 (fun p0 z4 q5 r6 r0 => ?_)
    have t7 : All2 tI.R (a0.headers ++ ([((ix a8 a5).Dst).Header] : List Int)) (a9 ++ g9) := All2.app d0 o1
    have s5 : (a0.headers ++ ([((ix a8 a5).Dst).Header] : List Int)).length ≤ 4611686018427387904 := by rw [← All2.length_eq t7, List.length_append]; exact gg s2
    refine af (bg rfl) ?_
    refine jh (k := 4) (v := p0) r0 rfl rfl rfl (gn (k := 2) r0 rfl q5).1 rfl (by ((simp only [List.length_cons, List.length_nil]; omega))) (fun u8 p5 => ?_)
    replace p5 : Mem u8 [⟨.op e8 f0 0, 135, 7, [f1]⟩, ⟨b0, 3, 1, c6⟩, ⟨p0, 3, 1, (a9 ++ g9)⟩, ⟨b1, 87, 2, c5⟩, ⟨.op e2 e1 0, 157, 3, [.agg [b1, p0, b0]]⟩] := p5
    refine bn (cy (ap (av (bN dp rfl rfl (mV rfl (bn (cv ?_)))))))
    have s := da p9
    have o : wr (a5 + 1) = a5 + 1 := dj (by omega) (by omega)
    erw [o]
    exact wC (ih (zE102 := ({ fields := a0.fields, headers := (a0.headers ++ ([((ix a8 a5).Dst).Header] : List Int)), registers := a0.registers } : cb)) d2 d9 d3 d1 t7 q5 s5 r6 d7 d8 d4 d5 (by omega) (by omega) (by (((try dsimp only); (try simp only [List.length_append, List.length_cons, List.length_nil]); omega))) (by (((try dsimp only); (try simp only [List.length_append, List.length_cons, List.length_nil]); omega))) (by (((try dsimp only); (try simp only [List.length_append, List.length_cons, List.length_nil]); omega))) (by omega) (Mem.sub p5 (.cons _ (.cons_cons _ (.cons_cons _ (.cons_cons _ (.cons_cons _ .slnil)))))) z) rfl
   ·refine ax (cy (ap (av (bN dp rfl rfl (mV rfl (bn (cv ?_)))))))
    have s := da p9
    have o : wr (a5 + 1) = a5 + 1 := dj (by omega) (by omega)
    erw [o]
    exact wC (ih (zE102 := ({ fields := a0.fields, headers := a0.headers, registers := a0.registers } : cb)) d2 d9 d3 d1 d0 c9 e3 d6 d7 d8 d4 d5 (by omega) (by omega) (by omega) (by omega) (by omega) (by omega) (Mem.sub e5 (.cons _ (.cons_cons _ (.cons_cons _ (.cons_cons _ (.cons_cons _ .slnil)))))) z) rfl
  ·intro J
   refine bf (sR (bN dt rfl rfl (mV rfl (nS ?_))))
   refine cd z rfl ?_ ?_ <;> clear z <;> intro c z <;> try simp only [qa] at c
   ·refine fc (cw (af (bg rfl) (cx (cw ?_))))
    obtain ⟨z5, w9, w8⟩ := au.g_Value e9
    refine af (cg (k := 0) e6 rfl rfl w9) (cx ?_)
    have u6 : Mem n2 [⟨.op e2 e1 0, 157, 3, [.agg [a2, a4, a1]]⟩, ⟨a2, 87, 2, a7⟩, ⟨a4, 3, 1, a3⟩, ⟨a1, 3, 1, a6⟩, ⟨.op e8 f0 0, 135, 7, [f1]⟩] := (Mem.front (k := 4) (Mem.front (k := 3) (Mem.front (k := 2) (Mem.front (k := 1) e6 rfl) rfl) rfl) rfl)
    obtain ⟨p1, n5, z⟩ := br z
    obtain ⟨x7, v8, t3, n7⟩ := ai6 (x0 := ({ fields := zE102.fields, headers := zE102.headers, registers := zE102.registers } : cb)) (x1 := ((ix a8 a5).Value)) w8 b7 b4 c2 b5 b2 b3 c7 b6 b8 c4 b9 c3 u6 (by ((have hk := bo_v (l := a8) (k := a5) (by assumption) (by omega) (by omega) (by omega); omega)))
    rw [n5] at n7
    obtain ⟨f8, j3, f7, l2, g5, m0, w1, i6, h9, i4, h2, k9, h4, k5, i2, j9, j8, l3, j7, m9⟩ := n7
    replace m9 := m9.symm; subst m9
    refine gu rfl rfl t3 ?_
    have t5 := mz n5; try dsimp only at t5
    refine kn (cy ?_)
    have s8 : Mem v8 [⟨.op e8 f0 0, 135, 7, [f1]⟩, ⟨g5, 3, 1, m0⟩, ⟨f7, 3, 1, l2⟩, ⟨f8, 87, 2, j3⟩, ⟨.op e2 e1 0, 157, 3, [.agg [f8, f7, g5]]⟩] := (Mem.front (k := 4) (Mem.front (k := 3) (Mem.front (k := 2) (Mem.front (k := 1) (Mem.front (k := 0) w1 rfl) rfl) rfl) rfl) rfl)
    refine ap (wC (J ({ fields := p1.fields, headers := p1.headers, registers := p1.registers } : cb) _ _ _ _ _ _ i6 h9 i4 h2 k9 h4 k5 i2 j9 j8 l3 j7 (by (((try dsimp only); (try simp only [List.length_append, List.length_cons, List.length_nil]); ((have hk := bo_v (l := a8) (k := a5) (by assumption) (by omega) (by omega) (by omega); omega))))) _ (Mem.sub s8 (.cons_cons _ (.cons_cons _ (.cons_cons _ (.cons_cons _ (.cons_cons _ .slnil)))))) z) rfl)
   ·refine sR (bN dt rfl rfl (mV rfl (nS ?_)))
    refine cd z rfl ?_ ?_ <;> clear z <;> intro c z <;> try simp only [qa] at c
    ·refine av (af (bg rfl) (af (cg (k := 4) e6 rfl rfl (mk1 (gn (k := 2) e6 rfl b3).2)) (af (bg rfl) (af (cg (k := 0) e6 rfl rfl (au.g_Header e9)) (af (v := .fs true [vi ((ix a8 a5).Header)]) (gb rfl (all_cons rfl ji)) ?_)))))
     have w6 : (tSl tI).R ([(ix a8 a5).Header] : List Int) (.fs true [vi ((ix a8 a5).Header)]) := pd ⟨rfl, trivial⟩ (by simp)
     obtain ⟨g7, t9, o6⟩ := ly (t := tI) (h := n2) w6
     have s9 : fits (a3.length + g7.length) 8 = true := by rw [All2.length_eq b2, All2.length_eq o6]; (try simp only [List.length_cons, List.length_nil]); exact iq (by omega) (by omega)
     refine jt (k := 2) (es := a3) (news := g7) e6 rfl rfl rfl b3 b6 t9 s9 (fun p2 z8 r4 r8 s7 => ?_)
     have t2 : All2 tI.R (zE102.headers ++ ([(ix a8 a5).Header] : List Int)) (a3 ++ g7) := All2.app b2 o6
     have u0 : (zE102.headers ++ ([(ix a8 a5).Header] : List Int)).length ≤ 4611686018427387904 := by rw [← All2.length_eq t2, List.length_append]; exact gg s9
     refine af (bg rfl) ?_
     refine jh (k := 4) (v := p2) s7 rfl rfl rfl (gn (k := 2) s7 rfl r4).1 rfl (by ((simp only [List.length_cons, List.length_nil]; omega))) (fun u4 p7 => ?_)
     replace p7 : Mem u4 [⟨.op e8 f0 0, 135, 7, [f1]⟩, ⟨a1, 3, 1, a6⟩, ⟨p2, 3, 1, (a3 ++ g7)⟩, ⟨a2, 87, 2, a7⟩, ⟨.op e2 e1 0, 157, 3, [.agg [a2, p2, a1]]⟩] := p7
     refine bn (cy ?_)
     refine ap (wC (J ({ fields := zE102.fields, headers := (zE102.headers ++ ([(ix a8 a5).Header] : List Int)), registers := zE102.registers } : cb) _ _ _ _ _ _ b7 b4 c2 b5 t2 r4 u0 r8 b8 c4 b9 c3 (by (((try dsimp only); (try simp only [List.length_append, List.length_cons, List.length_nil]); omega))) _ (Mem.sub p7 (.cons_cons _ (.cons_cons _ (.cons_cons _ (.cons_cons _ (.cons_cons _ .slnil)))))) z) rfl)
    ·refine sR (bN dt rfl rfl (mV rfl (nS ?_)))
     refine cd z rfl ?_ ?_ <;> clear z <;> intro c z <;> try simp only [qa] at c
     ·refine am (fc (cw (af (bg rfl) (cx (cw ?_)))))
      obtain ⟨y5, v1, v6⟩ := au.g_Index e9
      refine af (cg (k := 0) e6 rfl rfl v1) (cx ?_)
      have w0 : Mem n2 [⟨.op e2 e1 0, 157, 3, [.agg [a2, a4, a1]]⟩, ⟨a2, 87, 2, a7⟩, ⟨a4, 3, 1, a3⟩, ⟨a1, 3, 1, a6⟩, ⟨.op e8 f0 0, 135, 7, [f1]⟩] := (Mem.front (k := 4) (Mem.front (k := 3) (Mem.front (k := 2) (Mem.front (k := 1) e6 rfl) rfl) rfl) rfl)
      obtain ⟨n1, o3, z⟩ := br z
      obtain ⟨x5, u3, r7, n4⟩ := ai6 (x0 := ({ fields := zE102.fields, headers := zE102.headers, registers := zE102.registers } : cb)) (x1 := ((ix a8 a5).Index)) v6 b7 b4 c2 b5 b2 b3 c7 b6 b8 c4 b9 c3 w0 (by ((have hk := bo_i (l := a8) (k := a5) (by assumption) (by omega) (by omega) (by omega); omega)))
      rw [o3] at n4
      obtain ⟨e7, f4, e4, f5, t8, e0, n3, l4, i3, h8, k7, m2, l7, j0, j5, f3, f2, q1, m5, n0⟩ := n4
      replace n0 := n0.symm; subst n0
      refine gu rfl rfl r7 ?_
      have r5 := mz o3; try dsimp only at r5
      refine kn (ap (av (af (bg rfl) (af (cg (k := 0) n3 rfl rfl (mk1 (gn (k := 3) n3 rfl f2).2)) (af (bg rfl) (af (cg (k := 4) n3 rfl rfl (au.g_Register e9)) (af (v := .fs true [vi ((ix a8 a5).Register)]) (gb rfl (all_cons rfl ji)) ?_)))))))
      have u5 : (tSl tI).R ([(ix a8 a5).Register] : List Int) (.fs true [vi ((ix a8 a5).Register)]) := pd ⟨rfl, trivial⟩ (by simp)
      obtain ⟨g1, q2, o8⟩ := ly (t := tI) (h := u3) u5
      have r9 : fits (e0.length + g1.length) 8 = true := by rw [All2.length_eq f3, All2.length_eq o8]; (try simp only [List.length_cons, List.length_nil]); exact iq (by ((have hk := bo_i (l := a8) (k := a5) (by assumption) (by omega) (by omega) (by omega); omega))) (by ((have hk := bo_i (l := a8) (k := a5) (by assumption) (by omega) (by omega) (by omega); omega)))
      refine jt (k := 3) (es := e0) (news := g1) n3 rfl rfl rfl f2 m5 q2 r9 (fun m8 z6 s0 s4 q8 => ?_)
      have s6 : All2 tI.R (n1.registers ++ ([(ix a8 a5).Register] : List Int)) (e0 ++ g1) := All2.app f3 o8
      have r2 : (n1.registers ++ ([(ix a8 a5).Register] : List Int)).length ≤ 4611686018427387904 := by rw [← All2.length_eq s6, List.length_append]; exact gg r9
      refine af (bg rfl) ?_
      refine jh (k := 0) (v := m8) q8 rfl rfl rfl (gn (k := 3) q8 rfl s0).1 rfl (by ((simp only [List.length_cons, List.length_nil]; omega))) (fun s1 q0 => ?_)
      replace q0 : Mem s1 [⟨.op e2 e1 0, 157, 3, [.agg [e7, e4, m8]]⟩, ⟨e7, 87, 2, f4⟩, ⟨e4, 3, 1, f5⟩, ⟨m8, 3, 1, (e0 ++ g1)⟩, ⟨.op e8 f0 0, 135, 7, [f1]⟩] := q0
      refine bn (cy ?_)
      have r3 : Mem s1 [⟨.op e8 f0 0, 135, 7, [f1]⟩, ⟨m8, 3, 1, (e0 ++ g1)⟩, ⟨e4, 3, 1, f5⟩, ⟨e7, 87, 2, f4⟩, ⟨.op e2 e1 0, 157, 3, [.agg [e7, e4, m8]]⟩] := (Mem.front (k := 4) (Mem.front (k := 3) (Mem.front (k := 2) (Mem.front (k := 1) (Mem.front (k := 0) q0 rfl) rfl) rfl) rfl) rfl)
      refine ap (wC (J ({ fields := n1.fields, headers := n1.headers, registers := (n1.registers ++ ([(ix a8 a5).Register] : List Int)) } : cb) _ _ _ _ _ _ l4 i3 h8 k7 m2 l7 j0 j5 s6 s0 r2 s4 (by (((try dsimp only); (try simp only [List.length_append, List.length_cons, List.length_nil]); ((have hk := bo_i (l := a8) (k := a5) (by assumption) (by omega) (by omega) (by omega); omega))))) _ (Mem.sub r3 (.cons_cons _ (.cons_cons _ (.cons_cons _ (.cons_cons _ (.cons_cons _ .slnil)))))) z) rfl)
     ·refine sR (bN dt rfl rfl (mV rfl (nS ?_)))
      refine cd z rfl ?_ ?_ <;> clear z <;> intro c z <;> try simp only [qa] at c
      ·refine am (fc (cw (af (bg rfl) (cx (cw ?_)))))
       obtain ⟨y9, v5, x4⟩ := au.g_Index e9
       refine af (cg (k := 0) e6 rfl rfl v5) (cx ?_)
       have u2 : Mem n2 [⟨.op e2 e1 0, 157, 3, [.agg [a2, a4, a1]]⟩, ⟨a2, 87, 2, a7⟩, ⟨a4, 3, 1, a3⟩, ⟨a1, 3, 1, a6⟩, ⟨.op e8 f0 0, 135, 7, [f1]⟩] := (Mem.front (k := 4) (Mem.front (k := 3) (Mem.front (k := 2) (Mem.front (k := 1) e6 rfl) rfl) rfl) rfl)
       obtain ⟨p6, n9, z⟩ := br z
       obtain ⟨x8, w5, q7, o5⟩ := ai6 (x0 := ({ fields := zE102.fields, headers := zE102.headers, registers := zE102.registers } : cb)) (x1 := ((ix a8 a5).Index)) x4 b7 b4 c2 b5 b2 b3 c7 b6 b8 c4 b9 c3 u2 (by ((have hk := bo_i (l := a8) (k := a5) (by assumption) (by omega) (by omega) (by omega); omega)))
       rw [n9] at o5
       obtain ⟨g0, i1, g3, h3, g4, j4, t4, l6, i0, i7, h0, h7, m1, h1, l5, i8, l1, l0, k8, m7⟩ := o5
       replace m7 := m7.symm; subst m7
       refine gu rfl rfl q7 ?_
       have q3 := mz n9; try dsimp only at q3
       refine kn (ap (fc (cw (af (bg rfl) (cx (cw ?_))))))
       obtain ⟨y4, w7, u7⟩ := au.g_Value e9
       refine af (cg (k := 4) t4 rfl rfl w7) (cx ?_)
       have u9 : Mem w5 [⟨.op e2 e1 0, 157, 3, [.agg [g0, g3, g4]]⟩, ⟨g0, 87, 2, i1⟩, ⟨g3, 3, 1, h3⟩, ⟨g4, 3, 1, j4⟩, ⟨.op e8 f0 0, 135, 7, [f1]⟩] := (Mem.front (k := 3) (Mem.front (k := 3) (Mem.front (k := 3) (Mem.front (k := 3) t4 rfl) rfl) rfl) rfl)
       obtain ⟨o9, o7, z⟩ := br z
       obtain ⟨y0, v2, q9, n6⟩ := ai6 (x0 := ({ fields := p6.fields, headers := p6.headers, registers := p6.registers } : cb)) (x1 := ((ix a8 a5).Value)) u7 l6 i0 i7 h0 h7 m1 h1 l5 i8 l1 l0 k8 u9 (by ((have y3 := bo_v (l := a8) (k := a5) (by assumption) (by omega) (by omega) (by omega); have y8 := bo_i (l := a8) (k := a5) (by assumption) (by omega) (by omega) (by omega); omega)))
       rw [o7] at n6
       obtain ⟨f6, k6, g2, l8, f9, l9, u1, h5, m3, k3, i9, i5, m4, h6, j2, k4, k0, j6, j1, m6⟩ := n6
       replace m6 := m6.symm; subst m6
       refine gu rfl rfl q9 ?_
       have r1 := mz o7; try dsimp only at r1
       refine kn (cy ?_)
       have t0 : Mem v2 [⟨.op e8 f0 0, 135, 7, [f1]⟩, ⟨f9, 3, 1, l9⟩, ⟨g2, 3, 1, l8⟩, ⟨f6, 87, 2, k6⟩, ⟨.op e2 e1 0, 157, 3, [.agg [f6, g2, f9]]⟩] := (Mem.front (k := 4) (Mem.front (k := 3) (Mem.front (k := 2) (Mem.front (k := 1) (Mem.front (k := 0) u1 rfl) rfl) rfl) rfl) rfl)
       refine ap (wC (J ({ fields := o9.fields, headers := o9.headers, registers := o9.registers } : cb) _ _ _ _ _ _ h5 m3 k3 i9 i5 m4 h6 j2 k4 k0 j6 j1 (by (((try dsimp only); (try simp only [List.length_append, List.length_cons, List.length_nil]); ((have y3 := bo_v (l := a8) (k := a5) (by assumption) (by omega) (by omega) (by omega); have y8 := bo_i (l := a8) (k := a5) (by assumption) (by omega) (by omega) (by omega); omega))))) _ (Mem.sub t0 (.cons_cons _ (.cons_cons _ (.cons_cons _ (.cons_cons _ (.cons_cons _ .slnil)))))) z) rfl)
      ·refine ax (cy ?_)
       refine ap (wC (J ({ fields := zE102.fields, headers := zE102.headers, registers := zE102.registers } : cb) _ _ _ _ _ _ b7 b4 c2 b5 b2 b3 c7 b6 b8 c4 b9 c3 (by omega) _ (Mem.sub e6 (.cons_cons _ (.cons_cons _ (.cons_cons _ (.cons_cons _ (.cons_cons _ .slnil)))))) z) rfl)

theorem dg1 {x0 : ae} {x1 : Int} {v0 : PV} (r0 : ae.t.R x0 v0) : ∃ c0, ∃ c1, ∃ c2, FnR Tryz.prog 37 [v0, vi x1] (.tup [c0, c1, c2]) ∧ (tSl aa.t).R (ij x0 x1).1 c0 ∧ (tSl tI).R (ij x0 x1).2.1 c1 ∧ (tSl tI).R (ij x0 x1).2.2 c2 := by
 obtain ⟨res, z⟩ : ∃ res, ij x0 x1 = res := ⟨_, rfl⟩
 suffices H : RC Tryz.prog dp3 [] (QR Tryz.prog [(4, none), (5, none), (6, none)] (RF37 res)) (argE 0 [v0, vi x1]) ⟨0, []⟩ by
  rw [z]
  obtain ⟨r, h1, c0, c1, c2, rfl, h6, h3, h7⟩ := fnE dg6 (by simp) H
  exact ⟨c0, c1, c2, h1, h6, h3, h7⟩
 unfold ij at z
 refine sR (af (dw rfl (TR.cnt ae.t r0)) (af (v := nilS) (ay rfl) (af (v := nilS) (ay rfl) (af (v := nilS) (ay rfl) (nR ?_)))))
 refine fa (x := .agg [nilS, nilS, nilS]) (Mem.nil ⟨0, []⟩) rfl rfl (fun g9 g7 h4 g5 => ?_)
 refine nS (am (sR (lD r0 rfl rfl rfl (mV rfl ?_))))
 obtain ⟨d6, b9, z⟩ := br z
 obtain ⟨h8, g1, d5⟩ := bj2 (x1 := x1) r0 
 rw [b9] at d5
 have e3 : BO x0 d6 := ui b9
 have e0 : d6.length ≤ 12 := (ui b9).1
 refine cL g1 rfl rfl (aj (TR.clo ae.t r0) (aj rfl bh)) (af (cp rfl (ca d5 Tryz.underlying95 _)) (mI rfl (nS (bf ?_))))
 have g2 := ou (sz := 2) (es := []) g5 87 (.inl ⟨none, rfl, rfl⟩) (by simp)
 have g0 := ou (sz := 1) (es := []) g2 3 (.inl ⟨none, rfl, rfl⟩) (by simp)
 have f7 := ou (sz := 1) (es := []) g0 3 (.inl ⟨none, rfl, rfl⟩) (by simp)
 refine wC (yo b9 d5 e3 e0 ?_  (zE102 := ({ fields := ([] : List aa), headers := ([] : List Int), registers := ([] : List Int) } : cb)) aL rfl (by decide) (.inl rfl) aL rfl (by decide) (.inl rfl) aL rfl (by decide) (.inl rfl) rfl (by omega) (by (((try dsimp only); (try simp only [List.length_append, List.length_cons, List.length_nil]); omega))) (by (((try dsimp only); (try simp only [List.length_append, List.length_cons, List.length_nil]); omega))) (by (((try dsimp only); (try simp only [List.length_append, List.length_cons, List.length_nil]); omega))) (by omega) (Mem.sub f7 (.cons_cons _ (.cons_cons _ (.cons_cons _ (.cons_cons _ .slnil))))) z) rfl
 ·intro a0 a3 b8 a1 b0 a2 b7 a4 a8 b6 a5 a6 b5 b2 a7 b3 b4 a9 b1 e5 f9 f4 z
  refine dy (ap (am (fc ?_)))
  have f8 : Mem f9 [⟨.op g9 g7 0, 157, 3, [.agg [a3, a1, a2]]⟩, ⟨a3, 87, 2, b8⟩, ⟨a1, 3, 1, b0⟩, ⟨a2, 3, 1, b7⟩] := (Mem.front (k := 3) (Mem.front (k := 2) (Mem.front (k := 1) (Mem.front (k := 0) f4 rfl) rfl) rfl) rfl)
  obtain ⟨h2, e2, z⟩ := br z
  obtain ⟨h0, h5, d9, d3⟩ := bk3 (x0 := ({ fields := a0.fields, headers := a0.headers, registers := a0.registers } : cb)) a4 a8 b6 a5 a6 b5 b2 a7 b3 b4 a9 b1 f8 (by omega)
  rw [e2] at d3
  obtain ⟨e8, e6, f1, f3, f2, f0, d4, c5, c4, c8, e9, d2, d1, c7, e7, d0, c6, c9, e4, c3⟩ := d3
  replace c3 := c3.symm; subst c3
  refine gu rfl rfl d9 (cw (xT rfl rfl (cx (cw (xT rfl rfl (cx (cw (xT rfl rfl ?_))))))))
  refine cx (cw (mV rfl (cx (cw (mV rfl (cx (cw (mV rfl ?_))))))))
  refine cx (kn (ap ?_))
  obtain ⟨g4, d7, f6⟩ := qc (P := Tryz.prog) (k := 0) (t := aa.t) d4 rfl c4 c5 (Nat.le_trans c8 (by decide))
  obtain ⟨g3, d8, g6⟩ := qc (P := Tryz.prog) (k := 1) (t := tI) d4 rfl d1 d2 (Nat.le_trans c7 (by decide))
  obtain ⟨f5, e1, g8⟩ := qc (P := Tryz.prog) (k := 2) (t := tI) d4 rfl c6 d0 (Nat.le_trans c9 (by decide))
  subst z
  exact gi (.tmp rfl (.tmp rfl (.tmp rfl .nil))) (ba4 (tl d7 (tl d8 (tl e1 be4))) (aj d7.1 (aj d8.1 (aj e1.1 bh)))) ⟨g4, g3, f5, rfl, f6, g6, g8⟩

end Go.Proofs.YtmonnlkagniolaaGreat
