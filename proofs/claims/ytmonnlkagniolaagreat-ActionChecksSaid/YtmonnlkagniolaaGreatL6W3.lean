/-
 The code of each function does what its plain program says.
-/
import Derived.Test.YtmonnlkagniolaaGreatL6W2
set_option linter.unusedVariables false
set_option linter.unusedSimpArgs false
set_option maxRecDepth 100000
namespace Go.Proofs.YtmonnlkagniolaaGreat
open Go Go.Pb Go.RowKit
def RF85 (n : au) (r : PV) : Prop := au.t.R n r
theorem ct6 {x0 : af} {x1 : Int} {v0 : PV} (r0 : af.t.R x0 v0) (hi : 0 ≤ x1 ∧ x1 < (x0.Actions.length : Int)) : ∃ r, FnR Tryz.prog 85 [v0, vi x1] r ∧ au.t.R (ov x0 x1) r := by
 refine fnT (R := RF85) cm2 rfl fun n z => ?_
 unfold ov at z
 refine sR (ae (ej rfl (TR.cnt af.t r0)) ?_)
 refine gh (x := .agg [vs [], nilS, nilS, nilS, nilS, nilS, nilS, nilS, nilS, nilS]) (Mem.nil ⟨0, []⟩) rfl rfl (fun b9 c1 c7 c5 => ?_)
 refine nR (lD r0 rfl rfl rfl (gL (af.g_Actions r0) rfl rfl rfl fun c9 c4 => (mV rfl ?_)))
 obtain ⟨c8, c3, c0⟩ := cz (i := x1) c4 (by omega) (by omega)
 refine ae (bf rfl rfl c3) (gL (bg.g_Params c0) rfl rfl rfl fun a8 b7 => ?_)
 obtain ⟨a5, a2, a7, a6, a0, a4, a3, a1, c2, b5, b6, b2, b3, b4, a9, b1, b0⟩ := r0
 subst c2
 refine ae (v := .agg [vs x0.Name, a5, a2, a7, a6, a0, a4, a3, a1, a8]) (me (cs := [vs x0.Name, a5, a2, a7, a6, a0, a4, a3, a1, a8]) rfl (by simp only [buildV, lm (TR.cnt (tSl ay.t) b7) (TR.agg (tSl ay.t) b7)]; rfl)) ?_
 refine fu (k := 0) (v := .agg [vs x0.Name, a5, a2, a7, a6, a0, a4, a3, a1, a8]) c5 rfl rfl rfl rfl (fun c6 b8 => ?_)
 replace b8 : Mem c6 [⟨.op b9 c1 0, 132, 10, [.agg [vs x0.Name, a5, a2, a7, a6, a0, a4, a3, a1, a8]]⟩] := b8
 refine nS ?_
 subst z
 exact gm (.cell rfl (oh (k := 0) b8 rfl rfl) .nil) (dm (TR.clo au.t (show au.t.R ({ Program := x0, Params := (ix x0.Actions x1).Params } : au) (.agg [vs x0.Name, a5, a2, a7, a6, a0, a4, a3, a1, a8]) from ⟨a5, a2, a7, a6, a0, a4, a3, a1, a8, rfl, b5, b6, b2, b3, b4, a9, b1, b0, b7⟩))) (show au.t.R ({ Program := x0, Params := (ix x0.Actions x1).Params } : au) (.agg [vs x0.Name, a5, a2, a7, a6, a0, a4, a3, a1, a8]) from ⟨a5, a2, a7, a6, a0, a4, a3, a1, a8, rfl, b5, b6, b2, b3, b4, a9, b1, b0, b7⟩)

def RF177 (n : Int × Bool) (r : PV) : Prop := r = .tup [vi n.1, vb n.2]
theorem at7 {x0 : af} {x1 : aa} {v0 v1 : PV} (r0 : af.t.R x0 v0) (r1 : aa.t.R x1 v1) : FnR Tryz.prog 177 [v0, v1] (.tup [vi ((ks x0 x1).1), vb ((ks x0 x1).2)]) := by
 refine fnS (R := RF177) bp5 (fun _ h => h) rfl fun n z => ?_
 unfold ks at z
 refine sR (ae (ej rfl (TR.cnt af.t r0)) (ae (ej rfl (TR.cnt aa.t r1)) (mI rfl (mB rfl (nR (gL (af.g_Metadata r0) rfl rfl rfl fun c3 b2 => (mV rfl (nS ?_))))))))
 refine aq (sR (fL rfl (aa.g_Header r1) rfl rfl (bN (ig (b := -1)) rfl rfl (nS ?_))))
 obtain ⟨b6, a6, z⟩ := bq z
 refine jw (F := fun b S Q => ∀ (a0 : List ay) (a2 : PV) (a1 : (tSl ay.t).R a0 a2), b6 a0 = n → RC Tryz.prog b S Q [(6, a2), (3, .fp v1)] ⟨0, []⟩) ?_ ?_
 ·intro a0 a2 a1  z
  rw [← a6] at z
  refine aq (sR (fL rfl (aa.g_Field r1) rfl rfl (bN cn rfl rfl (mV rfl ?_))))
  refine bw 6 (d := 39) (v := vb ((decide (x1.Field < 0)) || (decide ((a0.length : Int) ≤ x1.Field)))) ?_ ?_
  ·intro S Q r
   cases a7 : (decide (x1.Field < 0))
   ·intro k
    have a3 := a7
    try simp only [qa] at a3
    refine ai rfl rfl (cg rfl (aa.g_Field r1)) (ai rfl rfl (ca rfl rfl rfl) (ai rfl rfl (av rfl) (ai rfl rfl (cv rfl (cm a1 Tryz.underlying23 _)) (ai rfl rfl (bv rfl rfl lv) ?_))))
    exact gK rfl rfl rfl rfl rfl k
   ·exact gN 5 rfl rfl rfl rfl rfl rfl
  refine nS ?_
  refine bm z rfl ?_ ?_ <;> clear z <;> intro c z <;> try simp only [qa] at c
  ·refine sR (mI rfl (mB rfl (nS ?_)))
   exact rT z rfl rfl rfl rfl rfl
  ·refine ax (am (sR (mV rfl (fL rfl (aa.g_Field r1) rfl rfl ?_))))
   obtain ⟨b9, b1, a9⟩ := cz (i := x1.Field) a1 (by omega) (by omega)
   refine ae (bf rfl rfl b1) (fL rfl (ay.g_Width a9) rfl rfl (mV rfl (mB rfl (nS ?_))))
   exact rT z rfl rfl rfl rfl rfl
 ·intro J
  refine bm z rfl ?_ ?_ <;> clear z <;> intro c z <;> try simp only [qa] at c
  ·refine aq (sR (fL rfl (aa.g_Header r1) rfl rfl (bN cn rfl rfl (mV rfl ?_))))
   refine bw 7 (d := 22) (v := vb ((decide (x1.Header < 0)) || (decide ((x0.Headers.length : Int) ≤ x1.Header)))) ?_ ?_
   ·intro S Q r
    cases a8 : (decide (x1.Header < 0))
    ·intro k
     have a5 := a8
     try simp only [qa] at a5
     refine ai rfl rfl (cg rfl (aa.g_Header r1)) (ai rfl rfl (ca rfl rfl rfl) ?_)
     obtain ⟨b8, b4, a4⟩ := af.g_Headers r0
     refine ai rfl rfl (cg rfl b4) (ai rfl rfl (ca rfl (TR.cnt (tSl cy.t) a4) (TR.agg (tSl cy.t) a4)) (ai rfl rfl (cv rfl (cm a4 Tryz.underlying22 _)) (ai rfl rfl (bv rfl rfl lv) ?_)))
     exact gK rfl rfl rfl rfl rfl k
    ·exact gN 6 rfl rfl rfl rfl rfl rfl
   refine nS ?_
   refine bm z rfl ?_ ?_ <;> clear z <;> intro c z <;> try simp only [qa] at c
   ·refine sR (mI rfl (mB rfl (nS ?_)))
    exact rT z rfl rfl rfl rfl rfl
   ·refine ax (am (aw (gL (af.g_Headers r0) rfl rfl rfl fun c0 b3 => (fL rfl (aa.g_Header r1) rfl rfl ?_))))
    obtain ⟨c2, b0, b5⟩ := cz (i := x1.Header) b3 (by omega) (by omega)
    refine ae (bf rfl rfl b0) (gL (cy.g_Fields b5) rfl rfl rfl fun c1 b7 => (mV rfl (bp ?_)))
    refine am (wC (J _ _ b7  z) rfl)
  ·refine ax ?_
   refine am (wC (J _ _ b2  z) rfl)

def RF219 (n : Int) (r : PV) : Prop := r = vi n
theorem by8 {x0 : Int} : FnR Tryz.prog 219 [vi x0] (vi (jt x0)) := by
 refine fnS (R := RF219) bu4 (fun _ h => h) rfl fun n z => ?_
 unfold jt at z
 refine sR (mI rfl (nS (aq (bh (sR (mV rfl (bN lv rfl rfl (mV rfl ?_))))))))
 refine bw 3 (d := 9) (v := vb ((decide (1 ≤ x0)) && (decide (x0 ≤ 4)))) ?_ ?_
 ·intro S Q r
  cases a3 : (decide (1 ≤ x0))
  ·exact gN 2 rfl rfl rfl rfl rfl rfl
  ·intro k
   have a2 := a3
   try simp only [qa] at a2
   refine ai rfl rfl (av rfl) (ai rfl rfl (bv rfl rfl as4) ?_)
   exact gK rfl rfl rfl rfl rfl k
 refine mV rfl (nS ?_)
 refine bm z rfl ?_ ?_ <;> clear z <;> intro c z <;> try simp only [qa] at c
 ·refine sR (mI rfl (nS ?_))
  exact rR z rfl rfl rfl
 ·refine sR (mV rfl (bN lv rfl rfl (mV rfl ?_)))
  refine bw 3 (d := 16) (v := vb ((decide (5 ≤ x0)) && (decide (x0 ≤ 8)))) ?_ ?_
  ·intro S Q r
   cases a5 : (decide (5 ≤ x0))
   ·exact gN 2 rfl rfl rfl rfl rfl rfl
   ·intro k
    have a0 := a5
    try simp only [qa] at a0
    refine ai rfl rfl (av rfl) (ai rfl rfl (bv rfl rfl as4) ?_)
    exact gK rfl rfl rfl rfl rfl k
  refine mV rfl (nS ?_)
  refine bm z rfl ?_ ?_ <;> clear z <;> intro c z <;> try simp only [qa] at c
  ·refine sR (mI rfl (nS ?_))
   exact rR z rfl rfl rfl
  ·refine sR (mV rfl (bN lv rfl rfl (mV rfl ?_)))
   refine bw 3 (d := 23) (v := vb ((decide (9 ≤ x0)) && (decide (x0 ≤ 16)))) ?_ ?_
   ·intro S Q r
    cases a4 : (decide (9 ≤ x0))
    ·exact gN 2 rfl rfl rfl rfl rfl rfl
    ·intro k
     have a1 := a4
     try simp only [qa] at a1
     refine ai rfl rfl (av rfl) (ai rfl rfl (bv rfl rfl as4) ?_)
     exact gK rfl rfl rfl rfl rfl k
   refine mV rfl (nS ?_)
   refine bm z rfl ?_ ?_ <;> clear z <;> intro c z <;> try simp only [qa] at c
   ·refine sR (mI rfl (nS ?_))
    exact rR z rfl rfl rfl
   ·refine sR (mV rfl (bN dc rfl rfl (mV rfl (nS ?_))))
    refine bm z rfl ?_ ?_ <;> clear z <;> intro c z <;> try simp only [qa] at c
    ·refine sR (mI rfl (nS ?_))
     exact rR z rfl rfl rfl
    ·refine ax (cp (am (sR (mI rfl (nS ?_)))))
     exact rR z rfl rfl rfl

def RF285 (n : Int × Int) (r : PV) : Prop := r = .tup [vi n.1, vi n.2]
theorem xn {x0 : Int} : FnR Tryz.prog 285 [vi x0] (.tup [vi ((mj x0).1), vi ((mj x0).2)]) := by
 refine fnS (R := RF285) cf9 (fun _ h => h) rfl fun n z => ?_
 unfold mj at z
 refine sR (mI rfl (mI rfl (nS (aq (sR (mV rfl (bN cn rfl rfl (mV rfl ?_))))))))
 refine bw 3 (d := 9) (v := vb ((decide (x0 < 1)) || (decide (32 < x0)))) ?_ ?_
 ·intro S Q r
  cases a1 : (decide (x0 < 1))
  ·intro k
   have a0 := a1
   try simp only [qa] at a0
   refine ai rfl rfl (av rfl) (ai rfl rfl (bv rfl rfl ke) ?_)
   exact gK rfl rfl rfl rfl rfl k
  ·exact gN 2 rfl rfl rfl rfl rfl rfl
 refine nS ?_
 refine bm z rfl ?_ ?_ <;> clear z <;> intro c z <;> try simp only [qa] at c
 ·refine sR (mI rfl (mI rfl (nS ?_)))
  exact rT z rfl rfl rfl rfl rfl
 ·refine ax (am (sR (mV rfl (mV rfl (mI rfl (nS ?_))))))
  exact rT z rfl rfl rfl rfl rfl

def RF183 (n : Bool) (r : PV) : Prop := r = vb n
theorem ay6 {x0 : Int} : FnR Tryz.prog 183 [vi x0] (vb (im x0)) := by
 refine fnS (R := RF183) bv0 (fun _ h => h) rfl fun n z => ?_
 unfold im at z
 refine sR (mB rfl (nR (mV rfl (bN lv rfl rfl (mV rfl ?_)))))
 refine bw 3 (d := 8) (v := vb ((decide (1 ≤ x0)) && (decide (x0 ≤ 32)))) ?_ ?_
 ·intro S Q r
  cases a1 : (decide (1 ≤ x0))
  ·exact gN 2 rfl rfl rfl rfl rfl rfl
  ·intro k
   have a0 := a1
   try simp only [qa] at a0
   refine ai rfl rfl (av rfl) (ai rfl rfl (bv rfl rfl as4) ?_)
   exact gK rfl rfl rfl rfl rfl k
 refine mV rfl (nS ?_)
 exact rR z rfl rfl rfl

def RF184 (n : (BitVec 64)) (r : PV) : Prop := r = ph n
theorem vw {S : List Fr} {n : (BitVec 64)} {x0 : Int} (hp : x0 ≤ 64) {K0 : (BitVec 64) → (BitVec 64)}
  (a4 : ∀ {a1 : BitVec 64}, K0 a1 = n → PX Tryz.prog 0 S (QR Tryz.prog [(2, none)] (RF184 n)) [(3, ph a1)] ⟨0, []⟩) :
  ∀ {m : Nat} {a1 : BitVec 64} {a0 : Int} (a3 : m = Int.toNat (x0 - a0)) (a2 : 0 ≤ a0), ml K0 m a1 a0 = n → RC Tryz.prog (.loop bj2) S (QR Tryz.prog [(2, none)] (RF184 n)) [(4, vi a0), (3, ph a1), (0, vi x0)] ⟨0, []⟩ := by
 intro m
 induction m with
 | zero =>
  intro a1 a0 a3 a2 z
  rw [ml] at z
  refine cj (aq (sR (mV rfl (mV rfl (bN cn rfl rfl (nS ?_))))))
  refine cb rfl ?_ ?_ <;> intro c <;> try simp only [qa] at c
  ·omega
  refine dw (fj (dl ?_))
  exact wP (a4  z) rfl
 | succ m ih =>
  intro a1 a0 a3 a2 z
  rw [ml] at z
  refine cj (aq (sR (mV rfl (mV rfl (bN cn rfl rfl (nS ?_))))))
  refine cb rfl ?_ ?_ <;> intro c <;> try simp only [qa] at c
  rotate_left
  ·omega
  refine ax (am (aq (bh (aw (mV rfl (ae (bv (a := ph 2#64) (b := ph a1) rfl rfl dg9) (mV rfl (bp ?_))))))))
  refine cp (am (aw (mV rfl (bN em rfl rfl (mV rfl (bp (cq ?_)))))))
  have o : wr (a0 + 1) = a0 + 1 := de (by omega) (by omega)
  erw [o]
  exact wC (ih   (by omega) (by omega) z) rfl

theorem ar0 {x0 : Int} (hp : x0 ≤ 64) : FnR Tryz.prog 184 [vi x0] (ph (lr x0)) := by
 refine fnS (R := RF184) cb8 (fun _ h => h) rfl fun n z => ?_
 unfold lr at z
 refine sR (ae (v := ph 0#64) (av rfl) (nR (ae (v := ph 1#64) (av rfl) (nS (aq (sR (mI rfl (nS ?_))))))))
 refine bh ?_
 refine wC (vw hp ?_  rfl (by omega) z) rfl
 ·intro a0 z
  refine fx (am (sR (mV rfl (mV rfl (nS ?_)))))
  exact rR z rfl rfl rfl

def RF286 (n : (BitVec 32)) (r : PV) : Prop := r = nk n
theorem bt5 {x0 : Int} : FnR Tryz.prog 286 [vi x0] (nk (ma x0)) := by
 refine fnS (R := RF286) cc7 (fun _ h => h) rfl fun n z => ?_
 unfold ma at z
 refine sR (ae (v := nk 0#32) (av rfl) (nS (aq (sR (mV rfl ?_)))))
 obtain ⟨a5, a2, z⟩ := bq z
 have a3 := ay6 (x0 := x0)  
 rw [a2] at a3
 refine cL a3 rfl rfl (ak rfl bc) (ae (jp rfl) (nS ?_))
 refine bm z rfl ?_ ?_ <;> clear z <;> intro c z <;> try simp only [qa] at c
 ·refine sR (ae (v := nk 0#32) (av rfl) (nS ?_))
  exact rR z rfl rfl rfl
 ·refine ax (am (sR (mV rfl ?_)))
  obtain ⟨a4, a0, z⟩ := bq z
  have a1 := ar0 (x0 := x0)  (by (have hk := rval (by assumption) (by assumption); omega))
  rw [a0] at a1
  refine cL a1 rfl rfl (ak rfl bc) (ae (bv (a := ph a4) (b := ph 1#64) rfl rfl de8) (ae (xh (a := ph (a4 - 1#64)) rfl (c_dw Tryz.underlying201 Tryz.underlying89)) (mV rfl (nS ?_))))
  exact rR z rfl rfl rfl

def RF258 (n : Int × Int) (r : PV) : Prop := r = .tup [vi n.1, vi n.2]
theorem bq3 {x0 : ab} {x1 : au} {v0 v1 : PV} (r0 : ab.t.R x0 v0) (r1 : au.t.R x1 v1) : FnR Tryz.prog 258 [v0, v1] (.tup [vi ((oi x0 x1).1), vi ((oi x0 x1).2)]) := by
 refine fnS (R := RF258) bs0 (fun _ h => h) rfl fun n z => ?_
 unfold oi at z
 refine sR (ae (ej rfl (TR.cnt ab.t r0)) (ae (ej rfl (TR.cnt au.t r1)) (mI rfl (mI rfl (nS (aq (sR (fL rfl (ab.g_Op r0) rfl rfl ?_))))))))
 refine nS (bh (sR (bN dc rfl rfl (mV rfl (nS ?_)))))
 refine bm z rfl ?_ ?_ <;> clear z <;> intro c z <;> try simp only [qa] at c
 ·refine sR (fL rfl (ab.g_W r0) rfl rfl ?_)
  obtain ⟨a0, b9, z⟩ := bq z
  have b0 := xn (x0 := x0.W)  
  rw [b9] at b0
  refine cL b0 rfl rfl (ak rfl bc) (mV rfl (xT rfl rfl (xT rfl rfl (mV rfl (mV rfl (nS (aq (sR ?_))))))))
  refine mV rfl (bN dc rfl rfl (mV rfl ?_))
  refine bw 12 (d := 34) (v := vb ((decide (a0.2 = 0)) && ((decide (x0.N < 0)) || (decide (((ma a0.1).toNat : Int) < x0.N))))) ?_ ?_
  ·intro S Q r
   cases b3 : (decide (a0.2 = 0))
   ·exact gN 11 rfl rfl rfl rfl rfl rfl
   ·intro k
    have a6 := b3
    try simp only [qa] at a6
    refine ai rfl rfl (cg rfl (ab.g_N r0)) (ai rfl rfl (ca rfl rfl rfl) (ai rfl rfl (bv rfl rfl cn) (ai rfl rfl (av rfl) ?_)))
    refine bw 7 (d := 33) (v := vb ((decide (x0.N < 0)) || (decide (((ma a0.1).toNat : Int) < x0.N)))) ?_ ?_
    ·intro S Q r
     cases a7 : (decide (x0.N < 0))
     ·intro k
      have a4 := a7
      try simp only [qa] at a4
      refine ai rfl rfl (cg rfl (ab.g_N r0)) (ai rfl rfl (ca rfl rfl rfl) (ai rfl rfl (av rfl) ?_))
      have c2 := bt5 (x0 := a0.1)  
      refine jm rfl rfl (nw rfl rfl (ak rfl bc) c2) (ai rfl rfl (xh (a := nk (ma a0.1)) rfl (c_wi Tryz.underlying89 Tryz.underlying3)) (ai rfl rfl (bv rfl rfl ke) (ai (v := vb (decide (((ma a0.1).toNat : Int) < x0.N))) rfl rfl (mw rfl rfl rfl rfl) ?_)))
      exact wD k rfl
     ·intro k
      refine iv rfl rfl (iv rfl rfl (iv rfl rfl (iv rfl rfl (iv rfl rfl (iv rfl rfl (ai (v := vb true) rfl rfl (mw rfl rfl rfl rfl) ?_))))))
      exact wD k rfl
    exact gK rfl rfl rfl rfl rfl k
  refine nS ?_
  refine bm z rfl ?_ ?_ <;> clear z <;> intro c z <;> try simp only [qa] at c
  ·refine sR (mI rfl (mI rfl (nS ?_)))
   exact rT z rfl rfl rfl rfl rfl
  ·refine ax (am (sR (mV rfl (mV rfl (mV rfl (mV rfl (nS ?_)))))))
   exact rT z rfl rfl rfl rfl rfl
 ·refine sR (bN dc rfl rfl (mV rfl (nS ?_)))
  refine bm z rfl ?_ ?_ <;> clear z <;> intro c z <;> try simp only [qa] at c
  ·refine sR (gL (au.g_Program r1) rfl rfl rfl fun c9 b6 => (fL rfl (ab.g_N r0) rfl rfl (fL rfl (ab.g_W r0) rfl rfl (ae (v := .agg [vi x0.N, vi x0.W]) (me (cs := [vi x0.N, vi x0.W]) rfl rfl) ?_))))
   obtain ⟨c8, a9, z⟩ := bq z
   have b4 := at7  b6 (show aa.t.R ({ Header := x0.N, Field := x0.W } : aa) (.agg [vi x0.N, vi x0.W]) from rfl) 
   rw [a9] at b4
   refine cL b4 rfl rfl (ak (TR.clo af.t b6) (ak (TR.clo aa.t (show aa.t.R ({ Header := x0.N, Field := x0.W } : aa) (.agg [vi x0.N, vi x0.W]) from rfl)) bc)) (mV rfl (xT rfl rfl (xT rfl rfl (mV rfl (mV rfl (nS (aq (sR ?_))))))))
   refine mV rfl (ae (jp rfl) (nS ?_))
   refine bm z rfl ?_ ?_ <;> clear z <;> intro c z <;> try simp only [qa] at c
   ·refine sR (mI rfl (mI rfl (nS ?_)))
    exact rT z rfl rfl rfl rfl rfl
   ·refine ax (am (sR (mV rfl ?_)))
    obtain ⟨d3, b5, z⟩ := bq z
    have b1 := xn (x0 := c8.1)  
    rw [b5] at b1
    refine cL b1 rfl rfl (ak rfl bc) (xT rfl rfl (xT rfl rfl (mV rfl (mV rfl (nS ?_)))))
    exact rT z rfl rfl rfl rfl rfl
  ·refine sR (bN dc rfl rfl (mV rfl (nS ?_)))
   refine bm z rfl ?_ ?_ <;> clear z <;> intro c z <;> try simp only [qa] at c
   ·refine aq (sR (fL rfl (ab.g_N r0) rfl rfl (bN cn rfl rfl (mV rfl ?_))))
    refine bw 7 (d := 68) (v := vb ((decide (x0.N < 0)) || (decide ((x1.Params.length : Int) ≤ x0.N)))) ?_ ?_
    ·intro S Q r
     cases b2 : (decide (x0.N < 0))
     ·intro k
      have a5 := b2
      try simp only [qa] at a5
      refine ai rfl rfl (cg rfl (ab.g_N r0)) (ai rfl rfl (ca rfl rfl rfl) ?_)
      obtain ⟨d1, c3, a3⟩ := au.g_Params r1
      refine ai rfl rfl (cg rfl c3) (ai rfl rfl (ca rfl (TR.cnt (tSl ay.t) a3) (TR.agg (tSl ay.t) a3)) (ai rfl rfl (cv rfl (cm a3 Tryz.underlying23 _)) (ai rfl rfl (bv rfl rfl lv) ?_)))
      exact gK rfl rfl rfl rfl rfl k
     ·exact gN 6 rfl rfl rfl rfl rfl rfl
    refine nS ?_
    refine bm z rfl ?_ ?_ <;> clear z <;> intro c z <;> try simp only [qa] at c
    ·refine sR (mI rfl (mI rfl (nS ?_)))
     exact rT z rfl rfl rfl rfl rfl
    ·refine ax (am (sR (gL (au.g_Params r1) rfl rfl rfl fun d0 c0 => (fL rfl (ab.g_N r0) rfl rfl ?_))))
     obtain ⟨d4, c7, c4⟩ := cz (i := x0.N) c0 (by omega) (by omega)
     refine ae (bf rfl rfl c7) (fL rfl (ay.g_Width c4) rfl rfl ?_)
     obtain ⟨d5, b8, z⟩ := bq z
     have b7 := xn (x0 := (ix x1.Params x0.N).Width)  
     rw [b8] at b7
     refine cL b7 rfl rfl (ak rfl bc) (xT rfl rfl (xT rfl rfl (mV rfl (mV rfl (nS ?_)))))
     exact rT z rfl rfl rfl rfl rfl
   ·refine ax (cp (am (aq (sR (fL rfl (ab.g_N r0) rfl rfl (bN cn rfl rfl (mV rfl ?_)))))))
    refine bw 8 (d := 90) (v := vb ((decide (x0.N < 0)) || (decide ((x1.Program.Headers.length : Int) ≤ x0.N)))) ?_ ?_
    ·intro S Q r
     cases a8 : (decide (x0.N < 0))
     ·intro k
      have a1 := a8
      try simp only [qa] at a1
      refine ai rfl rfl (cg rfl (ab.g_N r0)) (ai rfl rfl (ca rfl rfl rfl) ?_)
      obtain ⟨d2, c6, c5⟩ := au.g_Program r1
      refine ai rfl rfl (cg rfl c6) ?_
      obtain ⟨d6, c1, a2⟩ := af.g_Headers c5
      refine ai rfl rfl (cg rfl c1) (ai rfl rfl (ca rfl (TR.cnt (tSl cy.t) a2) (TR.agg (tSl cy.t) a2)) (ai rfl rfl (cv rfl (cm a2 Tryz.underlying22 _)) (ai rfl rfl (bv rfl rfl lv) ?_)))
      exact gK rfl rfl rfl rfl rfl k
     ·exact gN 7 rfl rfl rfl rfl rfl rfl
    refine nS ?_
    refine bm z rfl ?_ ?_ <;> clear z <;> intro c z <;> try simp only [qa] at c
    ·refine sR (mI rfl (mI rfl (nS ?_)))
     exact rT z rfl rfl rfl rfl rfl
    ·refine ax (am (sR (mI rfl (mI rfl (nS ?_)))))
     exact rT z rfl rfl rfl rfl rfl

def RF259 (n : Int × Int) (r : PV) : Prop := r = .tup [vi n.1, vi n.2]
theorem bu1 {x0 : ab} {x1 : List Int} {v0 v1 : PV} (r0 : ab.t.R x0 v0) (r1 : (tSl tI).R x1 v1) (hl : (x1.length : Int) = jt x0.Op) (h1 : 1 ≤ x1.length) : FnR Tryz.prog 259 [v0, v1] (.tup [vi ((fy x0 x1).1), vi ((fy x0 x1).2)]) := by
 refine fnS (R := RF259) bw1 (fun _ h => h) rfl fun n z => ?_
 unfold fy at z
 refine sR (ae (ej rfl (TR.cnt ab.t r0)) (mI rfl (mI rfl (nS (aq (sR (fL rfl (ab.g_Op r0) rfl rfl (nS ?_))))))))
 refine bh (sR (bN dc rfl rfl (mV rfl (nS ?_))))
 refine bm z rfl ?_ ?_ <;> clear z <;> intro c z <;> try simp only [qa] at c
 ·refine sR (mV rfl (ae (bf rfl rfl (slI (i := 0) r1 (by first | omega | (have hk := opl hl; omega) | (have hk := opl hl; have hj := jor (by assumption) (by assumption); omega)) (by first | omega | (have hk := opl hl; omega) | (have hk := opl hl; have hj := jor (by assumption) (by assumption); omega)))) (lR rfl rfl rfl (mV rfl (mI rfl (nS ?_))))))
  exact rT z rfl rfl rfl rfl rfl
 ·refine aq (sR (bN dc rfl rfl (mV rfl (nS ?_))))
  obtain ⟨b7, b1, z⟩ := bq z
  refine jw (F := fun b S Q => ∀ (a0 : Bool) (a8 : a0 = (if (decide (x0.Op = 6)) = true then (decide (x0.Op = 6)) else (decide (x0.Op = 7)))), b7 a0 = n → RC Tryz.prog b S Q [(13, vb a0), (7, vi x0.Op), (2, .fp v0), (1, v1)] ⟨0, []⟩) ?_ ?_
  ·intro a0 a8  z
   rw [← b1] at z
   refine bm z rfl ?_ ?_ <;> clear z <;> intro c z <;> try simp only [qa] at c
   ·refine aq (sR (fL rfl (ab.g_N r0) rfl rfl (bN cn rfl rfl (mV rfl ?_))))
    refine bw 4 (d := 23) (v := vb ((decide (x0.N < 0)) || (decide (31 < x0.N)))) ?_ ?_
    ·intro S Q r
     cases b2 : (decide (x0.N < 0))
     ·intro k
      have a5 := b2
      try simp only [qa] at a5
      refine ai rfl rfl (cg rfl (ab.g_N r0)) (ai rfl rfl (ca rfl rfl rfl) (ai rfl rfl (bv rfl rfl ke) ?_))
      exact gK rfl rfl rfl rfl rfl k
     ·exact gN 3 rfl rfl rfl rfl rfl rfl
    refine nS ?_
    refine bm z rfl ?_ ?_ <;> clear z <;> intro c z <;> try simp only [qa] at c
    ·refine sR (mI rfl (mI rfl (nS ?_)))
     exact rT z rfl rfl rfl rfl rfl
    ·refine ax (am (sR (mV rfl (ae (bf rfl rfl (slI (i := 0) r1 (by first | omega | (have hk := opl hl; omega) | (have hk := opl hl; have hj := jor (by assumption) (by assumption); omega)) (by first | omega | (have hk := opl hl; omega) | (have hk := opl hl; have hj := jor (by assumption) (by assumption); omega)))) (lR rfl rfl rfl (mV rfl (mI rfl (nS ?_))))))))
     exact rT z rfl rfl rfl rfl rfl
   ·refine sR (bN dc rfl rfl (mV rfl (nS ?_)))
    refine bm z rfl ?_ ?_ <;> clear z <;> intro c z <;> try simp only [qa] at c
    ·refine aq (bh (sR (fL rfl (ab.g_N r0) rfl rfl (bN cn rfl rfl (mV rfl (nS ?_))))))
     refine bm z rfl ?_ ?_ <;> clear z <;> intro c z <;> try simp only [qa] at c
     ·refine sR (mI rfl (mI rfl (nS ?_)))
      exact rT z rfl rfl rfl rfl rfl
     ·refine sR (fL rfl (ab.g_W r0) rfl rfl (bN cn rfl rfl (mV rfl ?_)))
      refine bw 4 (d := 41) (v := vb ((decide (x0.W < 1)) || (decide (32 < x0.W)))) ?_ ?_
      ·intro S Q r
       cases b4 : (decide (x0.W < 1))
       ·intro k
        have a6 := b4
        try simp only [qa] at a6
        refine ai rfl rfl (cg rfl (ab.g_W r0)) (ai rfl rfl (ca rfl rfl rfl) (ai rfl rfl (bv rfl rfl ke) ?_))
        exact gK rfl rfl rfl rfl rfl k
       ·exact gN 3 rfl rfl rfl rfl rfl rfl
      refine mV rfl ?_
      refine bw 10 (d := 52) (v := vb (((decide (x0.W < 1)) || (decide (32 < x0.W))) || (decide ((wr ((ix x1 0) - x0.W)) < x0.N)))) ?_ ?_
      ·intro S Q r
       cases b5 : ((decide (x0.W < 1)) || (decide (32 < x0.W)))
       ·intro k
        have a2 := b5
        try simp only [qa] at a2
        refine ai rfl rfl (cg rfl (ab.g_N r0)) (ai rfl rfl (ca rfl rfl rfl) (ai rfl rfl (av rfl) (ai rfl rfl (bf rfl rfl (slI (i := 0) r1 (by first | omega | (have hk := opl hl; omega) | (have hk := opl hl; have hj := jor (by assumption) (by assumption); omega)) (by first | omega | (have hk := opl hl; omega) | (have hk := opl hl; have hj := jor (by assumption) (by assumption); omega)))) (ai rfl rfl (ca rfl rfl rfl) (ai rfl rfl (cg rfl (ab.g_W r0)) (ai rfl rfl (ca rfl rfl rfl) (ai rfl rfl (bv rfl rfl yy) (ai rfl rfl (bv rfl rfl ke) ?_))))))))
        exact gK rfl rfl rfl rfl rfl k
       ·exact gN 9 rfl rfl rfl rfl rfl rfl
      refine mV rfl (nS ?_)
      refine bm z rfl ?_ ?_ <;> clear z <;> intro c z <;> try simp only [qa] at c
      ·refine sR (mI rfl (mI rfl (nS ?_)))
       exact rT z rfl rfl rfl rfl rfl
      ·refine ax (cp (am (sR (fL rfl (ab.g_W r0) rfl rfl (mV rfl (mI rfl (nS ?_)))))))
       exact rT z rfl rfl rfl rfl rfl
    ·refine sR (bN dc rfl rfl (mV rfl (nS ?_)))
     refine bm z rfl ?_ ?_ <;> clear z <;> intro c z <;> try simp only [qa] at c
     ·refine sR (mV rfl (ae (bf rfl rfl (slI (i := 0) r1 (by first | omega | (have hk := opl hl; omega) | (have hk := opl hl; have hj := jor (by assumption) (by assumption); omega)) (by first | omega | (have hk := opl hl; omega) | (have hk := opl hl; have hj := jor (by assumption) (by assumption); omega)))) (lR rfl rfl rfl (mV rfl (ae (bf rfl rfl (slI (i := 1) r1 (by first | omega | (have hk := opl hl; omega) | (have hk := opl hl; have hj := jor (by assumption) (by assumption); omega)) (by first | omega | (have hk := opl hl; omega) | (have hk := opl hl; have hj := jor (by assumption) (by assumption); omega)))) (lR rfl rfl rfl (bN em rfl rfl ?_)))))))
      obtain ⟨b8, a9, z⟩ := bq z
      have b0 := xn (x0 := (wr ((ix x1 0) + (ix x1 1))))  
      rw [a9] at b0
      refine cL b0 rfl rfl (ak rfl bc) (xT rfl rfl (xT rfl rfl (mV rfl (mV rfl (nS ?_)))))
      exact rT z rfl rfl rfl rfl rfl
     ·refine sR (bN dc rfl rfl (mV rfl (nS ?_)))
      refine bm z rfl ?_ ?_ <;> clear z <;> intro c z <;> try simp only [qa] at c
      ·refine aq (sR (mV rfl (ae (bf rfl rfl (slI (i := 0) r1 (by first | omega | (have hk := opl hl; omega) | (have hk := opl hl; have hj := jor (by assumption) (by assumption); omega)) (by first | omega | (have hk := opl hl; omega) | (have hk := opl hl; have hj := jor (by assumption) (by assumption); omega)))) (lR rfl rfl rfl (bN ig rfl rfl (mV rfl ?_))))))
       refine bw 8 (d := 81) (v := vb ((!decide ((ix x1 0) = 1)) || (!decide ((ix x1 1) = (ix x1 2))))) ?_ ?_
       ·intro S Q r
        cases b3 : (!decide ((ix x1 0) = 1))
        ·intro k
         have a4 := b3
         try simp only [qa] at a4
         refine ai rfl rfl (av rfl) (ai rfl rfl (bf rfl rfl (slI (i := 1) r1 (by first | omega | (have hk := opl hl; omega) | (have hk := opl hl; have hj := jor (by assumption) (by assumption); omega)) (by first | omega | (have hk := opl hl; omega) | (have hk := opl hl; have hj := jor (by assumption) (by assumption); omega)))) (ai rfl rfl (ca rfl rfl rfl) (ai rfl rfl (av rfl) (ai rfl rfl (bf rfl rfl (slI (i := 2) r1 (by first | omega | (have hk := opl hl; omega) | (have hk := opl hl; have hj := jor (by assumption) (by assumption); omega)) (by first | omega | (have hk := opl hl; omega) | (have hk := opl hl; have hj := jor (by assumption) (by assumption); omega)))) (ai rfl rfl (ca rfl rfl rfl) (ai rfl rfl (bv rfl rfl ig) ?_))))))
         exact gK rfl rfl rfl rfl rfl k
        ·exact gN 7 rfl rfl rfl rfl rfl rfl
       refine nS ?_
       refine bm z rfl ?_ ?_ <;> clear z <;> intro c z <;> try simp only [qa] at c
       ·refine sR (mI rfl (mI rfl (nS ?_)))
        exact rT z rfl rfl rfl rfl rfl
       ·refine ax (am (sR (mV rfl (ae (bf rfl rfl (slI (i := 1) r1 (by first | omega | (have hk := opl hl; omega) | (have hk := opl hl; have hj := jor (by assumption) (by assumption); omega)) (by first | omega | (have hk := opl hl; omega) | (have hk := opl hl; have hj := jor (by assumption) (by assumption); omega)))) (lR rfl rfl rfl (mV rfl (mI rfl (nS ?_))))))))
        exact rT z rfl rfl rfl rfl rfl
      ·refine ax (cp (am (aq (bh (sR (mV rfl (ae (bf rfl rfl (slI (i := 0) r1 (by first | omega | (have hk := opl hl; omega) | (have hk := opl hl; have hj := jor (by assumption) (by assumption); omega)) (by first | omega | (have hk := opl hl; omega) | (have hk := opl hl; have hj := jor (by assumption) (by assumption); omega)))) (lR rfl rfl rfl ?_))))))))
       refine mV rfl (ae (bf rfl rfl (slI (i := 1) r1 (by first | omega | (have hk := opl hl; omega) | (have hk := opl hl; have hj := jor (by assumption) (by assumption); omega)) (by first | omega | (have hk := opl hl; omega) | (have hk := opl hl; have hj := jor (by assumption) (by assumption); omega)))) (lR rfl rfl rfl (bN ig rfl rfl (mV rfl (nS ?_)))))
       refine bm z rfl ?_ ?_ <;> clear z <;> intro c z <;> try simp only [qa] at c
       ·refine sR (mI rfl (mI rfl (nS ?_)))
        exact rT z rfl rfl rfl rfl rfl
       ·refine sR (fL rfl (ab.g_Op r0) rfl rfl (bN dc rfl rfl (mV rfl ?_)))
        refine bw 4 (d := 101) (v := vb ((decide (x0.Op = 15)) || (decide (x0.Op = 16)))) ?_ ?_
        ·intro S Q r
         cases b6 : (decide (x0.Op = 15))
         ·intro k
          have a7 := b6
          try simp only [qa] at a7
          refine ai rfl rfl (cg rfl (ab.g_Op r0)) (ai rfl rfl (ca rfl rfl rfl) (ai rfl rfl (bv rfl rfl dc) ?_))
          exact gK rfl rfl rfl rfl rfl k
         ·exact gN 3 rfl rfl rfl rfl rfl rfl
        refine mV rfl (nS ?_)
        refine bm z rfl ?_ ?_ <;> clear z <;> intro c z <;> try simp only [qa] at c
        ·refine sR (mI rfl (mI rfl (nS ?_)))
         exact rT z rfl rfl rfl rfl rfl
        ·refine ax (cp (am (sR (mV rfl (ae (bf rfl rfl (slI (i := 0) r1 (by first | omega | (have hk := opl hl; omega) | (have hk := opl hl; have hj := jor (by assumption) (by assumption); omega)) (by first | omega | (have hk := opl hl; omega) | (have hk := opl hl; have hj := jor (by assumption) (by assumption); omega)))) (lR rfl rfl rfl (mV rfl (mI rfl ?_))))))))
         refine nS ?_
         exact rT z rfl rfl rfl rfl rfl
  ·intro J
   refine bm z rfl ?_ ?_ <;> clear z <;> intro a1 z <;> have a3 := a1 <;> try simp only [qa] at a3
   ·refine ax ?_
    refine am (wC (J _ (ac3 a1).symm  z) rfl)
   ·refine aw (bN dc rfl rfl (mV rfl (bp ?_)))
    refine am (wC (J _ (aa9 a1).symm  z) rfl)

def RF216 (n : Int × Int × Int) (r : PV) : Prop := r = .tup [vi n.1, vi n.2.1, vi n.2.2]
theorem uw {S : List Fr} {n : Int × Int × Int} {x0 : List ab} {x1 : Int} {x2 : au} {rec_ : (List ab) → Int → au → (Int × Int × Int)} {mu_ : Nat} {b0 : Int} {v0 v2 : PV} (r0 : (tSl ab.t).R x0 v0) (r2 : au.t.R x2 v2) (h0 : 0 ≤ x1) (hb : x0.length ≤ 1000000) (ihR : ∀ {z0 : List ab} {z1 : Int} {z2 : au} {d7 d4 : PV} (e2 : (tSl ab.t).R z0 d7) (e1 : au.t.R z2 d4) (h0 : 0 ≤ z1) (hb : z0.length ≤ 1000000), (z0.length - z1.toNat) < mu_ → FnR Tryz.prog 216 [d7, vi z1, d4] (.tup [vi ((rec_ z0 z1 z2).1), vi ((rec_ z0 z1 z2).2.1), vi ((rec_ z0 z1 z2).2.2)])) (hmu : mu_ = (x0.length - x1.toNat)) (hrec : ∀ (z0 : List ab) (z1 : Int) (z2 : au), 0 ≤ z1 → z0.length ≤ 1000000 → (rec_ z0 z1 z2).2.2 = 0 → z1 < (rec_ z0 z1 z2).2.1) (c8 : (decide ((x0.length : Int) ≤ x1)) = false) (d6 : jt ((ix x0 x1).Op) = b0) (c5 : (decide (b0 < 0)) = false) (c1 : (decide (b0 = 0)) = false) {K0 : Int → (List Int) → (Int × Int × Int)}
  (d8 : ∀ {a5 : Int} {a1 : List Int} {a0 : List PV} {a2 : PV} (a6 : All2 tI.R a1 a0) (a8 : isL a2 = true) (a3 : Wri a2 a0) (a7 : a1.length ≤ 4611686018427387904) (e3 : (a1.length : Int) = b0) {h : Heap} (M0 : Mem h [⟨a2, 3, 1, a0⟩]), K0 a5 a1 = n → PX Tryz.prog 0 S (QR Tryz.prog [(6, none), (7, none), (8, none)] (RF216 n)) [(0, v0), (1, vi x1), (12, a2), (13, vi a5)] h) :
  ∀ {m : Nat} {a5 a4 : Int} {a1 : List Int} {a0 : List PV} {a2 : PV} (a6 : All2 tI.R a1 a0) (a8 : isL a2 = true) (a3 : Wri a2 a0) (a7 : a1.length ≤ 4611686018427387904) (d5 : m = Int.toNat (b0 - a4)) (c6 : 0 ≤ a4) (b2 : x1 < a5) (b3 : (a1.length : Int) = a4) (b4 : a4 ≤ b0) {h : Heap} (M0 : Mem h [⟨a2, 3, 1, a0⟩]), ju x0 x2 rec_ K0 m a5 a4 a1 = n → RC Tryz.prog (.loop bn7) S (QR Tryz.prog [(6, none), (7, none), (8, none)] (RF216 n)) [(14, vi a4), (13, vi a5), (12, a2), (9, vi b0), (5, .fp v2), (1, vi x1), (0, v0)] h := by
 have hb' := hb
 try simp only [qa] at hb'
 have b9 := c8
 try simp only [qa] at b9
 have b7 := c5
 try simp only [qa] at b7
 have b8 := c1
 try simp only [qa] at b8
 intro m
 induction m with
 | zero =>
  intro a5 a4 a1 a0 a2 a6 a8 a3 a7 d5 c6 b2 b3 b4 h M0 z
  rw [ju] at z
  refine cj (aq (sR (mV rfl (mV rfl (bN cn rfl rfl (nS ?_))))))
  refine cb rfl ?_ ?_ <;> intro c <;> try simp only [qa] at c
  ·omega
  refine dw (fj (dl ?_))
  exact wP (d8 a6 a8 a3 a7 (by omega) (Mem.sub M0 (.cons_cons _ .slnil)) z) rfl
 | succ m ih =>
  intro a5 a4 a1 a0 a2 a6 a8 a3 a7 d5 c6 b2 b3 b4 h M0 z
  rw [ju] at z
  refine cj (aq (sR (mV rfl (mV rfl (bN cn rfl rfl (nS ?_))))))
  refine cb rfl ?_ ?_ <;> intro c <;> try simp only [qa] at c
  rotate_left
  ·omega
  refine ax (am (aq (bh (sR (mV rfl (mV rfl (lD r2 rfl rfl rfl ?_)))))))
  obtain ⟨a9, b5, z⟩ := bq z
  have c0 := ihR (z0 := x0) (z1 := a5) (z2 := x2) r0 r2 (by first | assumption | omega | (rw [de (by omega) (by omega)]; omega)) (by first | assumption | omega | (rw [de (by omega) (by omega)]; omega)) (by first | omega | (rw [de (by omega) (by omega)]; omega))
  rw [b5] at c0
  have d3 : a9.2.2 = 0 → a5 < a9.2.1 := by rw [← b5]; exact hrec _ _ _ (by omega) (by omega)
  refine cL c0 rfl rfl (ak (TR.clo (tSl ab.t) r0) (ak rfl (ak (TR.clo au.t r2) bc))) (mV rfl (xT rfl rfl (xT rfl rfl (xT rfl rfl (mV rfl (mV rfl (mV rfl (nS ?_))))))))
  refine aq (sR (mV rfl (bN ig rfl rfl (nS ?_))))
  refine bm z rfl ?_ ?_ <;> clear z <;> intro c z <;> try simp only [qa] at c
  ·refine sR (mV rfl (mV rfl (mI rfl (mV rfl (mV rfl (nS ?_))))))
   subst z
   exact gm (.tmp rfl (.tmp rfl (.tmp rfl .nil))) (dm (show closed (.tup _) = true from (ak rfl (ak rfl (ak rfl bc))))) rfl
  ·refine ax (am (sR (mV rfl (mV rfl (ae (v := .fs true [vi a9.1]) (fd rfl (all_cons rfl iu)) ?_)))))
   have d0 : (tSl tI).R ([a9.1] : List Int) (.fs true [vi a9.1]) := mg ⟨rfl, trivial⟩ (by simp)
   obtain ⟨b1, c2, b6⟩ := lb (t := tI) (h := h) d0
   have c3 : fits (a0.length + b1.length) 8 = true := by rw [All2.length_eq a6, All2.length_eq b6]; (try simp only [List.length_cons, List.length_nil]); exact jl (by first | omega | (have hk := rar (by assumption); omega) | (simp only [List.length_append, List.length_cons, List.length_nil]; have hk := rar (by assumption); omega)) (by first | omega | (have hk := rar (by assumption); omega) | (simp only [List.length_append, List.length_cons, List.length_nil]; have hk := rar (by assumption); omega))
   refine jk (k := 0) (es := a0) (news := b1) M0 rfl rfl rfl a8 a3 c2 c3 (fun e0 d9 d2 c7 d1 => ?_)
   have c4 : All2 tI.R (a1 ++ ([a9.1] : List Int)) (a0 ++ b1) := All2.app a6 b6
   have c9 : (a1 ++ ([a9.1] : List Int)).length ≤ 4611686018427387904 := by rw [← All2.length_eq c4, List.length_append]; exact gy c3
   refine mV rfl (nS (aw (mV rfl (mV rfl (bp (cp (am (aw ?_))))))))
   refine mV rfl (bN em rfl rfl (mV rfl (bp (cq ?_))))
   have o : wr (a4 + 1) = a4 + 1 := de (by omega) (by (have hk := rar (by assumption); omega))
   erw [o]
   exact wC (ih  c4 d2 c7 c9 (by omega) (by omega) (by first | (simp only [List.length_append, List.length_cons, List.length_nil]; omega) | omega) (by first | (simp only [List.length_append, List.length_cons, List.length_nil]; omega) | omega) (by first | (simp only [List.length_append, List.length_cons, List.length_nil]; omega) | omega) (Mem.sub d1 (.cons_cons _ .slnil)) z) rfl

theorem bn0 {rec_ : (List ab) → Int → au → (Int × Int × Int)} {mu_ : Nat} {x0 : List ab} {x1 : Int} {x2 : au} {v0 v2 : PV} (r0 : (tSl ab.t).R x0 v0) (r2 : au.t.R x2 v2) (h0 : 0 ≤ x1) (hb : x0.length ≤ 1000000) (hmu : mu_ = (x0.length - x1.toNat)) (hrec : ∀ (z0 : List ab) (z1 : Int) (z2 : au), 0 ≤ z1 → z0.length ≤ 1000000 → (rec_ z0 z1 z2).2.2 = 0 → z1 < (rec_ z0 z1 z2).2.1) (ihR : ∀ {z0 : List ab} {z1 : Int} {z2 : au} {d2 d1 : PV} (e2 : (tSl ab.t).R z0 d2) (e1 : au.t.R z2 d1) (h0 : 0 ≤ z1) (hb : z0.length ≤ 1000000), (z0.length - z1.toNat) < mu_ → FnR Tryz.prog 216 [d2, vi z1, d1] (.tup [vi ((rec_ z0 z1 z2).1), vi ((rec_ z0 z1 z2).2.1), vi ((rec_ z0 z1 z2).2.2)])) : FnR Tryz.prog 216 [v0, vi x1, v2] (.tup [vi ((ll rec_ x0 x1 x2).1), vi ((ll rec_ x0 x1 x2).2.1), vi ((ll rec_ x0 x1 x2).2.2)]) := by
 refine fnS (R := RF216) bv9 (fun _ h => h) rfl fun n z => ?_
 unfold ll at z
 refine sR (ae (ej rfl (TR.cnt au.t r2)) (mI rfl (mI rfl (mI rfl (nS (aq (sR (mV rfl ?_))))))))
 refine mV rfl (ae (cv rfl (cm r0 Tryz.underlying32 _)) (bN lv rfl rfl (nS ?_)))
 refine bm z rfl ?_ ?_ <;> clear z <;> intro a5 z <;> have a9 := a5 <;> try simp only [qa] at a9
 ·refine sR (mV rfl (mI rfl (mV rfl (mI rfl (nS ?_)))))
  subst z
  exact gm (.tmp rfl (.tmp rfl (.tmp rfl .nil))) (dm (show closed (.tup _) = true from (ak rfl (ak rfl (ak rfl bc))))) rfl
 ·refine ax (am (sR (mV rfl (mV rfl ?_))))
  obtain ⟨d3, c3, c6⟩ := cz (i := x1) r0 (by omega) (by omega)
  refine ae (bf rfl rfl c3) (fL rfl (ab.g_Op c6) rfl rfl ?_)
  obtain ⟨d5, a6, z⟩ := bq z
  have b7 := by8 (x0 := (ix x0 x1).Op)  
  rw [a6] at b7
  refine cL b7 rfl rfl (ak rfl bc) (mV rfl (nS (aq (sR (mV rfl (bN cn rfl rfl (nS ?_)))))))
  refine bm z rfl ?_ ?_ <;> clear z <;> intro a4 z <;> have a7 := a4 <;> try simp only [qa] at a7
  ·refine sR (mV rfl (mI rfl (mV rfl (mI rfl (nS ?_)))))
   subst z
   exact gm (.tmp rfl (.tmp rfl (.tmp rfl .nil))) (dm (show closed (.tup _) = true from (ak rfl (ak rfl (ak rfl bc))))) rfl
  ·refine ax (am (aq (sR (mV rfl (bN dc rfl rfl (nS ?_))))))
   refine bm z rfl ?_ ?_ <;> clear z <;> intro a3 z <;> have b1 := a3 <;> try simp only [qa] at b1
   ·refine sR (mV rfl (mV rfl ?_))
    obtain ⟨d9, c7, a8⟩ := cz (i := x1) r0 (by omega) (by omega)
    refine ae (bf rfl rfl c7) (lD a8 rfl rfl rfl (lD r2 rfl rfl rfl ?_))
    obtain ⟨e0, b5, z⟩ := bq z
    have b6 := bq3  a8 r2 
    rw [b5] at b6
    refine cL b6 rfl rfl (ak (TR.clo ab.t a8) (ak (TR.clo au.t r2) bc)) (mV rfl (xT rfl rfl (xT rfl rfl (mV rfl (mV rfl (nR (mV rfl (mV rfl ?_))))))))
    refine bN em rfl rfl (mV rfl (mV rfl (mV rfl (mV rfl (nS ?_)))))
    subst z
    exact gm (.tmp rfl (.tmp rfl (.tmp rfl .nil))) (dm (show closed (.tup _) = true from (ak rfl (ak rfl (ak rfl bc))))) rfl
   ·refine ax (am (sR (ae (v := nilS) (av rfl) (nR (mV rfl (bN em rfl rfl (mV rfl (nS ?_))))))))
    refine aq (sR (mI rfl (nS (bh ?_))))
    have c5 := nu (sz := 1) (es := []) (Mem.nil ⟨0, []⟩) 3 (.inl ⟨none, rfl, rfl⟩) (by simp)
    refine wC (uw r0 r2 h0 hb ihR hmu hrec a5 a6 a4 a3 ?_  aL rfl (.inl rfl) (by first | decide | simp) rfl (by omega) (by first | omega | simp | (rw [de (by omega) (by omega)]; omega)) (by first | omega | simp | (rw [de (by omega) (by omega)]; omega)) (by first | omega | simp | (rw [de (by omega) (by omega)]; omega)) (Mem.sub c5 (.cons_cons _ .slnil)) z) rfl
    ·intro c1 b2 b3 c0 a1 a2 b4 a0 c2 d4 c4 z
     refine fx (am (sR (mV rfl (mV rfl ?_))))
     obtain ⟨d6, c9, b0⟩ := cz (i := x1) r0 (by omega) (by omega)
     refine ae (bf rfl rfl c9) (lD b0 rfl rfl rfl (mV rfl ?_))
     obtain ⟨d8, c8, d0⟩ := ob (P := Tryz.prog) (k := 0) (t := tI) c4 rfl a2 a1 (Nat.le_trans a0 (by decide))
     obtain ⟨d7, b9, z⟩ := bq z
     have b8 := bu1  b0 d0 (by first | omega | (have hk := rar (by assumption); omega)) (by first | omega | (have hk := rar (by assumption); omega))
     rw [b9] at b8
     refine ag7 (br2 rfl rfl (pr (dm (TR.clo ab.t b0)) (pr c8 an9)) b8 rfl) (mV rfl (xT rfl rfl (xT rfl rfl (mV rfl (mV rfl (nR (mV rfl (mV rfl ?_))))))))
     refine mV rfl (mV rfl (mV rfl (mV rfl (nS ?_))))
     subst z
     exact gm (.tmp rfl (.tmp rfl (.tmp rfl .nil))) (dm (show closed (.tup _) = true from (ak rfl (ak rfl (ak rfl bc))))) rfl
theorem bi4 : ∀ (n_ : Nat) {x0 : List ab} {x1 : Int} {x2 : au} {v0 v2 : PV} (r0 : (tSl ab.t).R x0 v0) (r2 : au.t.R x2 v2) (h0 : 0 ≤ x1) (hb : x0.length ≤ 1000000), (x0.length - x1.toNat) < n_ → FnR Tryz.prog 216 [v0, vi x1, v2] (.tup [vi ((gg n_ x0 x1 x2).1), vi ((gg n_ x0 x1 x2).2.1), vi ((gg n_ x0 x1 x2).2.2)]) := by
 intro n_
 induction n_ with
 | zero => intros; rename_i hlt; exact absurd hlt (Nat.not_lt_zero _)
 | succ n_ ihn =>
  intro x0 x1 x2 v0 v2 r0 r2 h0 hb hlt
  have e_ : gg (n_ + 1) x0 x1 x2 = ll (gg n_) x0 x1 x2 := by rw [gg]
  rw [e_]
  exact bn0 r0 r2 h0 hb rfl (ah5 n_) (fun {z0} {z1} {z2} {zv0} {zv2} zr0 zr2 h0 hb hz => ihn zr0 zr2 h0 hb (by omega))
theorem bv1 {x0 : List ab} {x1 : Int} {x2 : au} {v0 v2 : PV} (r0 : (tSl ab.t).R x0 v0) (r2 : au.t.R x2 v2) (h0 : 0 ≤ x1) (hb : x0.length ≤ 1000000) : FnR Tryz.prog 216 [v0, vi x1, v2] (.tup [vi ((oz x0 x1 x2).1), vi ((oz x0 x1 x2).2.1), vi ((oz x0 x1 x2).2.2)]) := bi4 _ r0 r2 h0 hb (Nat.lt_succ_self _)

end Go.Proofs.YtmonnlkagniolaaGreat
