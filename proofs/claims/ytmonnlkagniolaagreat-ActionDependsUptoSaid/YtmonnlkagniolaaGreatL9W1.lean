/-
 The code of each function does what its plain program says.
-/
import Derived.Test.YtmonnlkagniolaaGreatL9W0
set_option linter.unusedVariables false
set_option linter.unusedSimpArgs false
set_option maxRecDepth 100000
namespace Go.Proofs.YtmonnlkagniolaaGreat
open Go Go.Pb Go.RowKit
def RF162 (res : Int) (r : PV) : Prop := r = vi res
theorem cl0 {x0 : cp} {v0 : PV} (r0 : cp.t.R x0 v0) : FnR Tryz.prog 162 [v0] (vi (li x0)) := by
 refine fnS (R := RF162) cm3 (fun _ h => h) rfl fun res s => ?_
 unfold li at s
 refine sR (ab (dq rfl (TR.cnt cp.t r0)) (mI rfl (nS (aq (sR (fL rfl (cp.g_Width r0) rfl rfl (bN cz rfl rfl (mV rfl ?_))))))))
 refine cn 4 (d := 10) (v := vb ((decide (x0.Width < 1)) || (decide (32 < x0.Width)))) ?_ ?_
 ·intro S Q r
  cases a1 : (decide (x0.Width < 1))
  ·intro k
   have a0 := a1
   try simp only [qa] at a0
   refine ah rfl rfl (cd rfl (cp.g_Width r0)) (ah rfl rfl (ca rfl rfl rfl) (ah rfl rfl (bz rfl rfl nu) ?_))
   exact gK rfl rfl rfl rfl rfl k
  ·exact gN 3 rfl rfl rfl rfl rfl rfl
 refine nS ?_
 refine ci s rfl ?_ ?_ <;> clear s <;> intro c s <;> try simp only [qa] at c
 ·refine sR (mI rfl (nS ?_))
  exact rR s rfl rfl rfl
 ·refine bb (am (sR (fL rfl (cp.g_Width r0) rfl rfl (mV rfl (nS ?_)))))
  exact rR s rfl rfl rfl

def RF123 (res : Int) (r : PV) : Prop := r = vi res
theorem rq {S : List Fr} {res : Int} {x0 : ae} {x1 : List (List (BitVec 32))} {v0 v1 : PV} (r0 : ae.t.R x0 v0) (r1 : (tSl (tSl dm)).R x1 v1) (a2 : (!decide ((x1.length : Int) = (x0.Registers.length : Int))) = false) {K0 : Unit → Int}
  (b4 : K0 () = res → PX Tryz.prog 0 S (QR Tryz.prog [(4, none)] (RF123 res)) [(1, v1), (2, .fp v0)] ⟨0, []⟩) :
  ∀ {m : Nat} {a0 : Int} (b0 : m = Int.toNat ((x1.length : Int) - a0)) (a5 : 0 ≤ a0), gy x0 x1 K0 m a0 = res → RC Tryz.prog (.loop bu7) S (QR Tryz.prog [(4, none)] (RF123 res)) [(5, vi a0), (2, .fp v0), (1, v1)] ⟨0, []⟩ := by
 have a1 := a2
 try simp only [qa] at a1
 intro m
 induction m with
 | zero =>
  intro a0 b0 a5 s
  rw [gy] at s
  refine ct (aq (sR (mV rfl (mV rfl (ab (cy rfl (cm r1 Tryz.underlying42 _)) (bN cz rfl rfl (nS ?_)))))))
  refine cj rfl ?_ ?_ <;> intro c <;> try simp only [qa] at c
  ·omega
  refine ft (gk (ej ?_))
  exact wP (b4  s) rfl
 | succ m ih =>
  intro a0 b0 a5 s
  rw [gy] at s
  refine ct (aq (sR (mV rfl (mV rfl (ab (cy rfl (cm r1 Tryz.underlying42 _)) (bN cz rfl rfl (nS ?_)))))))
  refine cj rfl ?_ ?_ <;> intro c <;> try simp only [qa] at c
  rotate_left
  ·omega
  refine bb (am (aq (br (sR (mV rfl (mV rfl ?_))))))
  obtain ⟨b2, a7, a4⟩ := dt (i := a0) r1 (by omega) (by omega)
  refine ab (bh rfl rfl a7) (lD a4 rfl rfl rfl (ab (cy rfl (cm a4 Tryz.underlying43 _)) ?_))
  obtain ⟨b3, a6, a3⟩ := ae.g_Registers r0
  refine fA rfl a6 (lD a3 rfl rfl rfl (mV rfl ?_))
  obtain ⟨b1, a8, a9⟩ := dt (i := a0) a3 (by omega) (by omega)
  refine ab (bh rfl rfl a8) (fL rfl (cp.g_Size a9) rfl rfl (bN mw rfl rfl (nS ?_)))
  refine ci s rfl ?_ ?_ <;> clear s <;> intro c s <;> try simp only [qa] at c
  ·refine sR (mI rfl (nS ?_))
   exact rR s rfl rfl rfl
  ·refine bb (de (am (ax (mV rfl (bN gm rfl rfl (mV rfl (bp (di ?_))))))))
   have hbd := ee r1
   have hinc : wr (a0 + 1) = a0 + 1 := gb (by omega) (by omega)
   erw [hinc]
   exact wC (ih   (by omega) (by omega) s) rfl

theorem rt {S : List Fr} {res : Int} {x0 : ae} {x1 : List (List (BitVec 32))} {a0 : Int} {v0 v1 : PV} (r0 : ae.t.R x0 v0) (r1 : (tSl (tSl dm)).R x1 v1) (a7 : (!decide ((x1.length : Int) = (x0.Registers.length : Int))) = false) (c7 : 0 ≤ a0) (b4 : (decide (a0 < (x1.length : Int))) = true) {K4 : Unit → Int}
  (c6 : K4 () = res → PX Tryz.prog 4 S (QR Tryz.prog [(4, none)] (RF123 res)) [(1, v1), (2, .fp v0), (6, vi a0)] ⟨0, []⟩) :
  ∀ {m : Nat} {a1 : Int} (c2 : m = Int.toNat (((ix x1 a0).length : Int) - a1)) (b5 : 0 ≤ a1), gx x0 x1 a0 K4 m a1 = res → RC Tryz.prog (.loop bv5) S (QR Tryz.prog [(4, none)] (RF123 res)) [(7, vi a1), (6, vi a0), (2, .fp v0), (1, v1)] ⟨0, []⟩ := by
 have a4 := a7
 try simp only [qa] at a4
 have a6 := b4
 try simp only [qa] at a6
 intro m
 induction m with
 | zero =>
  intro a1 c2 b5 s
  rw [gx] at s
  refine ct (aq (sR (mV rfl (mV rfl (mV rfl ?_)))))
  obtain ⟨c8, b9, a8⟩ := dt (i := a0) r1 (by omega) (by omega)
  refine ab (bh rfl rfl b9) (lD a8 rfl rfl rfl (ab (cy rfl (cm a8 Tryz.underlying43 _)) (bN cz rfl rfl (nS ?_))))
  refine cj rfl ?_ ?_ <;> intro c <;> try simp only [qa] at c
  ·omega
  refine ft (gk (ej ?_))
  exact wP (c6  s) rfl
 | succ m ih =>
  intro a1 c2 b5 s
  rw [gx] at s
  refine ct (aq (sR (mV rfl (mV rfl (mV rfl ?_)))))
  obtain ⟨c9, b6, a5⟩ := dt (i := a0) r1 (by omega) (by omega)
  refine ab (bh rfl rfl b6) (lD a5 rfl rfl rfl (ab (cy rfl (cm a5 Tryz.underlying43 _)) (bN cz rfl rfl (nS ?_))))
  refine cj rfl ?_ ?_ <;> intro c <;> try simp only [qa] at c
  rotate_left
  ·omega
  refine bb (am (aq (br (sR (mV rfl (mV rfl ?_))))))
  obtain ⟨c4, b8, b1⟩ := dt (i := a0) r1 (by omega) (by omega)
  refine ab (bh rfl rfl b8) (lD b1 rfl rfl rfl (mV rfl (ab (bh rfl rfl (uf b1 (by omega) (by omega))) (lR rfl rfl rfl (gL (ae.g_Registers r0) rfl rfl rfl fun c3 c0 => (mV rfl ?_))))))
  obtain ⟨c5, b7, a3⟩ := dt (i := a0) c0 (by omega) (by omega)
  refine ab (bh rfl rfl b7) (lD a3 rfl rfl rfl ?_)
  obtain ⟨b0, a2, s⟩ := bn s
  have b2 := cl0  a3 
  rw [a2] at b2
  have c1 : b0 ≤ 32 := bj5 a2
  refine cL b2 rfl rfl (ai (TR.clo cp.t a3) bg) ?_
  obtain ⟨d0, b3, s⟩ := bn s
  have a9 := ay3 (x0 := (ix (ix x1 a0) a1)) (x1 := b0)  (by assumption)
  rw [b3] at a9
  refine cL a9 rfl rfl (ai rfl (ai rfl bg)) (ab (ks rfl) (nS ?_))
  refine ci s rfl ?_ ?_ <;> clear s <;> intro c s <;> try simp only [qa] at c
  ·refine sR (mI rfl (nS ?_))
   exact rR s rfl rfl rfl
  ·refine bb (de (am (ax (mV rfl (bN gm rfl rfl (mV rfl (bp (di ?_))))))))
   have hbd := ee a5
   have hinc : wr (a1 + 1) = a1 + 1 := gb (by omega) (by omega)
   erw [hinc]
   exact wC (ih   (by omega) (by omega) s) rfl

theorem rp {S : List Fr} {res : Int} {x0 : ae} {x1 : List (List (BitVec 32))} {v0 v1 : PV} (r0 : ae.t.R x0 v0) (r1 : (tSl (tSl dm)).R x1 v1) (a1 : (!decide ((x1.length : Int) = (x0.Registers.length : Int))) = false) {K2 : Unit → Int}
  (a7 : K2 () = res → PX Tryz.prog 2 S (QR Tryz.prog [(4, none)] (RF123 res)) [] ⟨0, []⟩) :
  ∀ {m : Nat} {a2 : Int} (a6 : m = Int.toNat ((x1.length : Int) - a2)) (a4 : 0 ≤ a2), gu x0 x1 K2 m a2 = res → RC Tryz.prog (.loop bs0) S (QR Tryz.prog [(4, none)] (RF123 res)) [(6, vi a2), (2, .fp v0), (1, v1)] ⟨0, []⟩ := by
 have a3 := a1
 try simp only [qa] at a3
 intro m
 induction m with
 | zero =>
  intro a2 a6 a4 s
  rw [gu] at s
  refine ct (aq (sR (mV rfl (mV rfl (ab (cy rfl (cm r1 Tryz.underlying42 _)) (bN cz rfl rfl (nS ?_)))))))
  refine cj rfl ?_ ?_ <;> intro c <;> try simp only [qa] at c
  ·omega
  refine ft (gk (ej ?_))
  exact wP (a7  s) rfl
 | succ m ih =>
  intro a2 a6 a4 s
  rw [gu] at s
  refine ct (aq (sR (mV rfl (mV rfl (ab (cy rfl (cm r1 Tryz.underlying42 _)) (bN cz rfl rfl (nS ?_)))))))
  refine cj rfl (fun a0 => ?_) (fun a0 => ?_)
  ·have hgo := s
   have a5 := a0
   try simp only [qa] at a5
   refine bb (am (aq (br (sR (mI rfl (nS (br ?_)))))))
   refine wC (rt r0 r1 a1 a4 a0 ?_  rfl (by omega) s) rfl
   ·intro  s
    refine gw (de (am (ax (mV rfl (bN gm rfl rfl (mV rfl (bp (di ?_))))))))
    have hbd := ee r1
    have hinc : wr (a2 + 1) = a2 + 1 := gb (by omega) (by omega)
    erw [hinc]
    exact wC (ih   (by omega) (by omega) s) rfl
  ·exfalso
   try simp only [qa] at a0
   omega

theorem cg4 {x0 : ae} {x1 : List (List (BitVec 32))} {v0 v1 : PV} (r0 : ae.t.R x0 v0) (r1 : (tSl (tSl dm)).R x1 v1) : FnR Tryz.prog 123 [v0, v1] (vi (ko x0 x1)) := by
 refine fnS (R := RF123) ck1 (fun _ h => h) rfl fun res s => ?_
 unfold ko at s
 refine sR (ab (dq rfl (TR.cnt ae.t r0)) (mI rfl (nS (aq (sR (mV rfl (ab (cy rfl (cm r1 Tryz.underlying42 _)) ?_)))))))
 obtain ⟨a4, a3, a2⟩ := ae.g_Registers r0
 refine fA rfl a3 (lD a2 rfl rfl rfl (ab (cy rfl (cm a2 Tryz.underlying24 _)) (bN mw rfl rfl (nS ?_))))
 refine ci s rfl ?_ ?_ <;> clear s <;> intro a0 s <;> have a1 := a0 <;> try simp only [qa] at a1
 ·refine sR (mI rfl (nS ?_))
  exact rR s rfl rfl rfl
 ·refine bb (am (aq (sR (mI rfl (nS (br ?_))))))
  refine wC (rq r0 r1 a0 ?_  rfl (by omega) s) rfl
  ·intro  s
   refine gw (am (aq (sR (mI rfl (nS (br ?_))))))
   refine wC (rp r0 r1 a0 ?_  rfl (by omega) s) rfl
   ·intro  s
    refine gw (am (sR (mI rfl (nS ?_))))
    exact rR s rfl rfl rfl

def RF47 (res : Bool) (r : PV) : Prop := r = vb res
theorem ce3 {x0 : az} {v0 : PV} (r0 : az.t.R x0 v0) : FnR Tryz.prog 47 [v0] (vb (mf x0)) := by
 refine fnS (R := RF47) dc2 (fun _ h => h) rfl fun res s => ?_
 unfold mf at s
 refine sR (ab (dq rfl (TR.cnt az.t r0)) (mB rfl (nR (gL (az.g_P r0) rfl rfl rfl fun b2 a6 => (gL (az.g_E r0) rfl rfl rfl fun b4 a4 => ?_)))))
 obtain ⟨a7, a5, s⟩ := bn s
 have a3 := dg6  a6 a4 
 rw [a5] at a3
 refine cL a3 rfl rfl (ai (TR.clo ae.t a6) (ai (TR.clo av.t a4) bg)) (bN fe rfl rfl (mV rfl ?_))
 refine cn 7 (d := 16) (v := vb ((decide (a7 = 0)) && (decide ((ko x0.P x0.Regs) = 0)))) ?_ ?_
 ·intro S Q r
  cases a8 : (decide (a7 = 0))
  ·exact gN 6 rfl rfl rfl rfl rfl rfl
  ·intro k
   have a2 := a8
   try simp only [qa] at a2
   obtain ⟨b3, b1, a1⟩ := az.g_P r0
   refine ah rfl rfl (cd rfl b1) (ah rfl rfl (ca rfl (TR.cnt ae.t a1) (TR.agg ae.t a1)) ?_)
   obtain ⟨b5, b0, a0⟩ := az.g_Regs r0
   refine ah rfl rfl (cd rfl b0) (ah rfl rfl (ca rfl (TR.cnt (tSl (tSl dm)) a0) (TR.agg (tSl (tSl dm)) a0)) ?_)
   have a9 := cg4  a1 a0 
   refine mb rfl rfl (si rfl rfl (ai (TR.clo ae.t a1) (ai (TR.clo (tSl (tSl dm)) a0) bg)) a9) (ah rfl rfl (bz rfl rfl fe) ?_)
   exact gK rfl rfl rfl rfl rfl k
 refine mV rfl (nS ?_)
 exact rR s rfl rfl rfl

theorem ba5 : FnR Tryz.prog 34 [] (vb qs) := du8

def RF221 (res : Bool) (r : PV) : Prop := r = vb res
theorem bh1 {x0 : UInt8} : FnR Tryz.prog 221 [vu8 x0] (vb (ow x0)) := by
 refine fnS (R := RF221) bg8 (fun _ h => h) rfl fun res s => ?_
 unfold ow at s
 refine sR (mB rfl (nR (mV rfl (ab (bz (a := vu8 x0) (b := vu8 (97 : UInt8)) rfl rfl cc9) (mV rfl ?_)))))
 refine cn 3 (d := 8) (v := vb ((decide ((97 : UInt8) ≤ x0)) && (decide (x0 ≤ (122 : UInt8))))) ?_ ?_
 ·intro S Q r
  cases a5 : (decide ((97 : UInt8) ≤ x0))
  ·exact gN 2 rfl rfl rfl rfl rfl rfl
  ·intro k
   have a2 := a5
   try simp only [qa] at a2
   refine ah rfl rfl (au rfl) (ah rfl rfl (bz (a := vu8 x0) (b := vu8 (122 : UInt8)) rfl rfl by3) ?_)
   exact gK rfl rfl rfl rfl rfl k
 refine mV rfl ?_
 refine cn 7 (d := 16) (v := vb (((decide ((97 : UInt8) ≤ x0)) && (decide (x0 ≤ (122 : UInt8)))) || ((decide ((65 : UInt8) ≤ x0)) && (decide (x0 ≤ (90 : UInt8)))))) ?_ ?_
 ·intro S Q r
  cases a3 : ((decide ((97 : UInt8) ≤ x0)) && (decide (x0 ≤ (122 : UInt8))))
  ·intro k
   have a0 := a3
   try simp only [qa] at a0
   refine ah rfl rfl (au rfl) (ah rfl rfl (bz (a := vu8 x0) (b := vu8 (65 : UInt8)) rfl rfl cc9) (ah rfl rfl (au rfl) ?_))
   refine cn 3 (d := 15) (v := vb ((decide ((65 : UInt8) ≤ x0)) && (decide (x0 ≤ (90 : UInt8))))) ?_ ?_
   ·intro S Q r
    cases a4 : (decide ((65 : UInt8) ≤ x0))
    ·intro k
     refine qc rfl rfl (qc rfl rfl (ah (v := vb false) rfl rfl (qx rfl rfl rfl rfl) ?_))
     exact wD k rfl
    ·intro k
     have a1 := a4
     try simp only [qa] at a1
     refine ah rfl rfl (au rfl) (ah rfl rfl (bz (a := vu8 x0) (b := vu8 (90 : UInt8)) rfl rfl by3) (ah (v := vb (decide (x0 ≤ (90 : UInt8)))) rfl rfl (qx rfl rfl rfl rfl) ?_))
     exact wD k rfl
   exact gK rfl rfl rfl rfl rfl k
  ·exact gN 6 rfl rfl rfl rfl rfl rfl
 refine mV rfl (nS ?_)
 exact rR s rfl rfl rfl

def RF222 (res : Int) (r : PV) : Prop := r = vi res
theorem xe {S : List Fr} {res : Int} {x0 : List UInt8} {x1 : UInt8 → Bool} {v1 : PV} (r1 : (tFn Tryz.prog tU8 tB).R x1 v1) (hs : x0.length ≤ 1000) {K0 : Int → Int}
  (b1 : ∀ {a0 : Int}, K0 a0 = res → PX Tryz.prog 0 S (QR Tryz.prog [(4, none)] (RF222 res)) [(5, vi a0)] ⟨0, []⟩) :
  ∀ {m : Nat} {a0 : Int} (b0 : m = Int.toNat ((x0.length : Int) - a0)) (a6 : 0 ≤ a0), oe x0 x1 K0 m a0 = res → RC Tryz.prog (.loop ca9) S (QR Tryz.prog [(4, none)] (RF222 res)) [(5, vi a0), (1, v1), (0, vs x0)] ⟨0, []⟩ := by
 intro m
 induction m with
 | zero =>
  intro a0 b0 a6 s
  rw [oe] at s
  refine ct (aq (sR (mV rfl (mV rfl (ab (cy rfl (zf Tryz.underlying9)) (bN cz rfl rfl (mV rfl ?_)))))))
  refine cn 6 (d := 16) (v := vb ((decide (a0 < (x0.length : Int))) && (x1 (ix x0 a0)))) ?_ ?_
  ·intro S Q r
   cases a5 : (decide (a0 < (x0.length : Int)))
   ·exact gN 5 rfl rfl rfl rfl rfl rfl
   ·intro k
    have a3 := a5
    try simp only [qa] at a3
    refine ah rfl rfl (au rfl) (ah rfl rfl (au rfl) (ah rfl rfl (au rfl) (ah rfl rfl (ab0 rfl rfl (aq9 Tryz.underlying9 (by omega) (by omega))) ?_)))
    refine ak9 rfl rfl rfl r1 rfl (show tU8.R (ix x0 a0) (vu8 (ix x0 a0)) from rfl) (fun a9 a4 => ?_)
    have a4 : a9 = vb (x1 (ix x0 a0)) := a4; subst a4
    exact gK rfl rfl rfl rfl rfl k
  refine nS ?_
  refine cj rfl ?_ ?_ <;> intro c <;> try simp only [qa] at c
  ·omega
  refine ft (gk (ej ?_))
  exact wP (b1  s) rfl
 | succ m ih =>
  intro a0 b0 a6 s
  rw [oe] at s
  refine ct (aq (sR (mV rfl (mV rfl (ab (cy rfl (zf Tryz.underlying9)) (bN cz rfl rfl (mV rfl ?_)))))))
  refine cn 6 (d := 16) (v := vb ((decide (a0 < (x0.length : Int))) && (x1 (ix x0 a0)))) ?_ ?_
  ·intro S Q r
   cases a7 : (decide (a0 < (x0.length : Int)))
   ·exact gN 5 rfl rfl rfl rfl rfl rfl
   ·intro k
    have a1 := a7
    try simp only [qa] at a1
    refine ah rfl rfl (au rfl) (ah rfl rfl (au rfl) (ah rfl rfl (au rfl) (ah rfl rfl (ab0 rfl rfl (aq9 Tryz.underlying9 (by omega) (by omega))) ?_)))
    refine ak9 rfl rfl rfl r1 rfl (show tU8.R (ix x0 a0) (vu8 (ix x0 a0)) from rfl) (fun a8 a2 => ?_)
    have a2 : a8 = vb (x1 (ix x0 a0)) := a2; subst a2
    exact gK rfl rfl rfl rfl rfl k
  refine nS ?_
  refine ci s rfl ?_ ?_ <;> clear s <;> intro c s <;> try simp only [qa] at c
  ·refine bb (am (br (ax (mV rfl (bN gm rfl rfl (mV rfl (bp (de ?_))))))))
   refine di ?_
   have hinc : wr (a0 + 1) = a0 + 1 := gb (by omega) (by omega)
   erw [hinc]
   exact wC (ih   (by omega) (by omega) s) rfl
  ·refine ft (gk (ej ?_))
   exact wP (b1  s) rfl

theorem cl8 {x0 : List UInt8} {x1 : UInt8 → Bool} {v1 : PV} (r1 : (tFn Tryz.prog tU8 tB).R x1 v1) (hs : x0.length ≤ 1000) : FnR Tryz.prog 222 [vs x0, v1] (vi (tn x0 x1)) := by
 refine fnS (R := RF222) bc9 (fun _ h => h) rfl fun res s => ?_
 unfold tn at s
 refine sR (mI rfl (nR (mI rfl (nS (aq (br ?_))))))
 refine wC (xe r1 hs ?_  rfl (by omega) s) rfl
 ·intro a0 s
  refine gw (am (sR (mV rfl (mV rfl (nS ?_)))))
  exact rR s rfl rfl rfl

def RF224 (res : Bool) (r : PV) : Prop := r = vb res
theorem cg7 {x0 : UInt8} : FnR Tryz.prog 224 [vu8 x0] (vb (oi x0)) := by
 refine fnS (R := RF224) bi3 (fun _ h => h) rfl fun res s => ?_
 unfold oi at s
 refine sR (mB rfl (nR (mV rfl (ab (bz (a := vu8 x0) (b := vu8 (48 : UInt8)) rfl rfl cc9) (mV rfl ?_)))))
 refine cn 3 (d := 8) (v := vb ((decide ((48 : UInt8) ≤ x0)) && (decide (x0 ≤ (57 : UInt8))))) ?_ ?_
 ·intro S Q r
  cases a1 : (decide ((48 : UInt8) ≤ x0))
  ·exact gN 2 rfl rfl rfl rfl rfl rfl
  ·intro k
   have a0 := a1
   try simp only [qa] at a0
   refine ah rfl rfl (au rfl) (ah rfl rfl (bz (a := vu8 x0) (b := vu8 (57 : UInt8)) rfl rfl by3) ?_)
   exact gK rfl rfl rfl rfl rfl k
 refine mV rfl (nS ?_)
 exact rR s rfl rfl rfl

def RF223 (res : Bool) (r : PV) : Prop := r = vb res
theorem co3 {x0 : UInt8} : FnR Tryz.prog 223 [vu8 x0] (vb (nh x0)) := by
 refine fnS (R := RF223) bk0 (fun _ h => h) rfl fun res s => ?_
 unfold nh at s
 refine sR (mB rfl (nR (mV rfl ?_)))
 obtain ⟨a0, a5, s⟩ := bn s
 have a4 := bh1 (x0 := x0)  
 rw [a5] at a4
 refine cL a4 rfl rfl (ai rfl bg) (mV rfl ?_)
 refine cn 3 (d := 8) (v := vb (a0 || (oi x0))) ?_ ?_
 ·intro S Q r
  cases a3 : a0
  ·intro k
   have a1 := a3
   try simp only [qa] at a1
   refine ah rfl rfl (au rfl) ?_
   have a7 := cg7 (x0 := x0)  
   refine mb rfl rfl (si rfl rfl (ai rfl bg) a7) ?_
   exact gK rfl rfl rfl rfl rfl k
  ·exact gN 2 rfl rfl rfl rfl rfl rfl
 refine mV rfl ?_
 refine cn 3 (d := 12) (v := vb ((a0 || (oi x0)) || (decide (x0 = (95 : UInt8))))) ?_ ?_
 ·intro S Q r
  cases a6 : (a0 || (oi x0))
  ·intro k
   have a2 := a6
   try simp only [qa] at a2
   refine ah rfl rfl (au rfl) (ah rfl rfl (bz (a := vu8 x0) (b := vu8 (95 : UInt8)) rfl rfl dw9) ?_)
   exact gK rfl rfl rfl rfl rfl k
  ·exact gN 2 rfl rfl rfl rfl rfl rfl
 refine mV rfl (nS ?_)
 exact rR s rfl rfl rfl

theorem df6 : (tFn Tryz.prog tU8 tB).R nh (.fn (.func 223) [] []) := di3 fun a va ra => by obtain rfl := ra; exact ⟨_, co3, rfl⟩

def RF169 (res : Bool) (r : PV) : Prop := r = vb res
theorem bd4 {x0 : List UInt8} : FnR Tryz.prog 169 [vs x0] (vb (ml x0)) := by
 refine fnS (R := RF169) bf7 (fun _ h => h) rfl fun res s => ?_
 unfold ml at s
 refine sR (mB rfl (nS (aq (sR (mV rfl (ab (cy rfl (zf Tryz.underlying9)) (bN fe rfl rfl (mV rfl ?_))))))))
 refine cn 4 (d := 10) (v := vb ((decide ((x0.length : Int) = 0)) || (decide (16 < (x0.length : Int))))) ?_ ?_
 ·intro S Q r
  cases a4 : (decide ((x0.length : Int) = 0))
  ·intro k
   have a1 := a4
   try simp only [qa] at a1
   refine ah rfl rfl (au rfl) (ah rfl rfl (cy rfl (zf Tryz.underlying9)) (ah rfl rfl (bz rfl rfl nu) ?_))
   exact gK rfl rfl rfl rfl rfl k
  ·exact gN 3 rfl rfl rfl rfl rfl rfl
 refine mV rfl ?_
 refine cn 5 (d := 16) (v := vb (((decide ((x0.length : Int) = 0)) || (decide (16 < (x0.length : Int)))) || (!(ow (ix x0 0))))) ?_ ?_
 ·intro S Q r
  cases a2 : ((decide ((x0.length : Int) = 0)) || (decide (16 < (x0.length : Int))))
  ·intro k
   have a0 := a2
   try simp only [qa] at a0
   refine ah rfl rfl (au rfl) (ah rfl rfl (ab0 rfl rfl (aq9 (i := 0) Tryz.underlying9 (by omega) (by omega))) ?_)
   have a6 := bh1 (x0 := (ix x0 0))  
   refine mb rfl rfl (si rfl rfl (ai rfl bg) a6) (ah rfl rfl (ks rfl) ?_)
   exact gK rfl rfl rfl rfl rfl k
  ·exact gN 4 rfl rfl rfl rfl rfl rfl
 refine nS ?_
 refine ci s rfl ?_ ?_ <;> clear s <;> intro c s <;> try simp only [qa] at c
 ·refine sR (mB rfl (nS ?_))
  exact rR s rfl rfl rfl
 ·refine bb (am (sR (mV rfl ?_)))
  obtain ⟨a7, a3, s⟩ := bn s
  have a5 := cl8 (x0 := x0) df6 (by omega)
  rw [a3] at a5
  refine cL a5 rfl rfl (ai rfl (ai rfl bg)) (mV rfl (ab (cy rfl (zf Tryz.underlying9)) (bN fe rfl rfl (mV rfl (nS ?_)))))
  exact rR s rfl rfl rfl

def RF171 (res : Bool) (r : PV) : Prop := r = vb res
theorem cg2 {x0 : ay} {c0 : ay} {v0 w0 : PV} (r0 : ay.t.R x0 v0) (a0 : ay.t.R c0 w0) : FnR Tryz.prog 171 [v0, .fp w0] (vb (ni x0 c0)) := by
 refine fnS (R := RF171) bj1 (fun _ h => h) rfl fun res s => ?_
 unfold ni at s
 refine sR (ab (dq rfl (TR.cnt ay.t r0)) (mB rfl (nR (fL rfl (ay.g_Name r0) rfl rfl (fL rfl (ay.g_Name a0) rfl rfl (ab (bz (a := vs x0.Name) (b := vs c0.Name) rfl rfl cm0) (mV rfl (nS ?_))))))))
 exact rR s rfl rfl rfl

def RF225 (res : Int) (r : PV) : Prop := r = vi res
theorem nq {S : List Fr} {res : Int} {x0 : List ay} {x1 : ay → Bool} {v0 v1 : PV} (r0 : (tSl ay.t).R x0 v0) (r1 : (tFn Tryz.prog ay.t tB).R x1 v1) {K0 : Unit → Int}
  (a8 : K0 () = res → PX Tryz.prog 0 S (QR Tryz.prog [(4, none)] (RF225 res)) [] ⟨0, []⟩) :
  ∀ {m : Nat} {a0 : Int} (a7 : m = Int.toNat ((x0.length : Int) - a0)) (a3 : 0 ≤ a0), fq x0 x1 K0 m a0 = res → RC Tryz.prog (.loop cb0) S (QR Tryz.prog [(4, none)] (RF225 res)) [(8, vi a0), (7, vi (x0.length : Int)), (1, v1), (0, v0)] ⟨0, []⟩ := by
 intro m
 induction m with
 | zero =>
  intro a0 a7 a3 s
  rw [fq] at s
  refine ct (sR (bN cz rfl rfl (nS (aq ?_))))
  refine cj rfl ?_ ?_ <;> intro c <;> try simp only [qa] at c
  ·omega
  refine ft (gk (ej ?_))
  exact wP (a8  s) rfl
 | succ m ih =>
  intro a0 a7 a3 s
  rw [fq] at s
  refine ct (sR (bN cz rfl rfl (nS (aq ?_))))
  refine cj rfl ?_ ?_ <;> intro c <;> try simp only [qa] at c
  rotate_left
  ·omega
  refine bb (am (aq (br (sR (mV rfl (mV rfl (nR (mV rfl ?_))))))))
  refine mV rfl (mV rfl ?_)
  obtain ⟨a5, a6, a2⟩ := dt (i := a0) r0 (by omega) (by omega)
  refine ab (bh rfl rfl a6) (lD a2 rfl rfl rfl ?_)
  refine bv2 rfl r1 rfl (show ay.t.R (ix x0 a0) a5 from a2) (fun a4 a1 => ?_)
  have a1 : a4 = vb (x1 (ix x0 a0)) := a1; subst a1
  refine nS ?_
  refine ci s rfl ?_ ?_ <;> clear s <;> intro c s <;> try simp only [qa] at c
  ·refine sR (mV rfl (mV rfl (nS ?_)))
   exact rR s rfl rfl rfl
  ·refine bb (de (am (ax (bN gm rfl rfl (mV rfl (bp (di ?_)))))))
   have hbd := ee r0
   have hinc : wr (a0 + 1) = a0 + 1 := gb (by omega) (by omega)
   erw [hinc]
   exact wC (ih   (by omega) (by omega) s) rfl

theorem cl3 {x0 : List ay} {x1 : ay → Bool} {v0 v1 : PV} (r0 : (tSl ay.t).R x0 v0) (r1 : (tFn Tryz.prog ay.t tB).R x1 v1) : FnR Tryz.prog 225 [v0, v1] (vi (jl x0 x1)) := by
 refine fnS (R := RF225) bn9 (fun _ h => h) rfl fun res s => ?_
 unfold jl at s
 refine sR (mI rfl (nS (aq (sR (mV rfl (ab (cy rfl (cm r0 Tryz.underlying23 _)) (mI rfl (nS ?_))))))))
 refine br ?_
 refine wC (nq r0 r1 ?_  rfl (by omega) s) rfl
 ·intro  s
  refine gw (am (sR (mI rfl (nS ?_))))
  exact rR s rfl rfl rfl

def RF170 (res : Bool) (r : PV) : Prop := r = vb res
theorem cl6 {x0 : List ay} {x1 : ay → Bool} {v0 v1 : PV} (r0 : (tSl ay.t).R x0 v0) (r1 : (tFn Tryz.prog ay.t tB).R x1 v1) : FnR Tryz.prog 170 [v0, v1] (vb (ja x0 x1)) := by
 refine fnS (R := RF170) bh2 (fun _ h => h) rfl fun res s => ?_
 unfold ja at s
 refine sR (mB rfl (nR (mV rfl (mV rfl ?_))))
 obtain ⟨a2, a1, s⟩ := bn s
 have a0 := cl3  r0 r1 
 rw [a1] at a0
 refine cL a0 rfl rfl (ai (TR.clo (tSl ay.t) r0) (ai (TR.clo (tFn Tryz.prog ay.t tB) r1) bg)) (bN mc rfl rfl (mV rfl (nS ?_)))
 exact rR s rfl rfl rfl

def RF103 (res : Int) (r : PV) : Prop := r = vi res
theorem sy {S : List Fr} {res : Int} {x0 : cb} {c0 : Bool} {v0 a4 : PV} (r0 : cb.t.R x0 v0) (d3 : ml x0.Name = c0) (b1 : (!c0) = false) (c3 : ((decide (4 < (x0.Params.length : Int))) || (decide (12 < (x0.Body.length : Int)))) = false) (c4 : (tSl ay.t).R x0.Params a4) {K1 : Unit → Int}
  (d6 : ∀ {h : Heap} (M0 : Mem h []), K1 () = res → PX Tryz.prog 1 S (QR Tryz.prog [(2, none)] (RF103 res)) [] h) :
  ∀ {m : Nat} {a0 : Int} (d5 : m = Int.toNat ((x0.Params.length : Int) - a0)) (b5 : 0 ≤ a0) {h : Heap} (M0 : Mem h []), ku x0 K1 m a0 = res → RC Tryz.prog (.loop bt1) S (QR Tryz.prog [(2, none)] (RF103 res)) [(24, vi a0), (23, vi (x0.Params.length : Int)), (22, a4), (1, .fp v0)] h := by
 have a7 := b1
 try simp only [qa] at a7
 have b0 := c3
 try simp only [qa] at b0
 intro m
 induction m with
 | zero =>
  intro a0 d5 b5 h M0 s
  rw [ku] at s
  refine ct (sR (bN cz rfl rfl (nS (aq ?_))))
  refine cj rfl ?_ ?_ <;> intro c <;> try simp only [qa] at c
  ·omega
  refine ft (gk (ej ?_))
  exact wP (d6 (Mem.sub M0 .slnil) s) rfl
 | succ m ih =>
  intro a0 d5 b5 h M0 s
  rw [ku] at s
  refine ct (sR (bN cz rfl rfl (nS (aq ?_))))
  refine cj rfl ?_ ?_ <;> intro c <;> try simp only [qa] at c
  rotate_left
  ·omega
  refine bb (am (aq (br (sR (mV rfl ?_)))))
  obtain ⟨a1, c6, a3⟩ := dt (i := a0) c4 (by omega) (by omega)
  refine ab (bh rfl rfl c6) (lD a3 rfl rfl rfl ?_)
  refine dz (x := .agg [vs [], vi 0]) M0 rfl rfl (fun d0 c7 d7 c5 => ?_)
  refine mV rfl ?_
  refine cw (k := 0) (v := a1) c5 rfl rfl rfl (TR.cnt ay.t a3) (fun d1 a5 => ?_)
  replace a5 : Mem d1 [⟨.op d0 c7 0, 166, 2, [a1]⟩] := a5
  refine nS (br (aq (dv (bw (ab (bf rfl) (bv (bw (ab (cg (k := 0) a5 rfl rfl (ay.g_Name a3)) ?_))))))))
  refine bv (bw ?_)
  obtain ⟨a2, b7, s⟩ := bn s
  have b4 := bd4 (x0 := (ix x0.Params a0).Name)  
  rw [b7] at b4
  refine cL b4 rfl rfl (ai rfl bg) (bv (bw (ab (ks rfl) (bv (bw (mV rfl (bv ?_)))))))
  refine xa (k := 0) (E' := [(29, vb (!a2)), (33, vb (!a2)), (32, vb a2), (31, vs ((ix x0.Params a0).Name)), (3, vi a0), (4, .fp a1), (28, a1), (27, .fp a1), (26, vi a0), (25, vb (decide (a0 < (x0.Params.length : Int)))), (24, vi a0), (23, vi (x0.Params.length : Int)), (22, a4), (1, .fp v0)]) a5 rfl (db rfl (db rfl (db rfl (db rfl (db rfl (te rfl (db rfl (db rfl (db rfl (db rfl (db rfl (db rfl (db rfl (db rfl xw)))))))))))))) (fun b8 a8 => ?_)
  replace a8 : Mem b8 [] := a8
  refine je (am ?_)
  refine ci s rfl ?_ ?_ <;> clear s <;> intro c s <;> try simp only [qa] at c
  ·refine sR (mI rfl (nS ?_))
   exact rR s rfl rfl rfl
  ·refine sR (fL rfl (ay.g_Width a3) rfl rfl (bN cz rfl rfl (mV rfl ?_)))
   refine cn 4 (d := 42) (v := vb ((decide (((ix x0.Params a0).Width) < 1)) || (decide (32 < ((ix x0.Params a0).Width))))) ?_ ?_
   ·intro S Q r
    cases c2 : (decide (((ix x0.Params a0).Width) < 1))
    ·intro k
     have a9 := c2
     try simp only [qa] at a9
     refine ah rfl rfl (cd rfl (ay.g_Width a3)) (ah rfl rfl (ca rfl rfl rfl) (ah rfl rfl (bz rfl rfl nu) ?_))
     exact gK rfl rfl rfl rfl rfl k
    ·exact gN 3 rfl rfl rfl rfl rfl rfl
   refine mV rfl (nS ?_)
   refine ci s rfl ?_ ?_ <;> clear s <;> intro c s <;> try simp only [qa] at c
   ·refine sR (mI rfl (nS ?_))
    exact rR s rfl rfl rfl
   ·refine sR ?_
    obtain ⟨a6, c8, b2⟩ := cb.g_Params r0
    refine fA rfl c8 (lD b2 rfl rfl rfl (mV rfl (ao3 (E0 := [(46, vi a0), (45, a6), (44, .fp a6), (34, vb ((decide (((ix x0.Params a0).Width) < 1)) || (decide (32 < ((ix x0.Params a0).Width))))), (42, vb ((decide (((ix x0.Params a0).Width) < 1)) || (decide (32 < ((ix x0.Params a0).Width))))), (38, vb (decide (((ix x0.Params a0).Width) < 1))), (37, vb (decide (((ix x0.Params a0).Width) < 1))), (36, vi ((ix x0.Params a0).Width)), (35, .fp (vi ((ix x0.Params a0).Width))), (29, vb (!a2)), (33, vb (!a2)), (32, vb a2), (31, vs ((ix x0.Params a0).Name)), (3, vi a0), (4, .fp a1), (28, a1), (27, .fp a1), (26, vi a0), (25, vb (decide (a0 < (x0.Params.length : Int)))), (24, vi a0), (23, vi (x0.Params.length : Int)), (22, a4), (1, .fp v0)]) (sB rfl) ?_)))
    obtain ⟨d2, c9, b3⟩ := dd2 (P := Tryz.prog) (hf := false) (E := [(46, vi a0), (45, a6), (44, .fp a6), (34, vb ((decide (((ix x0.Params a0).Width) < 1)) || (decide (32 < ((ix x0.Params a0).Width))))), (42, vb ((decide (((ix x0.Params a0).Width) < 1)) || (decide (32 < ((ix x0.Params a0).Width))))), (38, vb (decide (((ix x0.Params a0).Width) < 1))), (37, vb (decide (((ix x0.Params a0).Width) < 1))), (36, vi ((ix x0.Params a0).Width)), (35, .fp (vi ((ix x0.Params a0).Width))), (29, vb (!a2)), (33, vb (!a2)), (32, vb a2), (31, vs ((ix x0.Params a0).Name)), (3, vi a0), (4, .fp a1), (28, a1), (27, .fp a1), (26, vi a0), (25, vb (decide (a0 < (x0.Params.length : Int)))), (24, vi a0), (23, vi (x0.Params.length : Int)), (22, a4), (1, .fp v0)]) (h := b8) (t := ay.t) (tt := 23) (x := (.tmp 45)) (lo := none) (hi := (some (.tmp 46))) (a := 0) (b := a0) b2 rfl rfl rfl (show 0 ≤ 0 by omega) (show 0 ≤ a0 by omega) (show a0 ≤ (x0.Params.length : Int) by omega) (fun ad => by kernel_rfl)
    have d4 := cp5 (l := x0.Params) (show 0 ≤ 0 by omega) (show 0 ≤ a0 by omega) (show a0 ≤ (x0.Params.length : Int) by omega)
    refine ab (v := d2) (c9) ?_
    have c1 : (tFn Tryz.prog ay.t tB).R (fun a_ => ni a_ (ix x0.Params a0)) (.fn (.func 171) [] [.fp a1]) := ck9 (ai (dh8 (TR.clo ay.t a3)) bg) fun a va ra => by exact ⟨_, cg2  ra a3 , rfl⟩
    refine ab (v := .fn (.func 171) [] [.fp a1]) (bp1 rfl rfl) ?_
    obtain ⟨d8, b9, s⟩ := bn s
    have b6 := cl6  b3 c1 
    rw [b9] at b6
    refine cL b6 rfl rfl (ai (TR.clo (tSl ay.t) b3) (ai (TR.clo (tFn Tryz.prog ay.t tB) c1) bg)) (mV rfl (nS ?_))
    refine ci s rfl ?_ ?_ <;> clear s <;> intro c s <;> try simp only [qa] at c
    ·refine sR (mI rfl (nS ?_))
     exact rR s rfl rfl rfl
    ·refine bb (de (de (am (ax (bN gm rfl rfl (mV rfl (bp (di ?_))))))))
     have hbd := ee c4
     have hinc : wr (a0 + 1) = a0 + 1 := gb (by omega) (by omega)
     erw [hinc]
     exact wC (ih   (by omega) (by omega) (Mem.sub a8 .slnil) s) rfl

theorem co1 {x0 : cb} {v0 : PV} (r0 : cb.t.R x0 v0) : FnR Tryz.prog 103 [v0] (vi (jy x0)) := by
 refine fnS (R := RF103) bl1 (fun _ h => h) rfl fun res s => ?_
 unfold jy at s
 refine sR (ab (dq rfl (TR.cnt cb.t r0)) (mI rfl (nS (aq (br (sR (fL rfl (cb.g_Name r0) rfl rfl ?_)))))))
 obtain ⟨b6, a1, s⟩ := bn s
 have a7 := bd4 (x0 := x0.Name)  
 rw [a1] at a7
 refine cL a7 rfl rfl (ai rfl bg) (ab (ks rfl) (mV rfl (nS ?_)))
 refine ci s rfl ?_ ?_ <;> clear s <;> intro a0 s <;> have a4 := a0 <;> try simp only [qa] at a4
 ·refine sR (mI rfl (nS ?_))
  exact rR s rfl rfl rfl
 ·refine sR (gL (cb.g_Params r0) rfl rfl rfl fun b5 b0 => (ab (cy rfl (cm b0 Tryz.underlying23 _)) (bN nu rfl rfl (mV rfl ?_))))
  refine cn 5 (d := 20) (v := vb ((decide (4 < (x0.Params.length : Int))) || (decide (12 < (x0.Body.length : Int))))) ?_ ?_
  ·intro S Q r
   cases a8 : (decide (4 < (x0.Params.length : Int)))
   ·intro k
    have a3 := a8
    try simp only [qa] at a3
    obtain ⟨b4, b1, a5⟩ := cb.g_Body r0
    refine ah rfl rfl (cd rfl b1) (ah rfl rfl (ca rfl (TR.cnt (tSl ak.t) a5) (TR.agg (tSl ak.t) a5)) (ah rfl rfl (cy rfl (cm a5 Tryz.underlying95 _)) (ah rfl rfl (bz rfl rfl nu) ?_)))
    exact gK rfl rfl rfl rfl rfl k
   ·exact gN 4 rfl rfl rfl rfl rfl rfl
  refine mV rfl (nS ?_)
  refine ci s rfl ?_ ?_ <;> clear s <;> intro a2 s <;> have a6 := a2 <;> try simp only [qa] at a6
  ·refine sR (mI rfl (nS ?_))
   exact rR s rfl rfl rfl
  ·refine bb (de (am (aq (sR (gL (cb.g_Params r0) rfl rfl rfl fun b3 a9 => (ab (cy rfl (cm a9 Tryz.underlying23 _)) (mI rfl (nS ?_))))))))
   refine br ?_
   refine wC (sy r0 a1 a0 a2 a9 ?_  rfl (by omega) (Mem.sub (Mem.nil ⟨0, []⟩) .slnil) s) rfl
   ·intro b7 b2 s
    refine gw (am (sR (mI rfl (nS ?_))))
    exact rR s rfl rfl rfl

def RF172 (res : Int × Bool) (r : PV) : Prop := r = .tup [vi res.1, vb res.2]
theorem cg1 {x0 : ae} {x1 : aa} {v0 v1 : PV} (r0 : ae.t.R x0 v0) (r1 : aa.t.R x1 v1) : FnR Tryz.prog 172 [v0, v1] (.tup [vi ((qz x0 x1).1), vb ((qz x0 x1).2)]) := by
 refine fnS (R := RF172) be3 (fun _ h => h) rfl fun res s => ?_
 unfold qz at s
 refine sR (ab (dq rfl (TR.cnt ae.t r0)) (ab (dq rfl (TR.cnt aa.t r1)) (mI rfl (mB rfl (nR (gL (ae.g_Metadata r0) rfl rfl rfl fun b8 b5 => (mV rfl (nS ?_))))))))
 refine aq (sR (fL rfl (aa.g_Header r1) rfl rfl (bN (mw (b := -1)) rfl rfl (nS ?_))))
 obtain ⟨b2, a7, s⟩ := bn s
 refine po (F := fun b S Q => ∀ (a0 : List ay) (a1 : PV) (a2 : (tSl ay.t).R a0 a1), b2 a0 = res → RC Tryz.prog b S Q [(6, a1), (3, .fp v1)] ⟨0, []⟩) ?_ ?_
 ·intro a0 a1 a2  s
  rw [← a7] at s
  refine aq (sR (fL rfl (aa.g_Field r1) rfl rfl (bN cz rfl rfl (mV rfl ?_))))
  refine cn 6 (d := 39) (v := vb ((decide (x1.Field < 0)) || (decide ((a0.length : Int) ≤ x1.Field)))) ?_ ?_
  ·intro S Q r
   cases a8 : (decide (x1.Field < 0))
   ·intro k
    have a3 := a8
    try simp only [qa] at a3
    refine ah rfl rfl (cd rfl (aa.g_Field r1)) (ah rfl rfl (ca rfl rfl rfl) (ah rfl rfl (au rfl) (ah rfl rfl (cy rfl (cm a2 Tryz.underlying23 _)) (ah rfl rfl (bz rfl rfl mc) ?_))))
    exact gK rfl rfl rfl rfl rfl k
   ·exact gN 5 rfl rfl rfl rfl rfl rfl
  refine nS ?_
  refine ci s rfl ?_ ?_ <;> clear s <;> intro c s <;> try simp only [qa] at c
  ·refine sR (mI rfl (mB rfl (nS ?_)))
   exact rT s rfl rfl rfl rfl rfl
  ·refine bb (am (sR (mV rfl (fL rfl (aa.g_Field r1) rfl rfl ?_))))
   obtain ⟨c1, b7, a9⟩ := dt (i := x1.Field) a2 (by omega) (by omega)
   refine ab (bh rfl rfl b7) (fL rfl (ay.g_Width a9) rfl rfl (mV rfl (mB rfl (nS ?_))))
   exact rT s rfl rfl rfl rfl rfl
 ·intro J
  refine ci s rfl ?_ ?_ <;> clear s <;> intro c s <;> try simp only [qa] at c
  ·refine aq (sR (fL rfl (aa.g_Header r1) rfl rfl (bN cz rfl rfl (mV rfl ?_))))
   refine cn 7 (d := 22) (v := vb ((decide (x1.Header < 0)) || (decide ((x0.Headers.length : Int) ≤ x1.Header)))) ?_ ?_
   ·intro S Q r
    cases a6 : (decide (x1.Header < 0))
    ·intro k
     have a4 := a6
     try simp only [qa] at a4
     refine ah rfl rfl (cd rfl (aa.g_Header r1)) (ah rfl rfl (ca rfl rfl rfl) ?_)
     obtain ⟨c3, b4, a5⟩ := ae.g_Headers r0
     refine ah rfl rfl (cd rfl b4) (ah rfl rfl (ca rfl (TR.cnt (tSl co.t) a5) (TR.agg (tSl co.t) a5)) (ah rfl rfl (cy rfl (cm a5 Tryz.underlying22 _)) (ah rfl rfl (bz rfl rfl mc) ?_)))
     exact gK rfl rfl rfl rfl rfl k
    ·exact gN 6 rfl rfl rfl rfl rfl rfl
   refine nS ?_
   refine ci s rfl ?_ ?_ <;> clear s <;> intro c s <;> try simp only [qa] at c
   ·refine sR (mI rfl (mB rfl (nS ?_)))
    exact rT s rfl rfl rfl rfl rfl
   ·refine bb (am (ax (gL (ae.g_Headers r0) rfl rfl rfl fun b9 b6 => (fL rfl (aa.g_Header r1) rfl rfl ?_))))
    obtain ⟨c0, b3, b1⟩ := dt (i := x1.Header) b6 (by omega) (by omega)
    refine ab (bh rfl rfl b3) (gL (co.g_Fields b1) rfl rfl rfl fun c2 b0 => (mV rfl (bp ?_)))
    refine am (wC (J _ _ b0  s) rfl)
  ·refine bb ?_
   refine am (wC (J _ _ b5  s) rfl)

def RF267 (res : Int) (r : PV) : Prop := r = vi res
theorem ad2 {x0 : Int} : FnR Tryz.prog 267 [vi x0] (vi (dw x0)) := by
 refine fnS (R := RF267) bg7 (fun _ h => h) rfl fun res s => ?_
 unfold dw at s
 refine sR (mI rfl (nS (aq (sR (mV rfl (nS (br (aq ?_))))))))
 refine sR (bN fe rfl rfl (mV rfl (nS ?_)))
 obtain ⟨a7, a4, s⟩ := bn s
 refine po (F := fun b S Q => ∀ (a2 : Bool), a7 a2 = res → RC Tryz.prog b S Q [(4, vb a2), (3, vi x0)] ⟨0, []⟩) ?_ ?_
 ·intro a2  s
  rw [← a4] at s
  refine ci s rfl ?_ ?_ <;> clear s <;> intro c s <;> try simp only [qa] at c
  ·refine sR (mI rfl (nS ?_))
   exact rR s rfl rfl rfl
  ·refine aq (sR (bN fe rfl rfl (mV rfl (nS ?_))))
   obtain ⟨a6, a5, s⟩ := bn s
   refine po (F := fun b S Q => ∀ (a1 : Bool), a6 a1 = res → RC Tryz.prog b S Q [(9, vb a1), (3, vi x0)] ⟨0, []⟩) ?_ ?_
   ·intro a1  s
    rw [← a5] at s
    refine ci s rfl ?_ ?_ <;> clear s <;> intro c s <;> try simp only [qa] at c
    ·refine sR (mI rfl (nS ?_))
     exact rR s rfl rfl rfl
    ·refine aq (sR (bN fe rfl rfl (mV rfl (nS ?_))))
     obtain ⟨a8, a3, s⟩ := bn s
     refine po (F := fun b S Q => ∀ (a0 : Bool), a8 a0 = res → RC Tryz.prog b S Q [(14, vb a0), (3, vi x0)] ⟨0, []⟩) ?_ ?_
     ·intro a0  s
      rw [← a3] at s
      refine ci s rfl ?_ ?_ <;> clear s <;> intro c s <;> try simp only [qa] at c
      ·refine sR (mI rfl (nS ?_))
       exact rR s rfl rfl rfl
      ·refine sR (bN fe rfl rfl (mV rfl (nS ?_)))
       refine ci s rfl ?_ ?_ <;> clear s <;> intro c s <;> try simp only [qa] at c
       ·refine sR (mI rfl (nS ?_))
        exact rR s rfl rfl rfl
       ·refine bb (de (am (sR (mI rfl (nS ?_)))))
        exact rR s rfl rfl rfl
     ·intro J
      refine ci s rfl ?_ ?_ <;> clear s <;> intro c s <;> try simp only [qa] at c
      ·refine bb ?_
       refine am (wC (J _  s) rfl)
      ·refine sR (bN fe rfl rfl (mV rfl (nS ?_)))
       refine ci s rfl ?_ ?_ <;> clear s <;> intro c s <;> try simp only [qa] at c
       ·refine bb ?_
        refine am (wC (J _  s) rfl)
       ·refine sR (bN fe rfl rfl (mV rfl (nS ?_)))
        refine ci s rfl ?_ ?_ <;> clear s <;> intro c s <;> try simp only [qa] at c
        ·refine bb ?_
         refine am (wC (J _  s) rfl)
        ·refine sR (bN fe rfl rfl (mV rfl (nS ?_)))
         refine ci s rfl ?_ ?_ <;> clear s <;> intro c s <;> try simp only [qa] at c
         ·refine bb ?_
          refine am (wC (J _  s) rfl)
         ·refine sR (bN fe rfl rfl (mV rfl (nS ?_)))
          refine ci s rfl ?_ ?_ <;> clear s <;> intro c s <;> try simp only [qa] at c
          ·refine bb ?_
           refine am (wC (J _  s) rfl)
          ·refine sR (bN fe rfl rfl (mV rfl (nS ?_)))
           refine ci s rfl ?_ ?_ <;> clear s <;> intro c s <;> try simp only [qa] at c
           ·refine bb ?_
            refine am (wC (J _  s) rfl)
           ·refine sR (bN fe rfl rfl (mV rfl (nS ?_)))
            refine ci s rfl ?_ ?_ <;> clear s <;> intro c s <;> try simp only [qa] at c
            ·refine bb ?_
             refine am (wC (J _  s) rfl)
            ·refine ax (bN fe rfl rfl (mV rfl (bp ?_)))
             refine am (wC (J _  s) rfl)
   ·intro J
    refine ci s rfl ?_ ?_ <;> clear s <;> intro c s <;> try simp only [qa] at c
    ·refine bb ?_
     refine am (wC (J _  s) rfl)
    ·refine sR (bN fe rfl rfl (mV rfl (nS ?_)))
     refine ci s rfl ?_ ?_ <;> clear s <;> intro c s <;> try simp only [qa] at c
     ·refine bb ?_
      refine am (wC (J _  s) rfl)
     ·refine sR (bN fe rfl rfl (mV rfl (nS ?_)))
      refine ci s rfl ?_ ?_ <;> clear s <;> intro c s <;> try simp only [qa] at c
      ·refine bb ?_
       refine am (wC (J _  s) rfl)
      ·refine ax (bN fe rfl rfl (mV rfl (bp ?_)))
       refine am (wC (J _  s) rfl)
 ·intro J
  refine ci s rfl ?_ ?_ <;> clear s <;> intro c s <;> try simp only [qa] at c
  ·refine bb ?_
   refine am (wC (J _  s) rfl)
  ·refine sR (bN fe rfl rfl (mV rfl (nS ?_)))
   refine ci s rfl ?_ ?_ <;> clear s <;> intro c s <;> try simp only [qa] at c
   ·refine bb ?_
    refine am (wC (J _  s) rfl)
   ·refine sR (bN fe rfl rfl (mV rfl (nS ?_)))
    refine ci s rfl ?_ ?_ <;> clear s <;> intro c s <;> try simp only [qa] at c
    ·refine bb ?_
     refine am (wC (J _  s) rfl)
    ·refine ax (bN fe rfl rfl (mV rfl (bp ?_)))
     refine am (wC (J _  s) rfl)

end Go.Proofs.YtmonnlkagniolaaGreat
