/-
 The code of each function does what its plain program says.
-/
import Derived.Test.YtmonnlkagniolaaGreatKDef
import Derived.Test.YtmonnlkagniolaaGreatL9Text
import Derived.Test.YtmonnlkagniolaaGreatPbV
import Derived.Test.YtmonnlkagniolaaGreatPbV
import Derived.Test.YtmonnlkagniolaaGreatKEo
import Derived.Test.YtmonnlkagniolaaGreatKPmKpKqKbKcKfKd
import Derived.Test.YtmonnlkagniolaaGreatKCoFo
import Derived.Test.YtmonnlkagniolaaGreatKLy
import Derived.Test.YtmonnlkagniolaaGreatKCoFo
import Derived.Test.YtmonnlkagniolaaGreatL9Run
set_option linter.unusedVariables false
set_option linter.unusedSimpArgs false
set_option maxRecDepth 100000
namespace Go.Proofs.YtmonnlkagniolaaGreat
open Go Go.Pb Go.RowKit
def RF33 (res : Bool) (r : PV) : Prop := r = vb res
theorem yb {S : List Fr} {res : Bool} {x0 : ae} {a0 : Int} {v0 : PV} (r0 : ae.t.R x0 v0) (b4 : ((((decide (20 < (x0.Headers.length : Int))) || (decide (30 < (x0.Metadata.length : Int)))) || (decide (20 < (x0.Registers.length : Int)))) || (decide (40 < (x0.Actions.length : Int)))) = false) (e6 : 0 ≤ a0) (b3 : (decide (a0 < (x0.Actions.length : Int))) = true) (b0 : ((decide (20 < (((ix x0.Actions a0).Params).length : Int))) || (decide (30 < (((ix x0.Actions a0).Body).length : Int)))) = false) {K2 : Unit → Bool}
  (e1 : K2 () = res → PX Tryz.prog 2 S (QR Tryz.prog [(2, none)] (RF33 res)) [(1, .fp v0), (3, vi a0)] ⟨0, []⟩) :
  ∀ {m : Nat} {a1 : Int} (d6 : m = Int.toNat ((((ix x0.Actions a0).Body).length : Int) - a1)) (b2 : 0 ≤ a1), mn x0 a0 K2 m a1 = res → RC Tryz.prog (.loop cr1) S (QR Tryz.prog [(2, none)] (RF33 res)) [(4, vi a1), (3, vi a0), (1, .fp v0)] ⟨0, []⟩ := by
 have a4 := b4
 try simp only [qa] at a4
 have a2 := b3
 try simp only [qa] at a2
 have a7 := b0
 try simp only [qa] at a7
 intro m
 induction m with
 | zero =>
  intro a1 d6 b2 s
  rw [mn] at s
  refine ct (aq (sR (mV rfl (gL (ae.g_Actions r0) rfl rfl rfl fun f2 d1 => (mV rfl ?_)))))
  obtain ⟨e7, c4, c5⟩ := dt (i := a0) d1 (by omega) (by omega)
  refine ab (bh rfl rfl c4) (gL (cb.g_Body c5) rfl rfl rfl fun e2 c7 => (ab (cy rfl (cm c7 Tryz.underlying95 _)) (bN cz rfl rfl (nS ?_))))
  refine cj rfl ?_ ?_ <;> intro c <;> try simp only [qa] at c
  ·omega
  refine ft (gk (ej ?_))
  exact wP (e1  s) rfl
 | succ m ih =>
  intro a1 d6 b2 s
  rw [mn] at s
  refine ct (aq (sR (mV rfl (gL (ae.g_Actions r0) rfl rfl rfl fun f5 d2 => (mV rfl ?_)))))
  obtain ⟨e8, b7, c6⟩ := dt (i := a0) d2 (by omega) (by omega)
  refine ab (bh rfl rfl b7) (gL (cb.g_Body c6) rfl rfl rfl fun f4 b1 => (ab (cy rfl (cm b1 Tryz.underlying95 _)) (bN cz rfl rfl (nS ?_))))
  refine cj rfl ?_ ?_ <;> intro c <;> try simp only [qa] at c
  rotate_left
  ·omega
  refine bb (am (aq (br (sR (gL (ae.g_Actions r0) rfl rfl rfl fun d7 c0 => (mV rfl ?_))))))
  obtain ⟨e3, d4, b5⟩ := dt (i := a0) c0 (by omega) (by omega)
  refine ab (bh rfl rfl d4) (gL (cb.g_Body b5) rfl rfl rfl fun f3 d5 => (mV rfl ?_))
  obtain ⟨e9, b8, b9⟩ := dt (i := a1) d5 (by omega) (by omega)
  refine ab (bh rfl rfl b8) (gL (ak.g_Index b9) rfl rfl rfl fun f1 d0 => (ab (cy rfl (cm d0 Tryz.underlying32 _)) (bN nu rfl rfl (mV rfl ?_))))
  refine cn 13 (d := 90) (v := vb ((decide (60 < (((ix ((ix x0.Actions a0).Body) a1).Index).length : Int))) || (decide (60 < (((ix ((ix x0.Actions a0).Body) a1).Value).length : Int))))) ?_ ?_
  ·intro S Q r
   cases a9 : (decide (60 < (((ix ((ix x0.Actions a0).Body) a1).Index).length : Int)))
   ·intro k
    have a6 := a9
    try simp only [qa] at a6
    obtain ⟨d8, c9, a3⟩ := ae.g_Actions r0
    refine ah rfl rfl (cd rfl c9) (ah rfl rfl (ca rfl (TR.cnt (tSl cb.t) a3) (TR.agg (tSl cb.t) a3)) (ah rfl rfl (au rfl) ?_))
    obtain ⟨d9, c2, c1⟩ := dt (i := a0) a3 (by omega) (by omega)
    refine ah rfl rfl (bh rfl rfl c2) ?_
    obtain ⟨f0, d3, a5⟩ := cb.g_Body c1
    refine ah rfl rfl (cd rfl d3) (ah rfl rfl (ca rfl (TR.cnt (tSl ak.t) a5) (TR.agg (tSl ak.t) a5)) (ah rfl rfl (au rfl) ?_))
    obtain ⟨e5, c8, c3⟩ := dt (i := a1) a5 (by omega) (by omega)
    refine ah rfl rfl (bh rfl rfl c8) ?_
    obtain ⟨e4, b6, a8⟩ := ak.g_Value c3
    refine ah rfl rfl (cd rfl b6) (ah rfl rfl (ca rfl (TR.cnt (tSl af.t) a8) (TR.agg (tSl af.t) a8)) (ah rfl rfl (cy rfl (cm a8 Tryz.underlying32 _)) (ah rfl rfl (bz rfl rfl nu) ?_)))
    exact gK rfl rfl rfl rfl rfl k
   ·exact gN 12 rfl rfl rfl rfl rfl rfl
  refine nS ?_
  refine ci s rfl ?_ ?_ <;> clear s <;> intro c s <;> try simp only [qa] at c
  ·refine sR (mB rfl (nS ?_))
   exact rR s rfl rfl rfl
  ·refine bb (de (am (ax (mV rfl (bN gm rfl rfl (mV rfl (bp (di ?_))))))))
   have hbd := ee b1
   have hinc : wr (a1 + 1) = a1 + 1 := gb (by omega) (by omega)
   erw [hinc]
   exact wC (ih   (by omega) (by omega) s) rfl

theorem yw {S : List Fr} {res : Bool} {x0 : ae} {v0 : PV} (r0 : ae.t.R x0 v0) (a3 : ((((decide (20 < (x0.Headers.length : Int))) || (decide (30 < (x0.Metadata.length : Int)))) || (decide (20 < (x0.Registers.length : Int)))) || (decide (40 < (x0.Actions.length : Int)))) = false) {K0 : Unit → Bool}
  (d2 : K0 () = res → PX Tryz.prog 0 S (QR Tryz.prog [(2, none)] (RF33 res)) [(1, .fp v0)] ⟨0, []⟩) :
  ∀ {m : Nat} {a1 : Int} (c3 : m = Int.toNat ((x0.Actions.length : Int) - a1)) (a8 : 0 ≤ a1), mo x0 K0 m a1 = res → RC Tryz.prog (.loop cp3) S (QR Tryz.prog [(2, none)] (RF33 res)) [(3, vi a1), (1, .fp v0)] ⟨0, []⟩ := by
 have a7 := a3
 try simp only [qa] at a7
 intro m
 induction m with
 | zero =>
  intro a1 c3 a8 s
  rw [mo] at s
  refine ct (aq (sR (mV rfl (gL (ae.g_Actions r0) rfl rfl rfl fun d0 c0 => (ab (cy rfl (cm c0 Tryz.underlying25 _)) (bN cz rfl rfl (nS ?_)))))))
  refine cj rfl ?_ ?_ <;> intro c <;> try simp only [qa] at c
  ·omega
  refine ft (gk (ej ?_))
  exact wP (d2  s) rfl
 | succ m ih =>
  intro a1 c3 a8 s
  rw [mo] at s
  refine ct (aq (sR (mV rfl (gL (ae.g_Actions r0) rfl rfl rfl fun c7 b1 => (ab (cy rfl (cm b1 Tryz.underlying25 _)) (bN cz rfl rfl (nS ?_)))))))
  refine cj rfl (fun a0 => ?_) (fun a0 => ?_)
  ·have hgo := s
   have a5 := a0
   try simp only [qa] at a5
   refine bb (am (aq (br (aq (sR (gL (ae.g_Actions r0) rfl rfl rfl fun c4 c1 => (mV rfl ?_)))))))
   obtain ⟨c8, b5, b6⟩ := dt (i := a1) c1 (by omega) (by omega)
   refine ab (bh rfl rfl b5) ?_
   obtain ⟨d1, b9, b3⟩ := cb.g_Params b6
   refine fA rfl b9 (lD b3 rfl rfl rfl (ab (cy rfl (cm b3 Tryz.underlying23 _)) (bN nu rfl rfl (mV rfl ?_))))
   refine cn 9 (d := 53) (v := vb ((decide (20 < (((ix x0.Actions a1).Params).length : Int))) || (decide (30 < (((ix x0.Actions a1).Body).length : Int))))) ?_ ?_
   ·intro S Q r
    cases b2 : (decide (20 < (((ix x0.Actions a1).Params).length : Int)))
    ·intro k
     have b0 := b2
     try simp only [qa] at b0
     obtain ⟨c5, c2, a6⟩ := ae.g_Actions r0
     refine ah rfl rfl (cd rfl c2) (ah rfl rfl (ca rfl (TR.cnt (tSl cb.t) a6) (TR.agg (tSl cb.t) a6)) (ah rfl rfl (au rfl) ?_))
     obtain ⟨c6, b7, b4⟩ := dt (i := a1) a6 (by omega) (by omega)
     refine ah rfl rfl (bh rfl rfl b7) ?_
     obtain ⟨c9, b8, a4⟩ := cb.g_Body b4
     refine ah rfl rfl (cd rfl b8) (ah rfl rfl (ca rfl (TR.cnt (tSl ak.t) a4) (TR.agg (tSl ak.t) a4)) (ah rfl rfl (cy rfl (cm a4 Tryz.underlying95 _)) (ah rfl rfl (bz rfl rfl nu) ?_)))
     exact gK rfl rfl rfl rfl rfl k
    ·exact gN 8 rfl rfl rfl rfl rfl rfl
   refine nS ?_
   refine ci s rfl ?_ ?_ <;> clear s <;> intro a2 s <;> have a9 := a2 <;> try simp only [qa] at a9
   ·refine sR (mB rfl (nS ?_))
    exact rR s rfl rfl rfl
   ·refine bb (am (sR (mI rfl (nS (br ?_)))))
    refine wC (yb r0 a3 a8 a0 a2 ?_  rfl (by omega) s) rfl
    ·intro  s
     refine gw (de (am (ax (mV rfl (bN gm rfl rfl (mV rfl (bp (di ?_))))))))
     have hbd := ee b1
     have hinc : wr (a1 + 1) = a1 + 1 := gb (by omega) (by omega)
     erw [hinc]
     exact wC (ih   (by omega) (by omega) s) rfl
  ·exfalso
   try simp only [qa] at a0
   omega

theorem yj {S : List Fr} {res : Bool} {x0 : ae} {v0 : PV} (r0 : ae.t.R x0 v0) (a2 : ((((decide (20 < (x0.Headers.length : Int))) || (decide (30 < (x0.Metadata.length : Int)))) || (decide (20 < (x0.Registers.length : Int)))) || (decide (40 < (x0.Actions.length : Int)))) = false) {K4 : Unit → Bool}
  (b4 : K4 () = res → PX Tryz.prog 4 S (QR Tryz.prog [(2, none)] (RF33 res)) [(1, .fp v0)] ⟨0, []⟩) :
  ∀ {m : Nat} {a0 : Int} (b0 : m = Int.toNat ((x0.Headers.length : Int) - a0)) (a3 : 0 ≤ a0), mr x0 K4 m a0 = res → RC Tryz.prog (.loop ct6) S (QR Tryz.prog [(2, none)] (RF33 res)) [(5, vi a0), (1, .fp v0)] ⟨0, []⟩ := by
 have a1 := a2
 try simp only [qa] at a1
 intro m
 induction m with
 | zero =>
  intro a0 b0 a3 s
  rw [mr] at s
  refine ct (aq (sR (mV rfl (gL (ae.g_Headers r0) rfl rfl rfl fun b5 a8 => (ab (cy rfl (cm a8 Tryz.underlying22 _)) (bN cz rfl rfl (nS ?_)))))))
  refine cj rfl ?_ ?_ <;> intro c <;> try simp only [qa] at c
  ·omega
  refine ft (gk (ej ?_))
  exact wP (b4  s) rfl
 | succ m ih =>
  intro a0 b0 a3 s
  rw [mr] at s
  refine ct (aq (sR (mV rfl (gL (ae.g_Headers r0) rfl rfl rfl fun b3 a4 => (ab (cy rfl (cm a4 Tryz.underlying22 _)) (bN cz rfl rfl (nS ?_)))))))
  refine cj rfl ?_ ?_ <;> intro c <;> try simp only [qa] at c
  rotate_left
  ·omega
  refine bb (am (aq (br (sR (gL (ae.g_Headers r0) rfl rfl rfl fun b6 a7 => (mV rfl ?_))))))
  obtain ⟨b1, a5, a9⟩ := dt (i := a0) a7 (by omega) (by omega)
  refine ab (bh rfl rfl a5) (gL (co.g_Fields a9) rfl rfl rfl fun b2 a6 => (ab (cy rfl (cm a6 Tryz.underlying23 _)) (bN nu rfl rfl (nS ?_))))
  refine ci s rfl ?_ ?_ <;> clear s <;> intro c s <;> try simp only [qa] at c
  ·refine sR (mB rfl (nS ?_))
   exact rR s rfl rfl rfl
  ·refine bb (de (am (ax (mV rfl (bN gm rfl rfl (mV rfl (bp (di ?_))))))))
   have hbd := ee a4
   have hinc : wr (a0 + 1) = a0 + 1 := gb (by omega) (by omega)
   erw [hinc]
   exact wC (ih   (by omega) (by omega) s) rfl

theorem zm {S : List Fr} {res : Bool} {x0 : ae} {v0 : PV} (r0 : ae.t.R x0 v0) (a3 : ((((decide (20 < (x0.Headers.length : Int))) || (decide (30 < (x0.Metadata.length : Int)))) || (decide (20 < (x0.Registers.length : Int)))) || (decide (40 < (x0.Actions.length : Int)))) = false) {K6 : Unit → Bool}
  (b2 : K6 () = res → PX Tryz.prog 6 S (QR Tryz.prog [(2, none)] (RF33 res)) [] ⟨0, []⟩) :
  ∀ {m : Nat} {a0 : Int} (a9 : m = Int.toNat ((x0.Registers.length : Int) - a0)) (a4 : 0 ≤ a0), pb x0 K6 m a0 = res → RC Tryz.prog (.loop ci4) S (QR Tryz.prog [(2, none)] (RF33 res)) [(6, vi a0), (1, .fp v0)] ⟨0, []⟩ := by
 have a1 := a3
 try simp only [qa] at a1
 intro m
 induction m with
 | zero =>
  intro a0 a9 a4 s
  rw [pb] at s
  refine ct (aq (sR (mV rfl (gL (ae.g_Registers r0) rfl rfl rfl fun b0 a8 => (ab (cy rfl (cm a8 Tryz.underlying24 _)) (bN cz rfl rfl (nS ?_)))))))
  refine cj rfl ?_ ?_ <;> intro c <;> try simp only [qa] at c
  ·omega
  refine ft (gk (ej ?_))
  exact wP (b2  s) rfl
 | succ m ih =>
  intro a0 a9 a4 s
  rw [pb] at s
  refine ct (aq (sR (mV rfl (gL (ae.g_Registers r0) rfl rfl rfl fun b4 a2 => (ab (cy rfl (cm a2 Tryz.underlying24 _)) (bN cz rfl rfl (nS ?_)))))))
  refine cj rfl ?_ ?_ <;> intro c <;> try simp only [qa] at c
  rotate_left
  ·omega
  refine bb (am (aq (br (sR (gL (ae.g_Registers r0) rfl rfl rfl fun b3 a6 => (mV rfl ?_))))))
  obtain ⟨b1, a5, a7⟩ := dt (i := a0) a6 (by omega) (by omega)
  refine ab (bh rfl rfl a5) (fL rfl (cp.g_Size a7) rfl rfl (bN nu rfl rfl (nS ?_)))
  refine ci s rfl ?_ ?_ <;> clear s <;> intro c s <;> try simp only [qa] at c
  ·refine sR (mB rfl (nS ?_))
   exact rR s rfl rfl rfl
  ·refine bb (de (am (ax (mV rfl (bN gm rfl rfl (mV rfl (bp (di ?_))))))))
   have hbd := ee a2
   have hinc : wr (a0 + 1) = a0 + 1 := gb (by omega) (by omega)
   erw [hinc]
   exact wC (ih   (by omega) (by omega) s) rfl

theorem dg7 {x0 : ae} {v0 : PV} (r0 : ae.t.R x0 v0) : FnR Tryz.prog 33 [v0] (vb (qv x0)) := by
 refine fnS (R := RF33) da0 (fun _ h => h) rfl fun res s => ?_
 unfold qv at s
 refine sR (ab (dq rfl (TR.cnt ae.t r0)) (mB rfl (nS (aq (sR ?_)))))
 obtain ⟨b6, b4, b0⟩ := ae.g_Headers r0
 refine fA rfl b4 (lD b0 rfl rfl rfl (ab (cy rfl (cm b0 Tryz.underlying22 _)) (bN nu rfl rfl (mV rfl ?_))))
 refine cn 5 (d := 16) (v := vb ((decide (20 < (x0.Headers.length : Int))) || (decide (30 < (x0.Metadata.length : Int))))) ?_ ?_
 ·intro S Q r
  cases a8 : (decide (20 < (x0.Headers.length : Int)))
  ·intro k
   have a6 := a8
   try simp only [qa] at a6
   obtain ⟨b9, b5, a1⟩ := ae.g_Metadata r0
   refine ah rfl rfl (cd rfl b5) (ah rfl rfl (ca rfl (TR.cnt (tSl ay.t) a1) (TR.agg (tSl ay.t) a1)) (ah rfl rfl (cy rfl (cm a1 Tryz.underlying23 _)) (ah rfl rfl (bz rfl rfl nu) ?_)))
   exact gK rfl rfl rfl rfl rfl k
  ·exact gN 4 rfl rfl rfl rfl rfl rfl
 refine mV rfl ?_
 refine cn 5 (d := 22) (v := vb (((decide (20 < (x0.Headers.length : Int))) || (decide (30 < (x0.Metadata.length : Int)))) || (decide (20 < (x0.Registers.length : Int))))) ?_ ?_
 ·intro S Q r
  cases b1 : ((decide (20 < (x0.Headers.length : Int))) || (decide (30 < (x0.Metadata.length : Int))))
  ·intro k
   have a2 := b1
   try simp only [qa] at a2
   obtain ⟨b8, b2, a3⟩ := ae.g_Registers r0
   refine ah rfl rfl (cd rfl b2) (ah rfl rfl (ca rfl (TR.cnt (tSl cp.t) a3) (TR.agg (tSl cp.t) a3)) (ah rfl rfl (cy rfl (cm a3 Tryz.underlying24 _)) (ah rfl rfl (bz rfl rfl nu) ?_)))
   exact gK rfl rfl rfl rfl rfl k
  ·exact gN 4 rfl rfl rfl rfl rfl rfl
 refine mV rfl ?_
 refine cn 5 (d := 28) (v := vb ((((decide (20 < (x0.Headers.length : Int))) || (decide (30 < (x0.Metadata.length : Int)))) || (decide (20 < (x0.Registers.length : Int)))) || (decide (40 < (x0.Actions.length : Int))))) ?_ ?_
 ·intro S Q r
  cases a9 : (((decide (20 < (x0.Headers.length : Int))) || (decide (30 < (x0.Metadata.length : Int)))) || (decide (20 < (x0.Registers.length : Int))))
  ·intro k
   have a4 := a9
   try simp only [qa] at a4
   obtain ⟨b7, b3, a7⟩ := ae.g_Actions r0
   refine ah rfl rfl (cd rfl b3) (ah rfl rfl (ca rfl (TR.cnt (tSl cb.t) a7) (TR.agg (tSl cb.t) a7)) (ah rfl rfl (cy rfl (cm a7 Tryz.underlying25 _)) (ah rfl rfl (bz rfl rfl nu) ?_)))
   exact gK rfl rfl rfl rfl rfl k
  ·exact gN 4 rfl rfl rfl rfl rfl rfl
 refine nS ?_
 refine ci s rfl ?_ ?_ <;> clear s <;> intro a0 s <;> have a5 := a0 <;> try simp only [qa] at a5
 ·refine sR (mB rfl (nS ?_))
  exact rR s rfl rfl rfl
 ·refine bb (am (aq (sR (mI rfl (nS (br ?_))))))
  refine wC (yw r0 a0 ?_  rfl (by omega) s) rfl
  ·intro  s
   refine gw (am (aq (sR (mI rfl (nS (br ?_))))))
   refine wC (yj r0 a0 ?_  rfl (by omega) s) rfl
   ·intro  s
    refine gw (am (aq (sR (mI rfl (nS (br ?_))))))
    refine wC (zm r0 a0 ?_  rfl (by omega) s) rfl
    ·intro  s
     refine gw (am (sR (mB rfl (nS ?_))))
     exact rR s rfl rfl rfl

def RF82 (res : Bool) (r : PV) : Prop := r = vb res
theorem yh {S : List Fr} {res : Bool} {x0 : ae} {x1 : av} {v0 v1 : PV} (r0 : ae.t.R x0 v0) (r1 : av.t.R x1 v1) (a3 : (((!decide ((x1.Valid.length : Int) = (x0.Headers.length : Int))) || (!decide ((x1.Fields.length : Int) = (x0.Headers.length : Int)))) || (!decide ((x1.Metd.length : Int) = (x0.Metadata.length : Int)))) = false) {K0 : Unit → Bool}
  (c5 : K0 () = res → PX Tryz.prog 0 S (QR Tryz.prog [(4, none)] (RF82 res)) [] ⟨0, []⟩) :
  ∀ {m : Nat} {a0 : Int} (b7 : m = Int.toNat ((x0.Headers.length : Int) - a0)) (a6 : 0 ≤ a0), lk x0 x1 K0 m a0 = res → RC Tryz.prog (.loop ci2) S (QR Tryz.prog [(4, none)] (RF82 res)) [(5, vi a0), (3, .fp v1), (2, .fp v0)] ⟨0, []⟩ := by
 have a2 := a3
 try simp only [qa] at a2
 intro m
 induction m with
 | zero =>
  intro a0 b7 a6 s
  rw [lk] at s
  refine ct (aq (sR (mV rfl (gL (ae.g_Headers r0) rfl rfl rfl fun c4 b4 => (ab (cy rfl (cm b4 Tryz.underlying22 _)) (bN cz rfl rfl (nS ?_)))))))
  refine cj rfl ?_ ?_ <;> intro c <;> try simp only [qa] at c
  ·omega
  refine ft (gk (ej ?_))
  exact wP (c5  s) rfl
 | succ m ih =>
  intro a0 b7 a6 s
  rw [lk] at s
  refine ct (aq (sR (mV rfl ?_)))
  obtain ⟨c1, b5, a1⟩ := ae.g_Headers r0
  refine fA rfl b5 (lD a1 rfl rfl rfl (ab (cy rfl (cm a1 Tryz.underlying22 _)) (bN cz rfl rfl (nS ?_))))
  refine cj rfl ?_ ?_ <;> intro c <;> try simp only [qa] at c
  rotate_left
  ·omega
  refine bb (am (aq (br (sR ?_))))
  obtain ⟨c2, a9, a5⟩ := av.g_Fields r1
  refine fA rfl a9 (lD a5 rfl rfl rfl (mV rfl ?_))
  obtain ⟨c3, b2, a8⟩ := dt (i := a0) a5 (by omega) (by omega)
  refine ab (bh rfl rfl b2) (lD a8 rfl rfl rfl (ab (cy rfl (cm a8 Tryz.underlying43 _)) ?_))
  obtain ⟨b9, b3, a7⟩ := ae.g_Headers r0
  refine fA rfl b3 (lD a7 rfl rfl rfl (mV rfl ?_))
  obtain ⟨b8, b6, b1⟩ := dt (i := a0) a7 (by omega) (by omega)
  refine ab (bh rfl rfl b6) ?_
  obtain ⟨c0, b0, a4⟩ := co.g_Fields b1
  refine fA rfl b0 (lD a4 rfl rfl rfl (ab (cy rfl (cm a4 Tryz.underlying23 _)) (bN mw rfl rfl (nS ?_))))
  refine ci s rfl ?_ ?_ <;> clear s <;> intro c s <;> try simp only [qa] at c
  ·refine sR (mB rfl (nS ?_))
   exact rR s rfl rfl rfl
  ·refine bb (de (am (ax (mV rfl (bN gm rfl rfl (mV rfl (bp (di ?_))))))))
   have hbd := ee a1
   have hinc : wr (a0 + 1) = a0 + 1 := gb (by omega) (by omega)
   erw [hinc]
   exact wC (ih   (by omega) (by omega) s) rfl

theorem db1 {x0 : ae} {x1 : av} {v0 v1 : PV} (r0 : ae.t.R x0 v0) (r1 : av.t.R x1 v1) : FnR Tryz.prog 82 [v0, v1] (vb (ka x0 x1)) := by
 refine fnS (R := RF82) de8 (fun _ h => h) rfl fun res s => ?_
 unfold ka at s
 refine sR (ab (dq rfl (TR.cnt ae.t r0)) (ab (dq rfl (TR.cnt av.t r1)) (mB rfl (nS (aq (sR ?_))))))
 obtain ⟨b7, b5, b0⟩ := av.g_Valid r1
 refine fA rfl b5 (lD b0 rfl rfl rfl (ab (cy rfl (cm b0 Tryz.underlying41 _)) (gL (ae.g_Headers r0) rfl rfl rfl fun c2 b4 => (ab (cy rfl (cm b4 Tryz.underlying22 _)) (bN mw rfl rfl (mV rfl ?_))))))
 refine cn 8 (d := 21) (v := vb ((!decide ((x1.Valid.length : Int) = (x0.Headers.length : Int))) || (!decide ((x1.Fields.length : Int) = (x0.Headers.length : Int))))) ?_ ?_
 ·intro S Q r
  cases a8 : (!decide ((x1.Valid.length : Int) = (x0.Headers.length : Int)))
  ·intro k
   have a2 := a8
   try simp only [qa] at a2
   obtain ⟨b8, b1, a5⟩ := av.g_Fields r1
   refine ah rfl rfl (cd rfl b1) (ah rfl rfl (ca rfl (TR.cnt (tSl (tSl dm)) a5) (TR.agg (tSl (tSl dm)) a5)) (ah rfl rfl (cy rfl (cm a5 Tryz.underlying42 _)) ?_))
   obtain ⟨c1, b2, a1⟩ := ae.g_Headers r0
   refine ah rfl rfl (cd rfl b2) (ah rfl rfl (ca rfl (TR.cnt (tSl co.t) a1) (TR.agg (tSl co.t) a1)) (ah rfl rfl (cy rfl (cm a1 Tryz.underlying22 _)) (ah rfl rfl (bz rfl rfl mw) ?_)))
   exact gK rfl rfl rfl rfl rfl k
  ·exact gN 7 rfl rfl rfl rfl rfl rfl
 refine mV rfl ?_
 refine cn 8 (d := 30) (v := vb (((!decide ((x1.Valid.length : Int) = (x0.Headers.length : Int))) || (!decide ((x1.Fields.length : Int) = (x0.Headers.length : Int)))) || (!decide ((x1.Metd.length : Int) = (x0.Metadata.length : Int))))) ?_ ?_
 ·intro S Q r
  cases a9 : ((!decide ((x1.Valid.length : Int) = (x0.Headers.length : Int))) || (!decide ((x1.Fields.length : Int) = (x0.Headers.length : Int))))
  ·intro k
   have a3 := a9
   try simp only [qa] at a3
   obtain ⟨c0, b3, a7⟩ := av.g_Meta r1
   refine ah rfl rfl (cd rfl b3) (ah rfl rfl (ca rfl (TR.cnt (tSl dm) a7) (TR.agg (tSl dm) a7)) (ah rfl rfl (cy rfl (cm a7 Tryz.underlying43 _)) ?_))
   obtain ⟨b9, b6, a6⟩ := ae.g_Metadata r0
   refine ah rfl rfl (cd rfl b6) (ah rfl rfl (ca rfl (TR.cnt (tSl ay.t) a6) (TR.agg (tSl ay.t) a6)) (ah rfl rfl (cy rfl (cm a6 Tryz.underlying23 _)) (ah rfl rfl (bz rfl rfl mw) ?_)))
   exact gK rfl rfl rfl rfl rfl k
  ·exact gN 7 rfl rfl rfl rfl rfl rfl
 refine nS ?_
 refine ci s rfl ?_ ?_ <;> clear s <;> intro a0 s <;> have a4 := a0 <;> try simp only [qa] at a4
 ·refine sR (mB rfl (nS ?_))
  exact rR s rfl rfl rfl
 ·refine bb (am (aq (sR (mI rfl (nS (br ?_))))))
  refine wC (yh r0 r1 a0 ?_  rfl (by omega) s) rfl
  ·intro  s
   refine gw (am (sR (mB rfl (nS ?_))))
   exact rR s rfl rfl rfl

def RF84 (res : Int) (r : PV) : Prop := r = vi res
theorem bt3 {x0 : ae} {x1 : aa} {v0 v1 : PV} (r0 : ae.t.R x0 v0) (r1 : aa.t.R x1 v1) : FnR Tryz.prog 84 [v0, v1] (vi (jt x0 x1)) := by
 refine fnS (R := RF84) dj1 (fun _ h => h) rfl fun res s => ?_
 unfold jt at s
 refine sR (ab (dq rfl (TR.cnt ae.t r0)) (ab (dq rfl (TR.cnt aa.t r1)) (mI rfl (nR (gL (ae.g_Metadata r0) rfl rfl rfl fun c7 c1 => (mV rfl (nS (aq ?_))))))))
 refine sR (fL rfl (aa.g_Header r1) rfl rfl (bN mc rfl rfl (nS ?_)))
 obtain ⟨c2, a7, s⟩ := bn s
 refine po (F := fun b S Q => ∀ (a0 : List ay) (a2 : PV) (a1 : (tSl ay.t).R a0 a2), c2 a0 = res → RC Tryz.prog b S Q [(5, a2), (3, .fp v1)] ⟨0, []⟩) ?_ ?_
 ·intro a0 a2 a1  s
  rw [← a7] at s
  refine aq (sR (fL rfl (aa.g_Header r1) rfl rfl (bN (cz (b := -1)) rfl rfl (mV rfl ?_))))
  refine cn 4 (d := 31) (v := vb ((decide (x1.Header < (-1))) || (decide (x1.Field < 0)))) ?_ ?_
  ·intro S Q r
   cases b0 : (decide (x1.Header < (-1)))
   ·intro k
    have a5 := b0
    try simp only [qa] at a5
    refine ah rfl rfl (cd rfl (aa.g_Field r1)) (ah rfl rfl (ca rfl rfl rfl) (ah rfl rfl (bz rfl rfl cz) ?_))
    exact gK rfl rfl rfl rfl rfl k
   ·exact gN 3 rfl rfl rfl rfl rfl rfl
  refine mV rfl ?_
  refine cn 6 (d := 38) (v := vb (((decide (x1.Header < (-1))) || (decide (x1.Field < 0))) || (decide ((a0.length : Int) ≤ x1.Field)))) ?_ ?_
  ·intro S Q r
   cases b3 : ((decide (x1.Header < (-1))) || (decide (x1.Field < 0)))
   ·intro k
    have a3 := b3
    try simp only [qa] at a3
    refine ah rfl rfl (cd rfl (aa.g_Field r1)) (ah rfl rfl (ca rfl rfl rfl) (ah rfl rfl (au rfl) (ah rfl rfl (cy rfl (cm a1 Tryz.underlying23 _)) (ah rfl rfl (bz rfl rfl mc) ?_))))
    exact gK rfl rfl rfl rfl rfl k
   ·exact gN 5 rfl rfl rfl rfl rfl rfl
  refine mV rfl ?_
  refine cn 8 (d := 47) (v := vb ((((decide (x1.Header < (-1))) || (decide (x1.Field < 0))) || (decide ((a0.length : Int) ≤ x1.Field))) || (decide (((ix a0 x1.Field).Width) < 1)))) ?_ ?_
  ·intro S Q r
   cases a8 : (((decide (x1.Header < (-1))) || (decide (x1.Field < 0))) || (decide ((a0.length : Int) ≤ x1.Field)))
   ·intro k
    have a4 := a8
    try simp only [qa] at a4
    refine ah rfl rfl (au rfl) (ah rfl rfl (cd rfl (aa.g_Field r1)) (ah rfl rfl (ca rfl rfl rfl) ?_))
    obtain ⟨d0, c6, b4⟩ := dt (i := x1.Field) a1 (by omega) (by omega)
    refine ah rfl rfl (bh rfl rfl c6) (ah rfl rfl (cd rfl (ay.g_Width b4)) (ah rfl rfl (ca rfl rfl rfl) (ah rfl rfl (bz rfl rfl cz) ?_)))
    exact gK rfl rfl rfl rfl rfl k
   ·exact gN 7 rfl rfl rfl rfl rfl rfl
  refine mV rfl ?_
  refine cn 8 (d := 56) (v := vb (((((decide (x1.Header < (-1))) || (decide (x1.Field < 0))) || (decide ((a0.length : Int) ≤ x1.Field))) || (decide (((ix a0 x1.Field).Width) < 1))) || (decide (32 < ((ix a0 x1.Field).Width))))) ?_ ?_
  ·intro S Q r
   cases b2 : ((((decide (x1.Header < (-1))) || (decide (x1.Field < 0))) || (decide ((a0.length : Int) ≤ x1.Field))) || (decide (((ix a0 x1.Field).Width) < 1)))
   ·intro k
    have a6 := b2
    try simp only [qa] at a6
    refine ah rfl rfl (au rfl) (ah rfl rfl (cd rfl (aa.g_Field r1)) (ah rfl rfl (ca rfl rfl rfl) ?_))
    obtain ⟨d3, b7, b8⟩ := dt (i := x1.Field) a1 (by omega) (by omega)
    refine ah rfl rfl (bh rfl rfl b7) (ah rfl rfl (cd rfl (ay.g_Width b8)) (ah rfl rfl (ca rfl rfl rfl) (ah rfl rfl (bz rfl rfl nu) ?_)))
    exact gK rfl rfl rfl rfl rfl k
   ·exact gN 7 rfl rfl rfl rfl rfl rfl
  refine nS ?_
  refine ci s rfl ?_ ?_ <;> clear s <;> intro c s <;> try simp only [qa] at c
  ·refine sR (mI rfl (nS ?_))
   exact rR s rfl rfl rfl
  ·refine bb (am (sR (mV rfl (fL rfl (aa.g_Field r1) rfl rfl ?_))))
   obtain ⟨c8, c5, c3⟩ := dt (i := x1.Field) a1 (by omega) (by omega)
   refine ab (bh rfl rfl c5) (fL rfl (ay.g_Width c3) rfl rfl (mV rfl (nS ?_)))
   exact rR s rfl rfl rfl
 ·intro J
  refine ci s rfl ?_ ?_ <;> clear s <;> intro c s <;> try simp only [qa] at c
  ·refine aq (sR (fL rfl (aa.g_Header r1) rfl rfl (gL (ae.g_Headers r0) rfl rfl rfl fun c9 b5 => (ab (cy rfl (cm b5 Tryz.underlying22 _)) (bN mc rfl rfl (nS ?_))))))
   refine ci s rfl ?_ ?_ <;> clear s <;> intro c s <;> try simp only [qa] at c
   ·refine sR (mI rfl (nS ?_))
    exact rR s rfl rfl rfl
   ·refine bb (am (ax ?_))
    obtain ⟨d2, b9, a9⟩ := ae.g_Headers r0
    refine fA rfl b9 (lD a9 rfl rfl rfl (fL rfl (aa.g_Header r1) rfl rfl ?_))
    obtain ⟨d4, b6, c4⟩ := dt (i := x1.Header) a9 (by omega) (by omega)
    refine ab (bh rfl rfl b6) ?_
    obtain ⟨d1, c0, b1⟩ := co.g_Fields c4
    refine fA rfl c0 (lD b1 rfl rfl rfl (mV rfl (bp ?_)))
    refine am (wC (J _ _ b1  s) rfl)
  ·refine bb ?_
   refine am (wC (J _ _ c1  s) rfl)

def RF83 (res : Bool) (r : PV) : Prop := r = vb res
theorem aa9 {S : List Fr} {res : Bool} {x0 : BitVec 32} {x1 : Int} (hq : x1 ≤ 32) {K0 : (BitVec 64) → Bool}
  (a4 : ∀ {a0 : BitVec 64}, K0 a0 = res → PX Tryz.prog 0 S (QR Tryz.prog [(4, none)] (RF83 res)) [(0, bm x0), (5, za a0)] ⟨0, []⟩) :
  ∀ {m : Nat} {a0 : BitVec 64} {a1 : Int} (a3 : m = Int.toNat (x1 - a1)) (a2 : 0 ≤ a1), mg K0 m a0 a1 = res → RC Tryz.prog (.loop cm5) S (QR Tryz.prog [(4, none)] (RF83 res)) [(6, vi a1), (5, za a0), (1, vi x1), (0, bm x0)] ⟨0, []⟩ := by
 intro m
 induction m with
 | zero =>
  intro a0 a1 a3 a2 s
  rw [mg] at s
  refine ct (aq (sR (mV rfl (mV rfl (bN cz rfl rfl (nS ?_))))))
  refine cj rfl ?_ ?_ <;> intro c <;> try simp only [qa] at c
  ·omega
  refine ft (gk (ej ?_))
  exact wP (a4  s) rfl
 | succ m ih =>
  intro a0 a1 a3 a2 s
  rw [mg] at s
  refine ct (aq (sR (mV rfl (mV rfl (bN cz rfl rfl (nS ?_))))))
  refine cj rfl ?_ ?_ <;> intro c <;> try simp only [qa] at c
  rotate_left
  ·omega
  refine bb (am (aq (br (ax (mV rfl (ab (bz (a := za 2#64) (b := za a0) rfl rfl dn7) (mV rfl (bp ?_))))))))
  refine de (am (ax (mV rfl (bN gm rfl rfl (mV rfl (bp (di ?_)))))))
  have hinc : wr (a1 + 1) = a1 + 1 := gb (by omega) (by omega)
  erw [hinc]
  exact wC (ih   (by omega) (by omega) s) rfl

theorem ay3 {x0 : BitVec 32} {x1 : Int} (hq : x1 ≤ 32) : FnR Tryz.prog 83 [bm x0, vi x1] (vb (pp x0 x1)) := by
 refine fnS (R := RF83) db5 (fun _ h => h) rfl fun res s => ?_
 unfold pp at s
 refine sR (mB rfl (nR (ab (v := za 1#64) (au rfl) (nS (aq (sR (mI rfl (nS ?_))))))))
 refine br ?_
 refine wC (aa9 hq ?_  rfl (by omega) s) rfl
 ·intro a0 s
  refine gw (am (sR (mV rfl (ab (yl (a := bm x0) rfl (c_wd Tryz.underlying89 Tryz.underlying201)) (mV rfl (ab (bz (a := za (BitVec.setWidth 64 x0)) (b := za a0) rfl rfl ds4) (mV rfl (nS ?_))))))))
  exact rR s rfl rfl rfl

def RF21 (res : Int) (r : PV) : Prop := r = vi res
theorem zr {S : List Fr} {res : Int} {x0 : ae} {x1 : av} {b2 : Bool} {a0 : Int} {v0 v1 : PV} (r0 : ae.t.R x0 v0) (r1 : av.t.R x1 v1) (c2 : ka x0 x1 = b2) (a6 : (!b2) = false) (d0 : 0 ≤ a0) (b3 : (decide (a0 < (x1.Fields.length : Int))) = true) {K2 : Unit → Int}
  (c7 : K2 () = res → PX Tryz.prog 2 S (QR Tryz.prog [(4, none)] (RF21 res)) [(2, .fp v0), (3, .fp v1), (5, vi a0)] ⟨0, []⟩) :
  ∀ {m : Nat} {a1 : Int} (c4 : m = Int.toNat (((ix x1.Fields a0).length : Int) - a1)) (b1 : 0 ≤ a1), lp x0 x1 a0 K2 m a1 = res → RC Tryz.prog (.loop cp7) S (QR Tryz.prog [(4, none)] (RF21 res)) [(6, vi a1), (5, vi a0), (3, .fp v1), (2, .fp v0)] ⟨0, []⟩ := by
 have a4 := a6
 try simp only [qa] at a4
 have a5 := b3
 try simp only [qa] at a5
 intro m
 induction m with
 | zero =>
  intro a1 c4 b1 s
  rw [lp] at s
  refine ct (aq (sR (mV rfl (gL (av.g_Fields r1) rfl rfl rfl fun c8 c1 => (mV rfl ?_)))))
  obtain ⟨c6, b7, b4⟩ := dt (i := a0) c1 (by omega) (by omega)
  refine ab (bh rfl rfl b7) (lD b4 rfl rfl rfl (ab (cy rfl (cm b4 Tryz.underlying43 _)) (bN cz rfl rfl (nS ?_))))
  refine cj rfl ?_ ?_ <;> intro c <;> try simp only [qa] at c
  ·omega
  refine ft (gk (ej ?_))
  exact wP (c7  s) rfl
 | succ m ih =>
  intro a1 c4 b1 s
  rw [lp] at s
  refine ct (aq (sR (mV rfl (gL (av.g_Fields r1) rfl rfl rfl fun d3 b8 => (mV rfl ?_)))))
  obtain ⟨c9, c0, a3⟩ := dt (i := a0) b8 (by omega) (by omega)
  refine ab (bh rfl rfl c0) (lD a3 rfl rfl rfl (ab (cy rfl (cm a3 Tryz.underlying43 _)) (bN cz rfl rfl (nS ?_))))
  refine cj rfl ?_ ?_ <;> intro c <;> try simp only [qa] at c
  rotate_left
  ·omega
  refine bb (am (aq (br (sR (gL (av.g_Fields r1) rfl rfl rfl fun c5 b9 => (mV rfl ?_))))))
  obtain ⟨d1, b6, a9⟩ := dt (i := a0) b9 (by omega) (by omega)
  refine ab (bh rfl rfl b6) (lD a9 rfl rfl rfl (mV rfl (ab (bh rfl rfl (uf a9 (by omega) (by omega))) (lR rfl rfl rfl (lD r0 rfl rfl rfl (mV rfl (mV rfl (ab (v := .agg [vi a0, vi a1]) (fu (cs := [vi a0, vi a1]) rfl rfl) ?_))))))))
  obtain ⟨b5, a2, s⟩ := bn s
  have a7 := bt3  r0 (show aa.t.R ({ Header := a0, Field := a1 } : aa) (.agg [vi a0, vi a1]) from rfl) 
  rw [a2] at a7
  have c3 : b5 ≤ 32 := bj7 a2
  refine cL a7 rfl rfl (ai (TR.clo ae.t r0) (ai (TR.clo aa.t (show aa.t.R ({ Header := a0, Field := a1 } : aa) (.agg [vi a0, vi a1]) from rfl)) bg)) ?_
  obtain ⟨d2, a8, s⟩ := bn s
  have b0 := ay3 (x0 := (ix (ix x1.Fields a0) a1)) (x1 := b5)  (by assumption)
  rw [a8] at b0
  refine cL b0 rfl rfl (ai rfl (ai rfl bg)) (ab (ks rfl) (nS ?_))
  refine ci s rfl ?_ ?_ <;> clear s <;> intro c s <;> try simp only [qa] at c
  ·refine sR (mI rfl (nS ?_))
   exact rR s rfl rfl rfl
  ·refine bb (de (am (ax (mV rfl (bN gm rfl rfl (mV rfl (bp (di ?_))))))))
   have hbd := ee a3
   have hinc : wr (a1 + 1) = a1 + 1 := gb (by omega) (by omega)
   erw [hinc]
   exact wC (ih   (by omega) (by omega) s) rfl

theorem yd {S : List Fr} {res : Int} {x0 : ae} {x1 : av} {a8 : Bool} {v0 v1 : PV} (r0 : ae.t.R x0 v0) (r1 : av.t.R x1 v1) (a6 : ka x0 x1 = a8) (a1 : (!a8) = false) {K0 : Unit → Int}
  (b3 : K0 () = res → PX Tryz.prog 0 S (QR Tryz.prog [(4, none)] (RF21 res)) [(2, .fp v0), (3, .fp v1)] ⟨0, []⟩) :
  ∀ {m : Nat} {a2 : Int} (b0 : m = Int.toNat ((x1.Fields.length : Int) - a2)) (a4 : 0 ≤ a2), lh x0 x1 K0 m a2 = res → RC Tryz.prog (.loop cj8) S (QR Tryz.prog [(4, none)] (RF21 res)) [(5, vi a2), (3, .fp v1), (2, .fp v0)] ⟨0, []⟩ := by
 have a3 := a1
 try simp only [qa] at a3
 intro m
 induction m with
 | zero =>
  intro a2 b0 a4 s
  rw [lh] at s
  refine ct (aq (sR (mV rfl (gL (av.g_Fields r1) rfl rfl rfl fun b2 a9 => (ab (cy rfl (cm a9 Tryz.underlying42 _)) (bN cz rfl rfl (nS ?_)))))))
  refine cj rfl ?_ ?_ <;> intro c <;> try simp only [qa] at c
  ·omega
  refine ft (gk (ej ?_))
  exact wP (b3  s) rfl
 | succ m ih =>
  intro a2 b0 a4 s
  rw [lh] at s
  refine ct (aq (sR (mV rfl (gL (av.g_Fields r1) rfl rfl rfl fun b1 a7 => (ab (cy rfl (cm a7 Tryz.underlying42 _)) (bN cz rfl rfl (nS ?_)))))))
  refine cj rfl (fun a0 => ?_) (fun a0 => ?_)
  ·have hgo := s
   have a5 := a0
   try simp only [qa] at a5
   refine bb (am (aq (br (sR (mI rfl (nS (br ?_)))))))
   refine wC (zr r0 r1 a6 a1 a4 a0 ?_  rfl (by omega) s) rfl
   ·intro  s
    refine gw (de (am (ax (mV rfl (bN gm rfl rfl (mV rfl (bp (di ?_))))))))
    have hbd := ee a7
    have hinc : wr (a2 + 1) = a2 + 1 := gb (by omega) (by omega)
    erw [hinc]
    exact wC (ih   (by omega) (by omega) s) rfl
  ·exfalso
   try simp only [qa] at a0
   omega

theorem ya {S : List Fr} {res : Int} {x0 : ae} {x1 : av} {a9 : Bool} {v0 v1 : PV} (r0 : ae.t.R x0 v0) (r1 : av.t.R x1 v1) (b3 : ka x0 x1 = a9) (a3 : (!a9) = false) {K4 : Unit → Int}
  (b6 : K4 () = res → PX Tryz.prog 4 S (QR Tryz.prog [(4, none)] (RF21 res)) [(3, .fp v1)] ⟨0, []⟩) :
  ∀ {m : Nat} {a0 : Int} (b5 : m = Int.toNat ((x1.Metd.length : Int) - a0)) (b0 : 0 ≤ a0), ld x0 x1 K4 m a0 = res → RC Tryz.prog (.loop cn4) S (QR Tryz.prog [(4, none)] (RF21 res)) [(7, vi a0), (3, .fp v1), (2, .fp v0)] ⟨0, []⟩ := by
 have a2 := a3
 try simp only [qa] at a2
 intro m
 induction m with
 | zero =>
  intro a0 b5 b0 s
  rw [ld] at s
  refine ct (aq (sR (mV rfl (gL (av.g_Meta r1) rfl rfl rfl fun b9 b1 => (ab (cy rfl (cm b1 Tryz.underlying43 _)) (bN cz rfl rfl (nS ?_)))))))
  refine cj rfl ?_ ?_ <;> intro c <;> try simp only [qa] at c
  ·omega
  refine ft (gk (ej ?_))
  exact wP (b6  s) rfl
 | succ m ih =>
  intro a0 b5 b0 s
  rw [ld] at s
  refine ct (aq (sR (mV rfl (gL (av.g_Meta r1) rfl rfl rfl fun b8 a7 => (ab (cy rfl (cm a7 Tryz.underlying43 _)) (bN cz rfl rfl (nS ?_)))))))
  refine cj rfl ?_ ?_ <;> intro c <;> try simp only [qa] at c
  rotate_left
  ·omega
  refine bb (am (aq (br (sR (gL (av.g_Meta r1) rfl rfl rfl fun b7 b2 => (mV rfl (ab (bh rfl rfl (uf b2 (by omega) (by omega))) (lR rfl rfl rfl ?_))))))))
  refine lD r0 rfl rfl rfl (mV rfl (ab (v := .agg [vi (-1), vi a0]) (fu (cs := [vi (-1), vi a0]) rfl rfl) ?_))
  obtain ⟨a4, a1, s⟩ := bn s
  have a5 := bt3  r0 (show aa.t.R ({ Header := (-1), Field := a0 } : aa) (.agg [vi (-1), vi a0]) from rfl) 
  rw [a1] at a5
  have b4 : a4 ≤ 32 := bj7 a1
  refine cL a5 rfl rfl (ai (TR.clo ae.t r0) (ai (TR.clo aa.t (show aa.t.R ({ Header := (-1), Field := a0 } : aa) (.agg [vi (-1), vi a0]) from rfl)) bg)) ?_
  obtain ⟨c0, a6, s⟩ := bn s
  have a8 := ay3 (x0 := (ix x1.Metd a0)) (x1 := a4)  (by assumption)
  rw [a6] at a8
  refine cL a8 rfl rfl (ai rfl (ai rfl bg)) (ab (ks rfl) (nS ?_))
  refine ci s rfl ?_ ?_ <;> clear s <;> intro c s <;> try simp only [qa] at c
  ·refine sR (mI rfl (nS ?_))
   exact rR s rfl rfl rfl
  ·refine bb (de (am (ax (mV rfl (bN gm rfl rfl (mV rfl (bp (di ?_))))))))
   have hbd := ee a7
   have hinc : wr (a0 + 1) = a0 + 1 := gb (by omega) (by omega)
   erw [hinc]
   exact wC (ih   (by omega) (by omega) s) rfl

theorem yy {S : List Fr} {res : Int} {x0 : ae} {x1 : av} {b0 : Bool} {a0 : Int} {v1 : PV} (r1 : av.t.R x1 v1) (c1 : ka x0 x1 = b0) (a8 : (!b0) = false) (d1 : 0 ≤ a0) (a9 : (decide (a0 < (x1.Fields.length : Int))) = true) {K8 : Unit → Int}
  (c8 : K8 () = res → PX Tryz.prog 8 S (QR Tryz.prog [(4, none)] (RF21 res)) [(3, .fp v1), (8, vi a0)] ⟨0, []⟩) :
  ∀ {m : Nat} {a1 : Int} (c2 : m = Int.toNat (((ix x1.Fields a0).length : Int) - a1)) (b1 : 0 ≤ a1), lg x1 a0 K8 m a1 = res → RC Tryz.prog (.loop cu4) S (QR Tryz.prog [(4, none)] (RF21 res)) [(9, vi a1), (8, vi a0), (3, .fp v1)] ⟨0, []⟩ := by
 have a4 := a8
 try simp only [qa] at a4
 have a2 := a9
 try simp only [qa] at a2
 intro m
 induction m with
 | zero =>
  intro a1 c2 b1 s
  rw [lg] at s
  refine ct (aq (sR (mV rfl (gL (av.g_Fields r1) rfl rfl rfl fun d0 b7 => (mV rfl ?_)))))
  obtain ⟨c3, b5, b2⟩ := dt (i := a0) b7 (by omega) (by omega)
  refine ab (bh rfl rfl b5) (lD b2 rfl rfl rfl (ab (cy rfl (cm b2 Tryz.underlying43 _)) (bN cz rfl rfl (nS ?_))))
  refine cj rfl ?_ ?_ <;> intro c <;> try simp only [qa] at c
  ·omega
  refine ft (gk (ej ?_))
  exact wP (c8  s) rfl
 | succ m ih =>
  intro a1 c2 b1 s
  rw [lg] at s
  refine ct (aq (sR (mV rfl (gL (av.g_Fields r1) rfl rfl rfl fun c4 b4 => (mV rfl ?_)))))
  obtain ⟨c7, b9, a5⟩ := dt (i := a0) b4 (by omega) (by omega)
  refine ab (bh rfl rfl b9) (lD a5 rfl rfl rfl (ab (cy rfl (cm a5 Tryz.underlying43 _)) (bN cz rfl rfl (nS ?_))))
  refine cj rfl ?_ ?_ <;> intro c <;> try simp only [qa] at c
  rotate_left
  ·omega
  refine bb (am (aq (br (sR (gL (av.g_Valid r1) rfl rfl rfl fun c5 b8 => (mV rfl (ab (bh rfl rfl (slB b8 (by omega) (by ((have hk := bw5 (by assumption) (by assumption); omega))))) (lR rfl rfl rfl ?_))))))))
  refine ab (ks rfl) (mV rfl ?_)
  refine cn 10 (d := 97) (v := vb ((!(ix x1.Valid a0)) && (!decide ((ix (ix x1.Fields a0) a1) = 0#32)))) ?_ ?_
  ·intro S Q r
   cases b3 : (!(ix x1.Valid a0))
   ·exact gN 9 rfl rfl rfl rfl rfl rfl
   ·intro k
    have a6 := b3
    try simp only [qa] at a6
    obtain ⟨c6, c0, a7⟩ := av.g_Fields r1
    refine ah rfl rfl (cd rfl c0) (ah rfl rfl (ca rfl (TR.cnt (tSl (tSl dm)) a7) (TR.agg (tSl (tSl dm)) a7)) (ah rfl rfl (au rfl) ?_))
    obtain ⟨c9, b6, a3⟩ := dt (i := a0) a7 (by omega) (by omega)
    refine ah rfl rfl (bh rfl rfl b6) (ah rfl rfl (ca rfl (TR.cnt (tSl dm) a3) (TR.agg (tSl dm) a3)) (ah rfl rfl (au rfl) (ah rfl rfl (bh rfl rfl (uf a3 (by omega) (by omega))) (ah rfl rfl (ca rfl rfl rfl) (ah rfl rfl (bz (a := bm (ix (ix x1.Fields a0) a1)) (b := bm 0#32) rfl rfl cb7) ?_)))))
    exact gK rfl rfl rfl rfl rfl k
  refine nS ?_
  refine ci s rfl ?_ ?_ <;> clear s <;> intro c s <;> try simp only [qa] at c
  ·refine sR (mI rfl (nS ?_))
   exact rR s rfl rfl rfl
  ·refine bb (de (am (ax (mV rfl (bN gm rfl rfl (mV rfl (bp (di ?_))))))))
   have hbd := ee a5
   have hinc : wr (a1 + 1) = a1 + 1 := gb (by omega) (by omega)
   erw [hinc]
   exact wC (ih   (by omega) (by omega) s) rfl

theorem yc {S : List Fr} {res : Int} {x0 : ae} {x1 : av} {a7 : Bool} {v1 : PV} (r1 : av.t.R x1 v1) (a6 : ka x0 x1 = a7) (a1 : (!a7) = false) {K6 : Unit → Int}
  (b2 : K6 () = res → PX Tryz.prog 6 S (QR Tryz.prog [(4, none)] (RF21 res)) [] ⟨0, []⟩) :
  ∀ {m : Nat} {a2 : Int} (b0 : m = Int.toNat ((x1.Fields.length : Int) - a2)) (a5 : 0 ≤ a2), lf x1 K6 m a2 = res → RC Tryz.prog (.loop cu3) S (QR Tryz.prog [(4, none)] (RF21 res)) [(8, vi a2), (3, .fp v1)] ⟨0, []⟩ := by
 have a4 := a1
 try simp only [qa] at a4
 intro m
 induction m with
 | zero =>
  intro a2 b0 a5 s
  rw [lf] at s
  refine ct (aq (sR (mV rfl (gL (av.g_Fields r1) rfl rfl rfl fun b1 a9 => (ab (cy rfl (cm a9 Tryz.underlying42 _)) (bN cz rfl rfl (nS ?_)))))))
  refine cj rfl ?_ ?_ <;> intro c <;> try simp only [qa] at c
  ·omega
  refine ft (gk (ej ?_))
  exact wP (b2  s) rfl
 | succ m ih =>
  intro a2 b0 a5 s
  rw [lf] at s
  refine ct (aq (sR (mV rfl (gL (av.g_Fields r1) rfl rfl rfl fun b3 a8 => (ab (cy rfl (cm a8 Tryz.underlying42 _)) (bN cz rfl rfl (nS ?_)))))))
  refine cj rfl (fun a0 => ?_) (fun a0 => ?_)
  ·have hgo := s
   have a3 := a0
   try simp only [qa] at a3
   refine bb (am (aq (br (sR (mI rfl (nS (br ?_)))))))
   refine wC (yy r1 a6 a1 a5 a0 ?_  rfl (by omega) s) rfl
   ·intro  s
    refine gw (de (am (ax (mV rfl (bN gm rfl rfl (mV rfl (bp (di ?_))))))))
    have hbd := ee a8
    have hinc : wr (a2 + 1) = a2 + 1 := gb (by omega) (by omega)
    erw [hinc]
    exact wC (ih   (by omega) (by omega) s) rfl
  ·exfalso
   try simp only [qa] at a0
   omega

theorem dg6 {x0 : ae} {x1 : av} {v0 v1 : PV} (r0 : ae.t.R x0 v0) (r1 : av.t.R x1 v1) : FnR Tryz.prog 21 [v0, v1] (vi (qt x0 x1)) := by
 refine fnS (R := RF21) dd9 (fun _ h => h) rfl fun res s => ?_
 unfold qt at s
 refine sR (ab (dq rfl (TR.cnt ae.t r0)) (ab (dq rfl (TR.cnt av.t r1)) (mI rfl (nS (aq (sR (lD r0 rfl rfl rfl (lD r1 rfl rfl rfl ?_))))))))
 obtain ⟨a4, a1, s⟩ := bn s
 have a3 := db1  r0 r1 
 rw [a1] at a3
 refine cL a3 rfl rfl (ai (TR.clo ae.t r0) (ai (TR.clo av.t r1) bg)) (ab (ks rfl) (nS ?_))
 refine ci s rfl ?_ ?_ <;> clear s <;> intro a0 s <;> have a2 := a0 <;> try simp only [qa] at a2
 ·refine sR (mI rfl (nS ?_))
  exact rR s rfl rfl rfl
 ·refine bb (am (aq (sR (mI rfl (nS (br ?_))))))
  refine wC (yd r0 r1 a1 a0 ?_  rfl (by omega) s) rfl
  ·intro  s
   refine gw (am (aq (sR (mI rfl (nS (br ?_))))))
   refine wC (ya r0 r1 a1 a0 ?_  rfl (by omega) s) rfl
   ·intro  s
    refine gw (am (aq (sR (mI rfl (nS (br ?_))))))
    refine wC (yc r1 a1 a0 ?_  rfl (by omega) s) rfl
    ·intro  s
     refine gw (am (sR (mI rfl (nS ?_))))
     exact rR s rfl rfl rfl

end Go.Proofs.YtmonnlkagniolaaGreat
