/-
 The code of each function does what its plain program says.
-/
import Derived.Test.YtmonnlkagniolaaGreatKDef
import Derived.Test.YtmonnlkagniolaaGreatL7Text
import Derived.Test.YtmonnlkagniolaaGreatPbV
import Derived.Test.YtmonnlkagniolaaGreatKEo
import Derived.Test.YtmonnlkagniolaaGreatKPmKpKx
import Derived.Test.YtmonnlkagniolaaGreatKPmKpKx
import Derived.Test.YtmonnlkagniolaaGreatKExEv
import Derived.Test.YtmonnlkagniolaaGreatL7Run
set_option linter.unusedVariables false
set_option linter.unusedSimpArgs false
set_option maxRecDepth 100000
namespace Go.Proofs.YtmonnlkagniolaaGreat
open Go Go.Pb Go.RowKit
def RF33 (res : Bool) (r : PV) : Prop := r = vb res
theorem yl {S : List Fr} {res : Bool} {x0 : af} {a0 : Int} {v0 : PV} (r0 : af.t.R x0 v0) (b3 : ((((decide (20 < (x0.Headers.length : Int))) || (decide (30 < (x0.Metadata.length : Int)))) || (decide (20 < (x0.Registers.length : Int)))) || (decide (40 < (x0.Actions.length : Int)))) = false) (f2 : 0 ≤ a0) (b1 : (decide (a0 < (x0.Actions.length : Int))) = true) (b4 : ((decide (20 < (((ix x0.Actions a0).Params).length : Int))) || (decide (30 < (((ix x0.Actions a0).Body).length : Int)))) = false) {K2 : Unit → Bool}
  (e2 : K2 () = res → PX Tryz.prog 2 S (QR Tryz.prog [(2, none)] (RF33 res)) [(1, .fp v0), (3, vi a0)] ⟨0, []⟩) :
  ∀ {m : Nat} {a1 : Int} (d9 : m = Int.toNat ((((ix x0.Actions a0).Body).length : Int) - a1)) (b2 : 0 ≤ a1), oz x0 a0 K2 m a1 = res → RC Tryz.prog (.loop cr1) S (QR Tryz.prog [(2, none)] (RF33 res)) [(4, vi a1), (3, vi a0), (1, .fp v0)] ⟨0, []⟩ := by
 have a7 := b3
 try simp only [qa] at a7
 have a3 := b1
 try simp only [qa] at a3
 have a5 := b4
 try simp only [qa] at a5
 intro m
 induction m with
 | zero =>
  intro a1 d9 b2 s
  rw [oz] at s
  refine de (au (sR (mV rfl (gL (af.g_Actions r0) rfl rfl rfl fun e0 d6 => (mV rfl ?_)))))
  obtain ⟨f1, d8, d7⟩ := cr (i := a0) d6 (by omega) (by omega)
  refine ae (bh rfl rfl d8) (gL (bz.g_Body d7) rfl rfl rfl fun f4 d3 => (ae (cy rfl (co d3 Tryz.underlying95 _)) (bN ct rfl rfl (nS ?_))))
  refine cw rfl ?_ ?_ <;> intro c <;> try simp only [qa] at c
  ·omega
  refine fc (gh (dy ?_))
  exact wP (e2  s) rfl
 | succ m ih =>
  intro a1 d9 b2 s
  rw [oz] at s
  refine de (au (sR (mV rfl (gL (af.g_Actions r0) rfl rfl rfl fun e6 b6 => (mV rfl ?_)))))
  obtain ⟨e8, c6, b9⟩ := cr (i := a0) b6 (by omega) (by omega)
  refine ae (bh rfl rfl c6) (gL (bz.g_Body b9) rfl rfl rfl fun f7 a9 => (ae (cy rfl (co a9 Tryz.underlying95 _)) (bN ct rfl rfl (nS ?_))))
  refine cw rfl ?_ ?_ <;> intro c <;> try simp only [qa] at c
  rotate_left
  ·omega
  refine ba (aq (au (cb (sR (gL (af.g_Actions r0) rfl rfl rfl fun e5 d1 => (mV rfl ?_))))))
  obtain ⟨e7, c4, b8⟩ := cr (i := a0) d1 (by omega) (by omega)
  refine ae (bh rfl rfl c4) (gL (bz.g_Body b8) rfl rfl rfl fun e1 d4 => (mV rfl ?_))
  obtain ⟨e3, c9, d0⟩ := cr (i := a1) d4 (by omega) (by omega)
  refine ae (bh rfl rfl c9) (gL (av.g_Index d0) rfl rfl rfl fun f0 b5 => (ae (cy rfl (co b5 Tryz.underlying32 _)) (bN ki rfl rfl (mV rfl ?_))))
  refine bw 13 (d := 90) (v := vb ((decide (60 < (((ix ((ix x0.Actions a0).Body) a1).Index).length : Int))) || (decide (60 < (((ix ((ix x0.Actions a0).Body) a1).Value).length : Int))))) ?_ ?_
  ·intro S Q r
   cases b0 : (decide (60 < (((ix ((ix x0.Actions a0).Body) a1).Index).length : Int)))
   ·intro k
    have a2 := b0
    try simp only [qa] at a2
    obtain ⟨f6, c7, a8⟩ := af.g_Actions r0
    refine ah rfl rfl (br rfl c7) (ah rfl rfl (bq rfl (TR.cnt (tSl bz.t) a8) (TR.agg (tSl bz.t) a8)) (ah rfl rfl (ax rfl) ?_))
    obtain ⟨e4, c5, c1⟩ := cr (i := a0) a8 (by omega) (by omega)
    refine ah rfl rfl (bh rfl rfl c5) ?_
    obtain ⟨f3, c8, a4⟩ := bz.g_Body c1
    refine ah rfl rfl (br rfl c8) (ah rfl rfl (bq rfl (TR.cnt (tSl av.t) a4) (TR.agg (tSl av.t) a4)) (ah rfl rfl (ax rfl) ?_))
    obtain ⟨e9, b7, d5⟩ := cr (i := a1) a4 (by omega) (by omega)
    refine ah rfl rfl (bh rfl rfl b7) ?_
    obtain ⟨f5, d2, a6⟩ := av.g_Value d5
    refine ah rfl rfl (br rfl d2) (ah rfl rfl (bq rfl (TR.cnt (tSl aa.t) a6) (TR.agg (tSl aa.t) a6)) (ah rfl rfl (cy rfl (co a6 Tryz.underlying32 _)) (ah rfl rfl (bp rfl rfl ki) ?_)))
    exact gK rfl rfl rfl rfl rfl k
   ·exact gN 12 rfl rfl rfl rfl rfl rfl
  refine nS ?_
  refine bt s rfl ?_ ?_ <;> clear s <;> intro c s <;> try simp only [qa] at c
  ·refine sR (mB rfl (nS ?_))
   exact rR s rfl rfl rfl
  ·refine ba (dj (aq (bb (mV rfl (bN fy rfl rfl (mV rfl (cf (du ?_))))))))
   have hbd := fg a9
   have u : wr (a1 + 1) = a1 + 1 := ek (by omega) (by omega)
   erw [u]
   exact wC (ih   (by omega) (by omega) s) rfl

theorem zi {S : List Fr} {res : Bool} {x0 : af} {v0 : PV} (r0 : af.t.R x0 v0) (a2 : ((((decide (20 < (x0.Headers.length : Int))) || (decide (30 < (x0.Metadata.length : Int)))) || (decide (20 < (x0.Registers.length : Int)))) || (decide (40 < (x0.Actions.length : Int)))) = false) {K0 : Unit → Bool}
  (d1 : K0 () = res → PX Tryz.prog 0 S (QR Tryz.prog [(2, none)] (RF33 res)) [(1, .fp v0)] ⟨0, []⟩) :
  ∀ {m : Nat} {a1 : Int} (c5 : m = Int.toNat ((x0.Actions.length : Int) - a1)) (a7 : 0 ≤ a1), oq x0 K0 m a1 = res → RC Tryz.prog (.loop cm2) S (QR Tryz.prog [(2, none)] (RF33 res)) [(3, vi a1), (1, .fp v0)] ⟨0, []⟩ := by
 have b0 := a2
 try simp only [qa] at b0
 intro m
 induction m with
 | zero =>
  intro a1 c5 a7 s
  rw [oq] at s
  refine de (au (sR (mV rfl (gL (af.g_Actions r0) rfl rfl rfl fun c6 b8 => (ae (cy rfl (co b8 Tryz.underlying25 _)) (bN ct rfl rfl (nS ?_)))))))
  refine cw rfl ?_ ?_ <;> intro c <;> try simp only [qa] at c
  ·omega
  refine fc (gh (dy ?_))
  exact wP (d1  s) rfl
 | succ m ih =>
  intro a1 c5 a7 s
  rw [oq] at s
  refine de (au (sR (mV rfl (gL (af.g_Actions r0) rfl rfl rfl fun d4 b1 => (ae (cy rfl (co b1 Tryz.underlying25 _)) (bN ct rfl rfl (nS ?_)))))))
  refine cw rfl (fun a0 => ?_) (fun a0 => ?_)
  ·have hgo := s
   have a6 := a0
   try simp only [qa] at a6
   refine ba (aq (au (cb (au (sR (gL (af.g_Actions r0) rfl rfl rfl fun d0 b4 => (mV rfl ?_)))))))
   obtain ⟨c9, c4, c1⟩ := cr (i := a1) b4 (by omega) (by omega)
   refine ae (bh rfl rfl c4) (gL (bz.g_Params c1) rfl rfl rfl fun d3 b9 => (ae (cy rfl (co b9 Tryz.underlying23 _)) (bN ki rfl rfl (mV rfl ?_))))
   refine bw 9 (d := 53) (v := vb ((decide (20 < (((ix x0.Actions a1).Params).length : Int))) || (decide (30 < (((ix x0.Actions a1).Body).length : Int))))) ?_ ?_
   ·intro S Q r
    cases b2 : (decide (20 < (((ix x0.Actions a1).Params).length : Int)))
    ·intro k
     have a8 := b2
     try simp only [qa] at a8
     obtain ⟨d2, b6, a4⟩ := af.g_Actions r0
     refine ah rfl rfl (br rfl b6) (ah rfl rfl (bq rfl (TR.cnt (tSl bz.t) a4) (TR.agg (tSl bz.t) a4)) (ah rfl rfl (ax rfl) ?_))
     obtain ⟨c8, b5, b7⟩ := cr (i := a1) a4 (by omega) (by omega)
     refine ah rfl rfl (bh rfl rfl b5) ?_
     obtain ⟨c7, b3, a5⟩ := bz.g_Body b7
     refine ah rfl rfl (br rfl b3) (ah rfl rfl (bq rfl (TR.cnt (tSl av.t) a5) (TR.agg (tSl av.t) a5)) (ah rfl rfl (cy rfl (co a5 Tryz.underlying95 _)) (ah rfl rfl (bp rfl rfl ki) ?_)))
     exact gK rfl rfl rfl rfl rfl k
    ·exact gN 8 rfl rfl rfl rfl rfl rfl
   refine nS ?_
   refine bt s rfl ?_ ?_ <;> clear s <;> intro a3 s <;> have a9 := a3 <;> try simp only [qa] at a9
   ·refine sR (mB rfl (nS ?_))
    exact rR s rfl rfl rfl
   ·refine ba (aq (sR (mI rfl (nS (cb ?_)))))
    refine wC (yl r0 a2 a7 a0 a3 ?_  rfl (by omega) s) rfl
    ·intro  s
     refine gy (dj (aq (bb (mV rfl (bN fy rfl rfl (mV rfl (cf (du ?_))))))))
     have hbd := fg b1
     have u : wr (a1 + 1) = a1 + 1 := ek (by omega) (by omega)
     erw [u]
     exact wC (ih   (by omega) (by omega) s) rfl
  ·exfalso
   try simp only [qa] at a0
   omega

theorem zh {S : List Fr} {res : Bool} {x0 : af} {v0 : PV} (r0 : af.t.R x0 v0) (a3 : ((((decide (20 < (x0.Headers.length : Int))) || (decide (30 < (x0.Metadata.length : Int)))) || (decide (20 < (x0.Registers.length : Int)))) || (decide (40 < (x0.Actions.length : Int)))) = false) {K4 : Unit → Bool}
  (b5 : K4 () = res → PX Tryz.prog 4 S (QR Tryz.prog [(2, none)] (RF33 res)) [(1, .fp v0)] ⟨0, []⟩) :
  ∀ {m : Nat} {a0 : Int} (b0 : m = Int.toNat ((x0.Headers.length : Int) - a0)) (a4 : 0 ≤ a0), ow x0 K4 m a0 = res → RC Tryz.prog (.loop cp0) S (QR Tryz.prog [(2, none)] (RF33 res)) [(5, vi a0), (1, .fp v0)] ⟨0, []⟩ := by
 have a1 := a3
 try simp only [qa] at a1
 intro m
 induction m with
 | zero =>
  intro a0 b0 a4 s
  rw [ow] at s
  refine de (au (sR (mV rfl (gL (af.g_Headers r0) rfl rfl rfl fun b6 a9 => (ae (cy rfl (co a9 Tryz.underlying22 _)) (bN ct rfl rfl (nS ?_)))))))
  refine cw rfl ?_ ?_ <;> intro c <;> try simp only [qa] at c
  ·omega
  refine fc (gh (dy ?_))
  exact wP (b5  s) rfl
 | succ m ih =>
  intro a0 b0 a4 s
  rw [ow] at s
  refine de (au (sR (mV rfl (gL (af.g_Headers r0) rfl rfl rfl fun b2 a2 => (ae (cy rfl (co a2 Tryz.underlying22 _)) (bN ct rfl rfl (nS ?_)))))))
  refine cw rfl ?_ ?_ <;> intro c <;> try simp only [qa] at c
  rotate_left
  ·omega
  refine ba (aq (au (cb (sR (gL (af.g_Headers r0) rfl rfl rfl fun b3 a5 => (mV rfl ?_))))))
  obtain ⟨b4, a8, a7⟩ := cr (i := a0) a5 (by omega) (by omega)
  refine ae (bh rfl rfl a8) (gL (cm.g_Fields a7) rfl rfl rfl fun b1 a6 => (ae (cy rfl (co a6 Tryz.underlying23 _)) (bN ki rfl rfl (nS ?_))))
  refine bt s rfl ?_ ?_ <;> clear s <;> intro c s <;> try simp only [qa] at c
  ·refine sR (mB rfl (nS ?_))
   exact rR s rfl rfl rfl
  ·refine ba (dj (aq (bb (mV rfl (bN fy rfl rfl (mV rfl (cf (du ?_))))))))
   have hbd := fg a2
   have u : wr (a0 + 1) = a0 + 1 := ek (by omega) (by omega)
   erw [u]
   exact wC (ih   (by omega) (by omega) s) rfl

theorem zt {S : List Fr} {res : Bool} {x0 : af} {v0 : PV} (r0 : af.t.R x0 v0) (a2 : ((((decide (20 < (x0.Headers.length : Int))) || (decide (30 < (x0.Metadata.length : Int)))) || (decide (20 < (x0.Registers.length : Int)))) || (decide (40 < (x0.Actions.length : Int)))) = false) {K6 : Unit → Bool}
  (b0 : K6 () = res → PX Tryz.prog 6 S (QR Tryz.prog [(2, none)] (RF33 res)) [] ⟨0, []⟩) :
  ∀ {m : Nat} {a0 : Int} (a9 : m = Int.toNat ((x0.Registers.length : Int) - a0)) (a3 : 0 ≤ a0), pa x0 K6 m a0 = res → RC Tryz.prog (.loop cy6) S (QR Tryz.prog [(2, none)] (RF33 res)) [(6, vi a0), (1, .fp v0)] ⟨0, []⟩ := by
 have a1 := a2
 try simp only [qa] at a1
 intro m
 induction m with
 | zero =>
  intro a0 a9 a3 s
  rw [pa] at s
  refine de (au (sR (mV rfl (gL (af.g_Registers r0) rfl rfl rfl fun b2 a7 => (ae (cy rfl (co a7 Tryz.underlying24 _)) (bN ct rfl rfl (nS ?_)))))))
  refine cw rfl ?_ ?_ <;> intro c <;> try simp only [qa] at c
  ·omega
  refine fc (gh (dy ?_))
  exact wP (b0  s) rfl
 | succ m ih =>
  intro a0 a9 a3 s
  rw [pa] at s
  refine de (au (sR (mV rfl (gL (af.g_Registers r0) rfl rfl rfl fun b4 a4 => (ae (cy rfl (co a4 Tryz.underlying24 _)) (bN ct rfl rfl (nS ?_)))))))
  refine cw rfl ?_ ?_ <;> intro c <;> try simp only [qa] at c
  rotate_left
  ·omega
  refine ba (aq (au (cb (sR (gL (af.g_Registers r0) rfl rfl rfl fun b1 a6 => (mV rfl ?_))))))
  obtain ⟨b3, a8, a5⟩ := cr (i := a0) a6 (by omega) (by omega)
  refine ae (bh rfl rfl a8) (fL rfl (cg.g_Size a5) rfl rfl (bN ki rfl rfl (nS ?_)))
  refine bt s rfl ?_ ?_ <;> clear s <;> intro c s <;> try simp only [qa] at c
  ·refine sR (mB rfl (nS ?_))
   exact rR s rfl rfl rfl
  ·refine ba (dj (aq (bb (mV rfl (bN fy rfl rfl (mV rfl (cf (du ?_))))))))
   have hbd := fg a4
   have u : wr (a0 + 1) = a0 + 1 := ek (by omega) (by omega)
   erw [u]
   exact wC (ih   (by omega) (by omega) s) rfl

theorem dq1 {x0 : af} {v0 : PV} (r0 : af.t.R x0 v0) : FnR Tryz.prog 33 [v0] (vb (vx x0)) := by
 refine fnS (R := RF33) do3 (fun _ h => h) rfl fun res s => ?_
 unfold vx at s
 refine sR (ae (cz rfl (TR.cnt af.t r0)) (mB rfl (nS (au (sR (gL (af.g_Headers r0) rfl rfl rfl fun b8 b4 => (ae (cy rfl (co b4 Tryz.underlying22 _)) (bN ki rfl rfl ?_))))))))
 refine mV rfl ?_
 refine bw 5 (d := 16) (v := vb ((decide (20 < (x0.Headers.length : Int))) || (decide (30 < (x0.Metadata.length : Int))))) ?_ ?_
 ·intro S Q r
  cases a9 : (decide (20 < (x0.Headers.length : Int)))
  ·intro k
   have a3 := a9
   try simp only [qa] at a3
   obtain ⟨b7, b3, a1⟩ := af.g_Metadata r0
   refine ah rfl rfl (br rfl b3) (ah rfl rfl (bq rfl (TR.cnt (tSl aw.t) a1) (TR.agg (tSl aw.t) a1)) (ah rfl rfl (cy rfl (co a1 Tryz.underlying23 _)) (ah rfl rfl (bp rfl rfl ki) ?_)))
   exact gK rfl rfl rfl rfl rfl k
  ·exact gN 4 rfl rfl rfl rfl rfl rfl
 refine mV rfl ?_
 refine bw 5 (d := 22) (v := vb (((decide (20 < (x0.Headers.length : Int))) || (decide (30 < (x0.Metadata.length : Int)))) || (decide (20 < (x0.Registers.length : Int))))) ?_ ?_
 ·intro S Q r
  cases a8 : ((decide (20 < (x0.Headers.length : Int))) || (decide (30 < (x0.Metadata.length : Int))))
  ·intro k
   have a4 := a8
   try simp only [qa] at a4
   obtain ⟨b5, b2, a5⟩ := af.g_Registers r0
   refine ah rfl rfl (br rfl b2) (ah rfl rfl (bq rfl (TR.cnt (tSl cg.t) a5) (TR.agg (tSl cg.t) a5)) (ah rfl rfl (cy rfl (co a5 Tryz.underlying24 _)) (ah rfl rfl (bp rfl rfl ki) ?_)))
   exact gK rfl rfl rfl rfl rfl k
  ·exact gN 4 rfl rfl rfl rfl rfl rfl
 refine mV rfl ?_
 refine bw 5 (d := 28) (v := vb ((((decide (20 < (x0.Headers.length : Int))) || (decide (30 < (x0.Metadata.length : Int)))) || (decide (20 < (x0.Registers.length : Int)))) || (decide (40 < (x0.Actions.length : Int))))) ?_ ?_
 ·intro S Q r
  cases b0 : (((decide (20 < (x0.Headers.length : Int))) || (decide (30 < (x0.Metadata.length : Int)))) || (decide (20 < (x0.Registers.length : Int))))
  ·intro k
   have a2 := b0
   try simp only [qa] at a2
   obtain ⟨b6, b1, a6⟩ := af.g_Actions r0
   refine ah rfl rfl (br rfl b1) (ah rfl rfl (bq rfl (TR.cnt (tSl bz.t) a6) (TR.agg (tSl bz.t) a6)) (ah rfl rfl (cy rfl (co a6 Tryz.underlying25 _)) (ah rfl rfl (bp rfl rfl ki) ?_)))
   exact gK rfl rfl rfl rfl rfl k
  ·exact gN 4 rfl rfl rfl rfl rfl rfl
 refine nS ?_
 refine bt s rfl ?_ ?_ <;> clear s <;> intro a0 s <;> have a7 := a0 <;> try simp only [qa] at a7
 ·refine sR (mB rfl (nS ?_))
  exact rR s rfl rfl rfl
 ·refine ba (aq (au (sR (mI rfl (nS (cb ?_))))))
  refine wC (zi r0 a0 ?_  rfl (by omega) s) rfl
  ·intro  s
   refine gy (aq (au (sR (mI rfl (nS (cb ?_))))))
   refine wC (zh r0 a0 ?_  rfl (by omega) s) rfl
   ·intro  s
    refine gy (aq (au (sR (mI rfl (nS (cb ?_))))))
    refine wC (zt r0 a0 ?_  rfl (by omega) s) rfl
    ·intro  s
     refine gy (aq (sR (mB rfl (nS ?_))))
     exact rR s rfl rfl rfl

theorem bs5 : FnR Tryz.prog 34 [] (vb tn) := ds9

def RF185 (res : (List Bool)) (r : PV) : Prop := (tSl tB).R res r
theorem xn {S : List Fr} {res : (List Bool)} {x0 : List (List Bool)} {v0 : PV} (r0 : (tSl (tSl tB)).R x0 v0) (hb : ∀ l ∈ x0, l.length ≤ 1048576) (hc : x0.length ≤ 1) {K0 : (List Bool) → (List Bool)}
  (c7 : ∀ {a1 : List Bool} {a0 : List PV} {a2 : PV} (a4 : All2 tB.R a1 a0) (a6 : isL a2 = true) (a3 : Wri a2 a0) (a5 : a1.length ≤ 4611686018427387904) {h : Heap} (M0 : Mem h [⟨a2, 4, 1, a0⟩]), K0 a1 = res → PX Tryz.prog 0 S (QR Tryz.prog [(2, none)] (RF185 res)) [(3, a2)] h) :
  ∀ {m : Nat} {a7 : Int} {a1 : List Bool} {a0 : List PV} {a2 : PV} (a4 : All2 tB.R a1 a0) (a6 : isL a2 = true) (a3 : Wri a2 a0) (a5 : a1.length ≤ 4611686018427387904) (c4 : m = Int.toNat ((x0.length : Int) - a7)) (b6 : 0 ≤ a7) (b0 : (a1.length : Int) ≤ 1048576 * a7) {h : Heap} (M0 : Mem h [⟨a2, 4, 1, a0⟩]), jf x0 K0 m a7 a1 = res → RC Tryz.prog (.loop ar7) S (QR Tryz.prog [(2, none)] (RF185 res)) [(8, vi a7), (7, vi (x0.length : Int)), (6, v0), (3, a2)] h := by
 have hb' := hb
 try simp only [qa] at hb'
 have hc' := hc
 try simp only [qa] at hc'
 intro m
 induction m with
 | zero =>
  intro a7 a1 a0 a2 a4 a6 a3 a5 c4 b6 b0 h M0 s
  rw [jf] at s
  refine de (sR (bN ct rfl rfl (nS (au ?_))))
  refine cw rfl ?_ ?_ <;> intro c <;> try simp only [qa] at c
  ·omega
  refine fc (gh (dy ?_))
  exact wP (c7 a4 a6 a3 a5 (Mem.sub M0 (.cons_cons _ .slnil)) s) rfl
 | succ m ih =>
  intro a7 a1 a0 a2 a4 a6 a3 a5 c4 b6 b0 h M0 s
  rw [jf] at s
  refine de (sR (bN ct rfl rfl (nS (au ?_))))
  refine cw rfl ?_ ?_ <;> intro c <;> try simp only [qa] at c
  rotate_left
  ·omega
  refine ba (aq (au (cb (sR ?_))))
  obtain ⟨c5, b8, b3⟩ := cr (i := a7) r0 (by omega) (by omega)
  refine ae (bh rfl rfl b8) (lD b3 rfl rfl rfl (mV rfl (nS (bb (mV rfl (mV rfl ?_))))))
  obtain ⟨a8, b2, a9⟩ := qr (t := tB) (h := h) b3
  have b1 : fits (a0.length + a8.length) 1 = true := by rw [All2.length_eq a4, All2.length_eq a9]; (try simp only [List.length_cons, List.length_nil]); exact li (by (have hk := ol hb (i := a7) (by omega) (by omega); omega)) (by (have hk := ol hb (i := a7) (by omega) (by omega); omega))
  refine pe (k := 0) (es := a0) (news := a8) M0 rfl rfl rfl a6 a3 b2 b1 (fun c6 c8 b9 b7 c1 => ?_)
  have b4 : All2 tB.R (a1 ++ (ix x0 a7)) (a0 ++ a8) := All2.app a4 a9
  have b5 : (a1 ++ (ix x0 a7)).length ≤ 4611686018427387904 := by rw [← All2.length_eq b4, List.length_append]; exact rz b1
  refine mV rfl (cf (dj (aq (bb (bN fy rfl rfl (mV rfl (cf (du ?_))))))))
  have hbd := fg r0
  have u : wr (a7 + 1) = a7 + 1 := ek (by omega) (by omega)
  erw [u]
  exact wC (ih  b4 b9 b7 b5 (by omega) (by omega) (by (have hk := ol hb (i := a7) (by omega) (by omega); simp only [List.length_append]; omega)) (Mem.sub c1 (.cons_cons _ .slnil)) s) rfl

theorem ei9 {x0 : List (List Bool)} {v0 : PV} (r0 : (tSl (tSl tB)).R x0 v0) (hb : ∀ l ∈ x0, l.length ≤ 1048576) (hc : x0.length ≤ 1) : ∃ r, FnR Tryz.prog 185 [v0] r ∧ (tSl tB).R (mo x0) r := by
 refine fnT (R := RF185) ap5 rfl fun res s => ?_
 unfold mo at s
 refine sR (ae (v := nilS) (ax rfl) (nR (ae (v := nilS) (ax rfl) (nS (au (sR (mV rfl (ae (cy rfl (co r0 Tryz.underlying213 _)) ?_))))))))
 refine mI rfl (nS (cb ?_))
 have b0 := mm (sz := 1) (es := []) (Mem.nil ⟨0, []⟩) 4 (.inl ⟨none, rfl, rfl⟩) (by simp)
 refine wC (xn r0 hb hc ?_  aL rfl (.inl rfl) (by decide) rfl (by omega) (by simp) (Mem.sub b0 (.cons_cons _ .slnil)) s) rfl
 ·intro a5 a4 a6 a2 a1 a3 a0 b1 a7 s
  refine gy (aq (sR (mV rfl (mV rfl (nS ?_)))))
  obtain ⟨b2, a9, a8⟩ := sf (P := Tryz.prog) (k := 0) (t := tB) a7 rfl a1 a2 (Nat.le_trans a0 (by decide))
  subst s
  exact dw (.tmp rfl .nil) a9 a8
def RF185x (R_ : List Ent) (res : (List Bool)) (r : PV) (h : Heap) : Prop := ∃ asR0_ : PV, ∃ esR0_ : List PV, Mem h (⟨asR0_, 4, 1, esR0_⟩ :: R_) ∧ (All2 tB.R res esR0_) ∧ (isL asR0_ = true) ∧ (res.length ≤ 4611686018427387904) ∧ (Wri asR0_ esR0_) ∧ r = asR0_
theorem vz {S : List Fr} {res : (List Bool)} {x0 : List (List Bool)} {v0 : PV} {R_ : List Ent} (r0 : (tSl (tSl tB)).R x0 v0) (hb : ∀ l ∈ x0, l.length ≤ 1048576) (hc : x0.length ≤ 1) {K0 : (List Bool) → (List Bool)}
  (c7 : ∀ {a1 : List Bool} {a0 : List PV} {a2 : PV} (a4 : All2 tB.R a1 a0) (a6 : isL a2 = true) (a3 : Wri a2 a0) (a5 : a1.length ≤ 4611686018427387904) {h : Heap} (M0 : Mem h (⟨a2, 4, 1, a0⟩ :: R_)), K0 a1 = res → PX Tryz.prog 0 S (retPost Tryz.prog [(2, none)] (RF185x R_ res)) [(3, a2)] h) :
  ∀ {m : Nat} {a7 : Int} {a1 : List Bool} {a0 : List PV} {a2 : PV} (a4 : All2 tB.R a1 a0) (a6 : isL a2 = true) (a3 : Wri a2 a0) (a5 : a1.length ≤ 4611686018427387904) (c4 : m = Int.toNat ((x0.length : Int) - a7)) (b6 : 0 ≤ a7) (b0 : (a1.length : Int) ≤ 1048576 * a7) {h : Heap} (M0 : Mem h (⟨a2, 4, 1, a0⟩ :: R_)), jf x0 K0 m a7 a1 = res → RC Tryz.prog (.loop ar7) S (retPost Tryz.prog [(2, none)] (RF185x R_ res)) [(8, vi a7), (7, vi (x0.length : Int)), (6, v0), (3, a2)] h := by
 have hb' := hb
 try simp only [qa] at hb'
 have hc' := hc
 try simp only [qa] at hc'
 intro m
 induction m with
 | zero =>
  intro a7 a1 a0 a2 a4 a6 a3 a5 c4 b6 b0 h M0 s
  rw [jf] at s
  refine de (sR (bN ct rfl rfl (nS (au ?_))))
  refine cw rfl ?_ ?_ <;> intro c <;> try simp only [qa] at c
  ·omega
  refine fc (gh (dy ?_))
  exact wP (c7 a4 a6 a3 a5 (Mem.sub M0 (.cons_cons _ (List.Sublist.refl R_))) s) rfl
 | succ m ih =>
  intro a7 a1 a0 a2 a4 a6 a3 a5 c4 b6 b0 h M0 s
  rw [jf] at s
  refine de (sR (bN ct rfl rfl (nS (au ?_))))
  refine cw rfl ?_ ?_ <;> intro c <;> try simp only [qa] at c
  rotate_left
  ·omega
  refine ba (aq (au (cb (sR ?_))))
  obtain ⟨c5, b8, b3⟩ := cr (i := a7) r0 (by omega) (by omega)
  refine ae (bh rfl rfl b8) (lD b3 rfl rfl rfl (mV rfl (nS (bb (mV rfl (mV rfl ?_))))))
  obtain ⟨a8, b2, a9⟩ := qr (t := tB) (h := h) b3
  have b1 : fits (a0.length + a8.length) 1 = true := by rw [All2.length_eq a4, All2.length_eq a9]; (try simp only [List.length_cons, List.length_nil]); exact li (by (have hk := ol hb (i := a7) (by omega) (by omega); omega)) (by (have hk := ol hb (i := a7) (by omega) (by omega); omega))
  refine pe (k := 0) (es := a0) (news := a8) M0 rfl rfl rfl a6 a3 b2 b1 (fun c6 c8 b9 b7 c1 => ?_)
  have b4 : All2 tB.R (a1 ++ (ix x0 a7)) (a0 ++ a8) := All2.app a4 a9
  have b5 : (a1 ++ (ix x0 a7)).length ≤ 4611686018427387904 := by rw [← All2.length_eq b4, List.length_append]; exact rz b1
  refine mV rfl (cf (dj (aq (bb (bN fy rfl rfl (mV rfl (cf (du ?_))))))))
  have hbd := fg r0
  have u : wr (a7 + 1) = a7 + 1 := ek (by omega) (by omega)
  erw [u]
  exact wC (ih  b4 b9 b7 b5 (by omega) (by omega) (by (have hk := ol hb (i := a7) (by omega) (by omega); simp only [List.length_append]; omega)) (Mem.sub c1 (.cons_cons _ (List.Sublist.refl R_))) s) rfl

theorem bw2 {x0 : List (List Bool)} {v0 : PV} {R_ : List Ent} {h_ : Heap} (r0 : (tSl (tSl tB)).R x0 v0) (M_ : Mem h_ (R_)) (hb : ∀ l ∈ x0, l.length ≤ 1048576) (hc : x0.length ≤ 1) : ∃ r b1, FnX Tryz.prog 185 [v0] h_ r b1 ∧ RF185x R_ (mo x0) r b1 := by
 obtain ⟨res, s⟩ : ∃ res, mo x0 = res := ⟨_, rfl⟩
 suffices H : RC Tryz.prog ce0 [] (retPost Tryz.prog [(2, none)] (RF185x R_ res)) (argE 0 [v0]) h_ by
  rw [s]
  exact fnX ap5 (by simp) H
 unfold mo at s
 refine sR (ae (v := nilS) (ax rfl) (nR (ae (v := nilS) (ax rfl) (nS (au (sR (mV rfl (ae (cy rfl (co r0 Tryz.underlying213 _)) ?_))))))))
 refine mI rfl (nS (cb ?_))
 have b0 := mm (sz := 1) (es := []) M_ 4 (.inl ⟨none, rfl, rfl⟩) (by simp)
 refine wC (vz r0 hb hc ?_  aL rfl (.inl rfl) (by decide) rfl (by omega) (by simp) (Mem.sub b0 (.cons_cons _ (List.Sublist.refl R_))) s) rfl
 ·intro a6 a0 a1 a5 a4 a2 a3 a8 a9 s
  refine gy (aq (sR (mV rfl (mV rfl (nS ?_)))))
  have a7 : Mem a8 (⟨a1, 4, 1, a0⟩ :: R_) := (Mem.front (k := 0) a9 rfl)
  subst s
  exact kj (.tmp rfl .nil) ⟨a1, a0, Mem.sub a7 (.cons_cons _ (List.Sublist.refl R_)), a5, a4, a3, a2, rfl⟩

def RF186 (res : (List (BitVec 32))) (r : PV) : Prop := (tSl dg).R res r
theorem vg {S : List Fr} {res : (List (BitVec 32))} {x0 : List (List (BitVec 32))} {v0 : PV} (r0 : (tSl (tSl dg)).R x0 v0) (hb : ∀ l ∈ x0, l.length ≤ 1048576) (hc : x0.length ≤ 1) {K0 : (List (BitVec 32)) → (List (BitVec 32))}
  (c7 : ∀ {a1 : List (BitVec 32)} {a0 : List PV} {a2 : PV} (a4 : All2 dg.R a1 a0) (a6 : isL a2 = true) (a3 : Wri a2 a0) (a5 : a1.length ≤ 4611686018427387904) {h : Heap} (M0 : Mem h [⟨a2, 89, 1, a0⟩]), K0 a1 = res → PX Tryz.prog 0 S (QR Tryz.prog [(2, none)] (RF186 res)) [(3, a2)] h) :
  ∀ {m : Nat} {a7 : Int} {a1 : List (BitVec 32)} {a0 : List PV} {a2 : PV} (a4 : All2 dg.R a1 a0) (a6 : isL a2 = true) (a3 : Wri a2 a0) (a5 : a1.length ≤ 4611686018427387904) (c4 : m = Int.toNat ((x0.length : Int) - a7)) (b6 : 0 ≤ a7) (b0 : (a1.length : Int) ≤ 1048576 * a7) {h : Heap} (M0 : Mem h [⟨a2, 89, 1, a0⟩]), ia x0 K0 m a7 a1 = res → RC Tryz.prog (.loop at2) S (QR Tryz.prog [(2, none)] (RF186 res)) [(8, vi a7), (7, vi (x0.length : Int)), (6, v0), (3, a2)] h := by
 have hb' := hb
 try simp only [qa] at hb'
 have hc' := hc
 try simp only [qa] at hc'
 intro m
 induction m with
 | zero =>
  intro a7 a1 a0 a2 a4 a6 a3 a5 c4 b6 b0 h M0 s
  rw [ia] at s
  refine de (sR (bN ct rfl rfl (nS (au ?_))))
  refine cw rfl ?_ ?_ <;> intro c <;> try simp only [qa] at c
  ·omega
  refine fc (gh (dy ?_))
  exact wP (c7 a4 a6 a3 a5 (Mem.sub M0 (.cons_cons _ .slnil)) s) rfl
 | succ m ih =>
  intro a7 a1 a0 a2 a4 a6 a3 a5 c4 b6 b0 h M0 s
  rw [ia] at s
  refine de (sR (bN ct rfl rfl (nS (au ?_))))
  refine cw rfl ?_ ?_ <;> intro c <;> try simp only [qa] at c
  rotate_left
  ·omega
  refine ba (aq (au (cb (sR ?_))))
  obtain ⟨c5, b8, b3⟩ := cr (i := a7) r0 (by omega) (by omega)
  refine ae (bh rfl rfl b8) (lD b3 rfl rfl rfl (mV rfl (nS (bb (mV rfl (mV rfl ?_))))))
  obtain ⟨a8, b2, a9⟩ := qr (t := dg) (h := h) b3
  have b1 : fits (a0.length + a8.length) 4 = true := by rw [All2.length_eq a4, All2.length_eq a9]; (try simp only [List.length_cons, List.length_nil]); exact li (by (have hk := ol hb (i := a7) (by omega) (by omega); omega)) (by (have hk := ol hb (i := a7) (by omega) (by omega); omega))
  refine pe (k := 0) (es := a0) (news := a8) M0 rfl rfl rfl a6 a3 b2 b1 (fun c6 c8 b9 b7 c1 => ?_)
  have b4 : All2 dg.R (a1 ++ (ix x0 a7)) (a0 ++ a8) := All2.app a4 a9
  have b5 : (a1 ++ (ix x0 a7)).length ≤ 4611686018427387904 := by rw [← All2.length_eq b4, List.length_append]; exact rz b1
  refine mV rfl (cf (dj (aq (bb (bN fy rfl rfl (mV rfl (cf (du ?_))))))))
  have hbd := fg r0
  have u : wr (a7 + 1) = a7 + 1 := ek (by omega) (by omega)
  erw [u]
  exact wC (ih  b4 b9 b7 b5 (by omega) (by omega) (by (have hk := ol hb (i := a7) (by omega) (by omega); simp only [List.length_append]; omega)) (Mem.sub c1 (.cons_cons _ .slnil)) s) rfl

theorem ei0 {x0 : List (List (BitVec 32))} {v0 : PV} (r0 : (tSl (tSl dg)).R x0 v0) (hb : ∀ l ∈ x0, l.length ≤ 1048576) (hc : x0.length ≤ 1) : ∃ r, FnR Tryz.prog 186 [v0] r ∧ (tSl dg).R (ld x0) r := by
 refine fnT (R := RF186) am7 rfl fun res s => ?_
 unfold ld at s
 refine sR (ae (v := nilS) (ax rfl) (nR (ae (v := nilS) (ax rfl) (nS (au (sR (mV rfl (ae (cy rfl (co r0 Tryz.underlying42 _)) ?_))))))))
 refine mI rfl (nS (cb ?_))
 have b0 := mm (sz := 1) (es := []) (Mem.nil ⟨0, []⟩) 89 (.inl ⟨none, rfl, rfl⟩) (by simp)
 refine wC (vg r0 hb hc ?_  aL rfl (.inl rfl) (by decide) rfl (by omega) (by simp) (Mem.sub b0 (.cons_cons _ .slnil)) s) rfl
 ·intro a5 a4 a6 a2 a1 a3 a0 b1 a7 s
  refine gy (aq (sR (mV rfl (mV rfl (nS ?_)))))
  obtain ⟨b2, a9, a8⟩ := sf (P := Tryz.prog) (k := 0) (t := dg) a7 rfl a1 a2 (Nat.le_trans a0 (by decide))
  subst s
  exact dw (.tmp rfl .nil) a9 a8
def RF186x (R_ : List Ent) (res : (List (BitVec 32))) (r : PV) (h : Heap) : Prop := ∃ asR0_ : PV, ∃ esR0_ : List PV, Mem h (⟨asR0_, 89, 1, esR0_⟩ :: R_) ∧ (All2 dg.R res esR0_) ∧ (isL asR0_ = true) ∧ (res.length ≤ 4611686018427387904) ∧ (Wri asR0_ esR0_) ∧ r = asR0_
theorem vc {S : List Fr} {res : (List (BitVec 32))} {x0 : List (List (BitVec 32))} {v0 : PV} {R_ : List Ent} (r0 : (tSl (tSl dg)).R x0 v0) (hb : ∀ l ∈ x0, l.length ≤ 1048576) (hc : x0.length ≤ 1) {K0 : (List (BitVec 32)) → (List (BitVec 32))}
  (c7 : ∀ {a1 : List (BitVec 32)} {a0 : List PV} {a2 : PV} (a4 : All2 dg.R a1 a0) (a6 : isL a2 = true) (a3 : Wri a2 a0) (a5 : a1.length ≤ 4611686018427387904) {h : Heap} (M0 : Mem h (⟨a2, 89, 1, a0⟩ :: R_)), K0 a1 = res → PX Tryz.prog 0 S (retPost Tryz.prog [(2, none)] (RF186x R_ res)) [(3, a2)] h) :
  ∀ {m : Nat} {a7 : Int} {a1 : List (BitVec 32)} {a0 : List PV} {a2 : PV} (a4 : All2 dg.R a1 a0) (a6 : isL a2 = true) (a3 : Wri a2 a0) (a5 : a1.length ≤ 4611686018427387904) (c4 : m = Int.toNat ((x0.length : Int) - a7)) (b6 : 0 ≤ a7) (b0 : (a1.length : Int) ≤ 1048576 * a7) {h : Heap} (M0 : Mem h (⟨a2, 89, 1, a0⟩ :: R_)), ia x0 K0 m a7 a1 = res → RC Tryz.prog (.loop at2) S (retPost Tryz.prog [(2, none)] (RF186x R_ res)) [(8, vi a7), (7, vi (x0.length : Int)), (6, v0), (3, a2)] h := by
 have hb' := hb
 try simp only [qa] at hb'
 have hc' := hc
 try simp only [qa] at hc'
 intro m
 induction m with
 | zero =>
  intro a7 a1 a0 a2 a4 a6 a3 a5 c4 b6 b0 h M0 s
  rw [ia] at s
  refine de (sR (bN ct rfl rfl (nS (au ?_))))
  refine cw rfl ?_ ?_ <;> intro c <;> try simp only [qa] at c
  ·omega
  refine fc (gh (dy ?_))
  exact wP (c7 a4 a6 a3 a5 (Mem.sub M0 (.cons_cons _ (List.Sublist.refl R_))) s) rfl
 | succ m ih =>
  intro a7 a1 a0 a2 a4 a6 a3 a5 c4 b6 b0 h M0 s
  rw [ia] at s
  refine de (sR (bN ct rfl rfl (nS (au ?_))))
  refine cw rfl ?_ ?_ <;> intro c <;> try simp only [qa] at c
  rotate_left
  ·omega
  refine ba (aq (au (cb (sR ?_))))
  obtain ⟨c5, b8, b3⟩ := cr (i := a7) r0 (by omega) (by omega)
  refine ae (bh rfl rfl b8) (lD b3 rfl rfl rfl (mV rfl (nS (bb (mV rfl (mV rfl ?_))))))
  obtain ⟨a8, b2, a9⟩ := qr (t := dg) (h := h) b3
  have b1 : fits (a0.length + a8.length) 4 = true := by rw [All2.length_eq a4, All2.length_eq a9]; (try simp only [List.length_cons, List.length_nil]); exact li (by (have hk := ol hb (i := a7) (by omega) (by omega); omega)) (by (have hk := ol hb (i := a7) (by omega) (by omega); omega))
  refine pe (k := 0) (es := a0) (news := a8) M0 rfl rfl rfl a6 a3 b2 b1 (fun c6 c8 b9 b7 c1 => ?_)
  have b4 : All2 dg.R (a1 ++ (ix x0 a7)) (a0 ++ a8) := All2.app a4 a9
  have b5 : (a1 ++ (ix x0 a7)).length ≤ 4611686018427387904 := by rw [← All2.length_eq b4, List.length_append]; exact rz b1
  refine mV rfl (cf (dj (aq (bb (bN fy rfl rfl (mV rfl (cf (du ?_))))))))
  have hbd := fg r0
  have u : wr (a7 + 1) = a7 + 1 := ek (by omega) (by omega)
  erw [u]
  exact wC (ih  b4 b9 b7 b5 (by omega) (by omega) (by (have hk := ol hb (i := a7) (by omega) (by omega); simp only [List.length_append]; omega)) (Mem.sub c1 (.cons_cons _ (List.Sublist.refl R_))) s) rfl

theorem cc6 {x0 : List (List (BitVec 32))} {v0 : PV} {R_ : List Ent} {h_ : Heap} (r0 : (tSl (tSl dg)).R x0 v0) (M_ : Mem h_ (R_)) (hb : ∀ l ∈ x0, l.length ≤ 1048576) (hc : x0.length ≤ 1) : ∃ r b1, FnX Tryz.prog 186 [v0] h_ r b1 ∧ RF186x R_ (ld x0) r b1 := by
 obtain ⟨res, s⟩ : ∃ res, ld x0 = res := ⟨_, rfl⟩
 suffices H : RC Tryz.prog bz0 [] (retPost Tryz.prog [(2, none)] (RF186x R_ res)) (argE 0 [v0]) h_ by
  rw [s]
  exact fnX am7 (by simp) H
 unfold ld at s
 refine sR (ae (v := nilS) (ax rfl) (nR (ae (v := nilS) (ax rfl) (nS (au (sR (mV rfl (ae (cy rfl (co r0 Tryz.underlying42 _)) ?_))))))))
 refine mI rfl (nS (cb ?_))
 have b0 := mm (sz := 1) (es := []) M_ 89 (.inl ⟨none, rfl, rfl⟩) (by simp)
 refine wC (vc r0 hb hc ?_  aL rfl (.inl rfl) (by decide) rfl (by omega) (by simp) (Mem.sub b0 (.cons_cons _ (List.Sublist.refl R_))) s) rfl
 ·intro a6 a0 a1 a5 a4 a2 a3 a8 a9 s
  refine gy (aq (sR (mV rfl (mV rfl (nS ?_)))))
  have a7 : Mem a8 (⟨a1, 89, 1, a0⟩ :: R_) := (Mem.front (k := 0) a9 rfl)
  subst s
  exact kj (.tmp rfl .nil) ⟨a1, a0, Mem.sub a7 (.cons_cons _ (List.Sublist.refl R_)), a5, a4, a3, a2, rfl⟩

def RF187 (res : (List UInt8)) (r : PV) : Prop := (tSl tU8).R res r
theorem xm {S : List Fr} {res : (List UInt8)} {x0 : List (List UInt8)} {v0 : PV} (r0 : (tSl (tSl tU8)).R x0 v0) (hb : ∀ l ∈ x0, l.length ≤ 1048576) (hc : x0.length ≤ 1) {K0 : (List UInt8) → (List UInt8)}
  (c7 : ∀ {a1 : List UInt8} {a0 : List PV} {a2 : PV} (a4 : All2 tU8.R a1 a0) (a6 : isL a2 = true) (a3 : Wri a2 a0) (a5 : a1.length ≤ 4611686018427387904) {h : Heap} (M0 : Mem h [⟨a2, 5, 1, a0⟩]), K0 a1 = res → PX Tryz.prog 0 S (QR Tryz.prog [(2, none)] (RF187 res)) [(3, a2)] h) :
  ∀ {m : Nat} {a7 : Int} {a1 : List UInt8} {a0 : List PV} {a2 : PV} (a4 : All2 tU8.R a1 a0) (a6 : isL a2 = true) (a3 : Wri a2 a0) (a5 : a1.length ≤ 4611686018427387904) (c4 : m = Int.toNat ((x0.length : Int) - a7)) (b6 : 0 ≤ a7) (b0 : (a1.length : Int) ≤ 1048576 * a7) {h : Heap} (M0 : Mem h [⟨a2, 5, 1, a0⟩]), jg x0 K0 m a7 a1 = res → RC Tryz.prog (.loop aw3) S (QR Tryz.prog [(2, none)] (RF187 res)) [(8, vi a7), (7, vi (x0.length : Int)), (6, v0), (3, a2)] h := by
 have hb' := hb
 try simp only [qa] at hb'
 have hc' := hc
 try simp only [qa] at hc'
 intro m
 induction m with
 | zero =>
  intro a7 a1 a0 a2 a4 a6 a3 a5 c4 b6 b0 h M0 s
  rw [jg] at s
  refine de (sR (bN ct rfl rfl (nS (au ?_))))
  refine cw rfl ?_ ?_ <;> intro c <;> try simp only [qa] at c
  ·omega
  refine fc (gh (dy ?_))
  exact wP (c7 a4 a6 a3 a5 (Mem.sub M0 (.cons_cons _ .slnil)) s) rfl
 | succ m ih =>
  intro a7 a1 a0 a2 a4 a6 a3 a5 c4 b6 b0 h M0 s
  rw [jg] at s
  refine de (sR (bN ct rfl rfl (nS (au ?_))))
  refine cw rfl ?_ ?_ <;> intro c <;> try simp only [qa] at c
  rotate_left
  ·omega
  refine ba (aq (au (cb (sR ?_))))
  obtain ⟨c5, b8, b3⟩ := cr (i := a7) r0 (by omega) (by omega)
  refine ae (bh rfl rfl b8) (lD b3 rfl rfl rfl (mV rfl (nS (bb (mV rfl (mV rfl ?_))))))
  obtain ⟨a8, b2, a9⟩ := qr (t := tU8) (h := h) b3
  have b1 : fits (a0.length + a8.length) 1 = true := by rw [All2.length_eq a4, All2.length_eq a9]; (try simp only [List.length_cons, List.length_nil]); exact li (by (have hk := ol hb (i := a7) (by omega) (by omega); omega)) (by (have hk := ol hb (i := a7) (by omega) (by omega); omega))
  refine pe (k := 0) (es := a0) (news := a8) M0 rfl rfl rfl a6 a3 b2 b1 (fun c6 c8 b9 b7 c1 => ?_)
  have b4 : All2 tU8.R (a1 ++ (ix x0 a7)) (a0 ++ a8) := All2.app a4 a9
  have b5 : (a1 ++ (ix x0 a7)).length ≤ 4611686018427387904 := by rw [← All2.length_eq b4, List.length_append]; exact rz b1
  refine mV rfl (cf (dj (aq (bb (bN fy rfl rfl (mV rfl (cf (du ?_))))))))
  have hbd := fg r0
  have u : wr (a7 + 1) = a7 + 1 := ek (by omega) (by omega)
  erw [u]
  exact wC (ih  b4 b9 b7 b5 (by omega) (by omega) (by (have hk := ol hb (i := a7) (by omega) (by omega); simp only [List.length_append]; omega)) (Mem.sub c1 (.cons_cons _ .slnil)) s) rfl

theorem ei7 {x0 : List (List UInt8)} {v0 : PV} (r0 : (tSl (tSl tU8)).R x0 v0) (hb : ∀ l ∈ x0, l.length ≤ 1048576) (hc : x0.length ≤ 1) : ∃ r, FnR Tryz.prog 187 [v0] r ∧ (tSl tU8).R (mr x0) r := by
 refine fnT (R := RF187) an3 rfl fun res s => ?_
 unfold mr at s
 refine sR (ae (v := nilS) (ax rfl) (nR (ae (v := nilS) (ax rfl) (nS (au (sR (mV rfl (ae (cy rfl (co r0 Tryz.underlying259 _)) ?_))))))))
 refine mI rfl (nS (cb ?_))
 have b0 := mm (sz := 1) (es := []) (Mem.nil ⟨0, []⟩) 5 (.inl ⟨none, rfl, rfl⟩) (by simp)
 refine wC (xm r0 hb hc ?_  aL rfl (.inl rfl) (by decide) rfl (by omega) (by simp) (Mem.sub b0 (.cons_cons _ .slnil)) s) rfl
 ·intro a5 a4 a6 a2 a1 a3 a0 b1 a7 s
  refine gy (aq (sR (mV rfl (mV rfl (nS ?_)))))
  obtain ⟨b2, a9, a8⟩ := sf (P := Tryz.prog) (k := 0) (t := tU8) a7 rfl a1 a2 (Nat.le_trans a0 (by decide))
  subst s
  exact dw (.tmp rfl .nil) a9 a8
def RF187x (R_ : List Ent) (res : (List UInt8)) (r : PV) (h : Heap) : Prop := ∃ asR0_ : PV, ∃ esR0_ : List PV, Mem h (⟨asR0_, 5, 1, esR0_⟩ :: R_) ∧ (All2 tU8.R res esR0_) ∧ (isL asR0_ = true) ∧ (res.length ≤ 4611686018427387904) ∧ (Wri asR0_ esR0_) ∧ r = asR0_
theorem wq {S : List Fr} {res : (List UInt8)} {x0 : List (List UInt8)} {v0 : PV} {R_ : List Ent} (r0 : (tSl (tSl tU8)).R x0 v0) (hb : ∀ l ∈ x0, l.length ≤ 1048576) (hc : x0.length ≤ 1) {K0 : (List UInt8) → (List UInt8)}
  (c7 : ∀ {a1 : List UInt8} {a0 : List PV} {a2 : PV} (a4 : All2 tU8.R a1 a0) (a6 : isL a2 = true) (a3 : Wri a2 a0) (a5 : a1.length ≤ 4611686018427387904) {h : Heap} (M0 : Mem h (⟨a2, 5, 1, a0⟩ :: R_)), K0 a1 = res → PX Tryz.prog 0 S (retPost Tryz.prog [(2, none)] (RF187x R_ res)) [(3, a2)] h) :
  ∀ {m : Nat} {a7 : Int} {a1 : List UInt8} {a0 : List PV} {a2 : PV} (a4 : All2 tU8.R a1 a0) (a6 : isL a2 = true) (a3 : Wri a2 a0) (a5 : a1.length ≤ 4611686018427387904) (c4 : m = Int.toNat ((x0.length : Int) - a7)) (b6 : 0 ≤ a7) (b0 : (a1.length : Int) ≤ 1048576 * a7) {h : Heap} (M0 : Mem h (⟨a2, 5, 1, a0⟩ :: R_)), jg x0 K0 m a7 a1 = res → RC Tryz.prog (.loop aw3) S (retPost Tryz.prog [(2, none)] (RF187x R_ res)) [(8, vi a7), (7, vi (x0.length : Int)), (6, v0), (3, a2)] h := by
 have hb' := hb
 try simp only [qa] at hb'
 have hc' := hc
 try simp only [qa] at hc'
 intro m
 induction m with
 | zero =>
  intro a7 a1 a0 a2 a4 a6 a3 a5 c4 b6 b0 h M0 s
  rw [jg] at s
  refine de (sR (bN ct rfl rfl (nS (au ?_))))
  refine cw rfl ?_ ?_ <;> intro c <;> try simp only [qa] at c
  ·omega
  refine fc (gh (dy ?_))
  exact wP (c7 a4 a6 a3 a5 (Mem.sub M0 (.cons_cons _ (List.Sublist.refl R_))) s) rfl
 | succ m ih =>
  intro a7 a1 a0 a2 a4 a6 a3 a5 c4 b6 b0 h M0 s
  rw [jg] at s
  refine de (sR (bN ct rfl rfl (nS (au ?_))))
  refine cw rfl ?_ ?_ <;> intro c <;> try simp only [qa] at c
  rotate_left
  ·omega
  refine ba (aq (au (cb (sR ?_))))
  obtain ⟨c5, b8, b3⟩ := cr (i := a7) r0 (by omega) (by omega)
  refine ae (bh rfl rfl b8) (lD b3 rfl rfl rfl (mV rfl (nS (bb (mV rfl (mV rfl ?_))))))
  obtain ⟨a8, b2, a9⟩ := qr (t := tU8) (h := h) b3
  have b1 : fits (a0.length + a8.length) 1 = true := by rw [All2.length_eq a4, All2.length_eq a9]; (try simp only [List.length_cons, List.length_nil]); exact li (by (have hk := ol hb (i := a7) (by omega) (by omega); omega)) (by (have hk := ol hb (i := a7) (by omega) (by omega); omega))
  refine pe (k := 0) (es := a0) (news := a8) M0 rfl rfl rfl a6 a3 b2 b1 (fun c6 c8 b9 b7 c1 => ?_)
  have b4 : All2 tU8.R (a1 ++ (ix x0 a7)) (a0 ++ a8) := All2.app a4 a9
  have b5 : (a1 ++ (ix x0 a7)).length ≤ 4611686018427387904 := by rw [← All2.length_eq b4, List.length_append]; exact rz b1
  refine mV rfl (cf (dj (aq (bb (bN fy rfl rfl (mV rfl (cf (du ?_))))))))
  have hbd := fg r0
  have u : wr (a7 + 1) = a7 + 1 := ek (by omega) (by omega)
  erw [u]
  exact wC (ih  b4 b9 b7 b5 (by omega) (by omega) (by (have hk := ol hb (i := a7) (by omega) (by omega); simp only [List.length_append]; omega)) (Mem.sub c1 (.cons_cons _ (List.Sublist.refl R_))) s) rfl

theorem bv6 {x0 : List (List UInt8)} {v0 : PV} {R_ : List Ent} {h_ : Heap} (r0 : (tSl (tSl tU8)).R x0 v0) (M_ : Mem h_ (R_)) (hb : ∀ l ∈ x0, l.length ≤ 1048576) (hc : x0.length ≤ 1) : ∃ r b1, FnX Tryz.prog 187 [v0] h_ r b1 ∧ RF187x R_ (mr x0) r b1 := by
 obtain ⟨res, s⟩ : ∃ res, mr x0 = res := ⟨_, rfl⟩
 suffices H : RC Tryz.prog cd1 [] (retPost Tryz.prog [(2, none)] (RF187x R_ res)) (argE 0 [v0]) h_ by
  rw [s]
  exact fnX an3 (by simp) H
 unfold mr at s
 refine sR (ae (v := nilS) (ax rfl) (nR (ae (v := nilS) (ax rfl) (nS (au (sR (mV rfl (ae (cy rfl (co r0 Tryz.underlying259 _)) ?_))))))))
 refine mI rfl (nS (cb ?_))
 have b0 := mm (sz := 1) (es := []) M_ 5 (.inl ⟨none, rfl, rfl⟩) (by simp)
 refine wC (wq r0 hb hc ?_  aL rfl (.inl rfl) (by decide) rfl (by omega) (by simp) (Mem.sub b0 (.cons_cons _ (List.Sublist.refl R_))) s) rfl
 ·intro a6 a0 a1 a5 a4 a2 a3 a8 a9 s
  refine gy (aq (sR (mV rfl (mV rfl (nS ?_)))))
  have a7 : Mem a8 (⟨a1, 5, 1, a0⟩ :: R_) := (Mem.front (k := 0) a9 rfl)
  subst s
  exact kj (.tmp rfl .nil) ⟨a1, a0, Mem.sub a7 (.cons_cons _ (List.Sublist.refl R_)), a5, a4, a3, a2, rfl⟩

theorem cl6 (l : List Bool) : mo [l] = l := by
 simp [mo, jf, ix]
theorem ci5 (l : List (BitVec 32)) : ld [l] = l := by
 simp [ld, ia, ix]
theorem cm0 (l : List UInt8) : mr [l] = l := by
 simp [mr, jg, ix]
theorem sl1 {α : Type} {t : TR α} {l : α} {c : PV} (h : t.R l c) : (tSl t).R [l] (.fs true [c]) := ah1 (t := t) (l := [l]) ⟨h, trivial⟩ (by simp)
theorem jn_b {l : List Bool} {c : PV} (q : (tSl tB).R l c) (hl : l.length ≤ 1048576) : ∃ r k es, FnX Tryz.prog 185 [.fs true [c]] ⟨0, []⟩ r k ∧ Mem k [⟨r, 4, 1, es⟩] ∧ All2 tB.R l es ∧ isL r = true ∧ Wri r es := by
 obtain ⟨r, k, h1, a, es, h2, h3, h4, h5, h6, rfl⟩ := bw2 (x0 := [l]) (sl1 q) (Mem.nil ⟨0, []⟩) (by simpa using hl) (by simp)
 rw [cl6] at h3
 exact ⟨_, k, es, h1, h2, h3, h4, h6⟩
theorem jn_w {l : List (BitVec 32)} {c : PV} (q : (tSl dg).R l c) (hl : l.length ≤ 1048576) : ∃ r k es, FnX Tryz.prog 186 [.fs true [c]] ⟨0, []⟩ r k ∧ Mem k [⟨r, 89, 1, es⟩] ∧ All2 dg.R l es ∧ isL r = true ∧ Wri r es := by
 obtain ⟨r, k, h1, a, es, h2, h3, h4, h5, h6, rfl⟩ := cc6 (x0 := [l]) (sl1 q) (Mem.nil ⟨0, []⟩) (by simpa using hl) (by simp)
 rw [ci5] at h3
 exact ⟨_, k, es, h1, h2, h3, h4, h6⟩
theorem jn_y {l : List UInt8} {c : PV} (q : (tSl tU8).R l c) (hl : l.length ≤ 1048576) : ∃ r k es, FnX Tryz.prog 187 [.fs true [c]] ⟨0, []⟩ r k ∧ Mem k [⟨r, 5, 1, es⟩] ∧ All2 tU8.R l es ∧ isL r = true ∧ Wri r es := by
 obtain ⟨r, k, h1, a, es, h2, h3, h4, h5, h6, rfl⟩ := bv6 (x0 := [l]) (sl1 q) (Mem.nil ⟨0, []⟩) (by simpa using hl) (by simp)
 rw [cm0] at h3
 exact ⟨_, k, es, h1, h2, h3, h4, h6⟩
theorem ah0 {g : Ent} {X I R : List Ent} : (g :: (X ++ (I ++ R))).Perm (X ++ ((I ++ [g]) ++ R)) := by
 have e1 : X ++ ((I ++ [g]) ++ R) = (X ++ I) ++ g :: R := by simp
 have e2 : X ++ (I ++ R) = (X ++ I) ++ R := by simp
 rw [e1, e2]
 exact List.perm_middle.symm
def CQ (x0 : ai) (R_ : List Ent) (r : PV) (h : Heap) : Prop := ∃ a b c d eb ef em ep I, r = .agg [a, b, c, d] ∧ OE h x0 a b c d eb ef em ep I R_
theorem dc3 {S : List Fr} {Q : Post} {x0 : ai} {c1 : PV} (q1 : (tSl (tSl dg)).R x0.Fields c1) (hE : EB x0) {a c d : PV} {e1 e2 e3 : List PV} {i2 w2 i3 w3 : Nat} {R_ : List Ent} (na : isL a = true) (nc : isL c = true) (nd : isL d = true)
  (K : ∀ {h : Heap} {zv : PV} {ze : List PV} {I : List Ent}, Ns dg 89 x0.Fields ze I → isL zv = true → Wri zv ze → Mem h (⟨.op i3 w3 0, 46, 4, [.agg [a, zv, c, d]]⟩ :: ⟨zv, 43, 1, ze⟩ :: ⟨d, 5, 1, e3⟩ :: ⟨c, 89, 1, e2⟩ :: ⟨a, 4, 1, e1⟩ :: ⟨.op i2 w2 0, 46, 4, [.agg [nilS, nilS, nilS, nilS]]⟩ :: (I ++ R_)) → PX Tryz.prog 0 S Q [(3, .op i3 w3 0), (2, .op i2 w2 0)] h) :
  ∀ (m : Nat) {i : Int} {zv : PV} {ze : List PV} {I : List Ent} {h : Heap}, m = Int.toNat ((x0.Fields.length : Int) - i) → 0 ≤ i → i ≤ x0.Fields.length → Ns dg 89 (x0.Fields.take i.toNat) ze I → isL zv = true → Wri zv ze →
   Mem h (⟨.op i3 w3 0, 46, 4, [.agg [a, zv, c, d]]⟩ :: ⟨zv, 43, 1, ze⟩ :: ⟨d, 5, 1, e3⟩ :: ⟨c, 89, 1, e2⟩ :: ⟨a, 4, 1, e1⟩ :: ⟨.op i2 w2 0, 46, 4, [.agg [nilS, nilS, nilS, nilS]]⟩ :: (I ++ R_)) →
   RC Tryz.prog (.loop cc0) S Q [(22, vi i), (21, vi (x0.Fields.length : Int)), (20, c1), (3, .op i3 w3 0), (2, .op i2 w2 0)] h
 | 0, i, zv, ze, I, h, hm, h0, h1, hn, nz, wz, M => by
  refine de ?_
  refine au (bb (ae (bp rfl rfl ct) (cf (aq (au (cw rfl (fun hc => ?_) fun hc => ?_))))))
  ·simp only [decide_eq_true_eq] at hc; omega
  ·have e : i = x0.Fields.length := by omega
   subst e
   rw [Int.toNat_natCast, List.take_length] at hn
   exact fc (gh (dy (wP (K hn nz wz M) rfl)))
 | m + 1, i, zv, ze, I, h, hm, h0, h1, hn, nz, wz, M => by
  have hlt : i < (x0.Fields.length : Int) := by omega
  refine de ?_
  refine au (bb (ae (bp rfl rfl ct) (cf (aq (au (cw rfl (fun hc => ?_) fun hc => ?_))))))
  ·refine ba (aq (au (cb ?_)))
   obtain ⟨g0, e0, q0⟩ := cr (i := i) q1 h0 hlt
   refine au (bb (ae (bh rfl rfl e0) (ae (bq rfl (TR.cnt _ q0) (TR.agg _ q0)) (ae (ax rfl) (cf (aq (ya ?_)))))))
   refine rm_q (bv rfl) (rm_q (cq (k := 0) M rfl rfl (mk1 (gx (k := 1) M rfl nz).2)) (rm_q (ax rfl) (rm_q (ko rfl (all_cons (TR.cnt _ q0) oa)) ?_)))
   obtain ⟨r1, k1, es, X1, N1, A1, L1, W1⟩ := jn_w q0 (ol hE.i h0 hlt)
   refine zk X1 N1 L1 A1.clo W1 M rfl rfl (ab (by simp [closed, closedL, TR.clo _ q0]) ay) (fun g a0 ng wg M1 => ?_)
   refine rm_q (ko rfl (all_cons (pv (k := 0) M1 rfl ng) oa)) ?_
   have hzl := hn.len
   refine bg0 (k := 2) (es := ze) (news := [g]) M1 rfl rfl rfl nz wz (ap8 (.inr ⟨true, rfl⟩) (fun y hy => by rw [List.mem_singleton.1 hy]; exact pv (k := 0) M1 rfl ng)) (by have hl := hn.len.1; have hf := hE.f; simp only [List.length_take] at hl; exact li (by simp only [List.length_cons, List.length_nil]; omega) (by simp only [List.length_cons, List.length_nil]; omega)) (fun z' a2 nz' wz' M2 => ?_)
   refine rm_q (bv rfl) ?_
   refine al5 (k := 1) (v := z') M2 rfl rfl rfl (gx (k := 2) M2 rfl nz').1 rfl (by simp) (fun a1 M3 => ?_)
   refine ba4 (dj (aq ?_))
   refine bb (ae (bp rfl rfl fy) (ae (ax rfl) (cf (du ?_))))
   have M4 := Mem.perm (L := ⟨g, 89, 1, es⟩ :: ([⟨.op i3 w3 0, 46, 4, [.agg [a, z', c, d]]⟩, ⟨z', 43, 1, ze ++ [g]⟩, ⟨d, 5, 1, e3⟩, ⟨c, 89, 1, e2⟩, ⟨a, 4, 1, e1⟩, ⟨.op i2 w2 0, 46, 4, [.agg [nilS, nilS, nilS, nilS]]⟩] ++ (I ++ R_))) M3 ah0
   have u : wr (i + 1) = i + 1 := ek (by omega) (by have := hE.f; omega)
   refine xa ?_ (dc3 q1 hE na nc nd K m (i := i + 1) (zv := z') (ze := ze ++ [g]) (I := I ++ [(⟨g, 89, 1, es⟩ : Ent)]) (by omega) (by omega) (by omega) ?_ nz' wz' M4)
   ·exact ul (by show some (vi (wr (i + 1))) = _; rw [u]) (sB rfl)
   ·have e : x0.Fields.take (i + 1).toNat = x0.Fields.take i.toNat ++ [ix x0.Fields i] := by
     rw [vw h0 hlt, show (i + 1).toNat = i.toNat + 1 by omega, List.take_succ_eq_append_getElem]
    rw [e]
    exact hn.app1 ⟨rfl, rfl, rfl, A1, ng, by have := ol hE.i h0 hlt; omega, wg⟩
  ·simp only [decide_eq_false_iff_not] at hc; omega
theorem af7 {x0 : ai} {v0 : PV} {R_ : List Ent} {h_ : Heap} (r0 : ai.t.R x0 v0) (hE : EB x0) (M_ : Mem h_ R_) : ∃ r k, FnX Tryz.prog 116 [v0] h_ r k ∧ CQ x0 R_ r k := by
 refine fnX bk9 (by simp) ?_
 obtain ⟨c0, c1, c2, c3, rfl, q0, q1, q2, q3⟩ := r0
 refine au (bb ?_)
 refine ae (cz rfl rfl) ?_
 refine di (x := .agg [nilS, nilS, nilS, nilS]) M_ rfl rfl (fun i2 w2 h2 M2 => ?_)
 refine cf (aq ?_)
 refine au (ya ?_)
 refine rm_q (br rfl (mk1 (TR.agg _ q0))) (rm_q (bq rfl (TR.cnt _ q0) (TR.agg _ q0)) (rm_q (ko rfl (all_cons (TR.cnt _ q0) oa)) ?_))
 obtain ⟨r1, k1, e1, X1, N1, A1, L1, W1⟩ := jn_b q0 hE.v
 refine zk X1 N1 L1 A1.clo W1 M2 rfl rfl (ab (by simp [closed, closedL, TR.clo _ q0]) ay) (fun a h3 na wa M3 => ?_)
 refine rm_q (br rfl (mk1 (TR.agg _ q2))) (rm_q (bq rfl (TR.cnt _ q2) (TR.agg _ q2)) (rm_q (ko rfl (all_cons (TR.cnt _ q2) oa)) ?_))
 obtain ⟨r2, k2, e2, X2, N2, A2, L2, W2⟩ := jn_w q2 hE.m
 refine zk X2 N2 L2 A2.clo W2 M3 rfl rfl (ab (by simp [closed, closedL, TR.clo _ q2]) ay) (fun c h4 nc wc M4 => ?_)
 refine rm_q (br rfl (mk1 (TR.agg _ q3))) (rm_q (bq rfl (TR.cnt _ q3) (TR.agg _ q3)) (rm_q (ko rfl (all_cons (TR.cnt _ q3) oa)) ?_))
 obtain ⟨r3, k3, e3, X3, N3, A3, L3, W3⟩ := jn_y q3 hE.p
 refine zk X3 N3 L3 A3.clo W3 M4 rfl rfl (ab (by simp [closed, closedL, TR.clo _ q3]) ay) (fun d h5 nd wd M5 => ?_)
 refine rm_q (v := .agg [a, nilS, c, d]) (eg (cs := [a, nilS, c, d]) rfl (by simp only [buildV, (gx (k := 2) M5 rfl na).1, (gx (k := 1) M5 rfl nc).1, (gx (k := 0) M5 rfl nd).1]; rfl)) ?_
 refine bo6 (x := .agg [nilS, nilS, nilS, nilS]) M5 rfl rfl (fun i3 w3 h6 M6 => ?_)
 refine bp0 (k := 0) (v := .agg [a, nilS, c, d]) M6 rfl rfl rfl rfl (fun h7 M7 => ?_)
 replace M7 : Mem h7 (⟨.op i3 w3 0, 46, 4, [.agg [a, nilS, c, d]]⟩ :: ⟨d, 5, 1, e3⟩ :: ⟨c, 89, 1, e2⟩ :: ⟨a, 4, 1, e1⟩ :: ⟨.op i2 w2 0, 46, 4, [.agg [nilS, nilS, nilS, nilS]]⟩ :: R_) := M7
 refine ba4 ?_
 refine aq (au (au (bb ?_)))
 refine ae (br rfl (mk1 (TR.agg _ q1))) (ae (bq rfl (TR.cnt _ q1) (TR.agg _ q1)) (ae (cy rfl (co q1 Tryz.underlying42 _)) (ae (ax rfl) ?_)))
 refine cf (aq (cb ?_))
 have M8 := mm (sz := 1) (es := []) M7 43 (.inl ⟨none, rfl, rfl⟩) (by simp)
 refine wC (dc3 (x0 := x0) q1 hE na nc nd ?_ x0.Fields.length (i := 0) (zv := nilS) (ze := []) (I := []) (h := h7) (by omega) (by omega) (by omega) trivial rfl (.inl rfl) (Mem.front (k := 1) M8 rfl)) rfl
 ·intro h zv ze I hn nz wz M
  refine gy (aq ?_)
  refine au (bb ?_)
  refine ae (fq (k := 0) M rfl rfl rfl) ?_
  refine ci (k := 5) (v := .agg [a, zv, c, d]) M rfl rfl rfl rfl (fun h' M' => ?_)
  refine cf (aq ?_)
  refine kj (.cell rfl (cv (k := 5) M' rfl rfl) .nil) ⟨a, zv, c, d, _, _, _, _, I, rfl, ?_, A1, hn, A2, A3, na, nz, nc, nd, wa, wz, wc⟩
  exact Mem.front (k := 3) (Mem.front (k := 2) (Mem.front (k := 2) (Mem.front (k := 1) (Mem.sub M' (.cons _ (.cons_cons _ (.cons_cons _ (.cons_cons _ (.cons_cons _ (.cons _ (List.Sublist.refl _)))))))) rfl) rfl) rfl) rfl
theorem ci6 {x0 : ai} {v0 : PV} (r0 : ai.t.R x0 v0) (hE : EB x0) : ∃ r, FnR Tryz.prog 116 [v0] r ∧ ai.t.R (wy x0) r := by
 obtain ⟨r, k, X, a, b, c, d, eb, ef, em, ep, I, rfl, H⟩ := af7 r0 hE (Mem.nil ⟨0, []⟩)
 obtain ⟨d', hd, hr⟩ := H.deep hE
 exact ⟨d', FnR.of_X X hd, hr⟩

def RF233 (res : cm) (r : PV) : Prop := cm.t.R res r
theorem cg9 {x0 : List cm} {x1 : Int} {v0 : PV} (r0 : (tSl cm.t).R x0 v0) : ∃ r, FnR Tryz.prog 233 [v0, vi x1] r ∧ cm.t.R (jk x0 x1) r := by
 refine fnT (R := RF233) bk6 rfl fun res s => ?_
 unfold jk at s
 refine sR ?_
 refine di (x := .agg [vs [], nilS]) (Mem.nil ⟨0, []⟩) rfl rfl (fun a5 a8 b2 a7 => ?_)
 refine nR (ae (ak9 (x := .agg [vs [], nilS]) rfl rfl) (nS (au (sR (mV rfl (bN ct rfl rfl (mV rfl ?_)))))))
 refine bw 5 (d := 13) (v := vb ((decide (x1 < 0)) || (decide ((x0.length : Int) ≤ x1)))) ?_ ?_
 ·intro S Q r
  cases a6 : (decide (x1 < 0))
  ·intro k
   have a2 := a6
   try simp only [qa] at a2
   refine ah rfl rfl (ax rfl) (ah rfl rfl (ax rfl) (ah rfl rfl (cy rfl (co r0 Tryz.underlying22 _)) (ah rfl rfl (bp rfl rfl ja) ?_)))
   exact gK rfl rfl rfl rfl rfl k
  ·exact gN 4 rfl rfl rfl rfl rfl rfl
 refine nS ?_
 refine bt s rfl ?_ ?_ <;> clear s <;> intro c s <;> try simp only [qa] at c
 ·refine sR (lR rfl rfl rfl ?_)
  refine ci (k := 0) (v := .agg [vs [], nilS]) a7 rfl rfl rfl rfl (fun b1 a3 => ?_)
  replace a3 : Mem b1 [⟨.op a5 a8 0, 92, 2, [.agg [vs [], nilS]]⟩] := a3
  refine nS ?_
  subst s
  exact dw (.cell rfl (cv (k := 0) a3 rfl rfl) .nil) (cd (TR.clo cm.t (show cm.t.R ({ Name := ([] : List UInt8), Fields := ([] : List aw) } : cm) (.agg [vs [], nilS]) from ⟨nilS, rfl, rk⟩))) (show cm.t.R ({ Name := ([] : List UInt8), Fields := ([] : List aw) } : cm) (.agg [vs [], nilS]) from ⟨nilS, rfl, rk⟩)
 ·refine ba (aq (sR (mV rfl (mV rfl ?_))))
  obtain ⟨a4, b0, a0⟩ := cr (i := x1) r0 (by omega) (by omega)
  refine ae (bh rfl rfl b0) (lD a0 rfl rfl rfl ?_)
  refine ci (k := 0) (v := a4) a7 rfl rfl rfl (TR.cnt cm.t a0) (fun a9 a1 => ?_)
  replace a1 : Mem a9 [⟨.op a5 a8 0, 92, 2, [a4]⟩] := a1
  refine nS ?_
  subst s
  exact dw (.cell rfl (cv (k := 0) a1 rfl (TR.agg cm.t a0)) .nil) (cd (TR.clo cm.t a0)) a0

end Go.Proofs.YtmonnlkagniolaaGreat
