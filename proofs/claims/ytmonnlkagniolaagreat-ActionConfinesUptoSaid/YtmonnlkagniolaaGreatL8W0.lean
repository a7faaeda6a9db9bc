/-
 The code of each function does what its plain program says.
-/
import Derived.Test.YtmonnlkagniolaaGreatKDef
import Derived.Test.YtmonnlkagniolaaGreatL8Text
import Derived.Test.YtmonnlkagniolaaGreatPbV
import Derived.Test.YtmonnlkagniolaaGreatPbV
import Derived.Test.YtmonnlkagniolaaGreatKEo
import Derived.Test.YtmonnlkagniolaaGreatKPmKpKqKbKcKf
import Derived.Test.YtmonnlkagniolaaGreatKCoFo
import Derived.Test.YtmonnlkagniolaaGreatKLy
import Derived.Test.YtmonnlkagniolaaGreatKCoFo
import Derived.Test.YtmonnlkagniolaaGreatL8Run
set_option linter.unusedVariables false
set_option linter.unusedSimpArgs false
set_option maxRecDepth 100000
namespace Go.Proofs.YtmonnlkagniolaaGreat
open Go Go.Pb Go.RowKit
def RF33 (res : Bool) (r : PV) : Prop := r = vb res
theorem zy {S : List Fr} {res : Bool} {x0 : ab} {a0 : Int} {v0 : PV} (r0 : ab.t.R x0 v0) (b0 : ((((decide (20 < (x0.Headers.length : Int))) || (decide (30 < (x0.Metadata.length : Int)))) || (decide (20 < (x0.Registers.length : Int)))) || (decide (40 < (x0.Actions.length : Int)))) = false) (e9 : 0 ≤ a0) (b1 : (decide (a0 < (x0.Actions.length : Int))) = true) (b4 : ((decide (20 < (((ix x0.Actions a0).Params).length : Int))) || (decide (30 < (((ix x0.Actions a0).Body).length : Int)))) = false) {K2 : Unit → Bool}
  (f2 : K2 () = res → PX Tryz.prog 2 S (QR Tryz.prog [(2, none)] (RF33 res)) [(1, .fp v0), (3, vi a0)] ⟨0, []⟩) :
  ∀ {m : Nat} {a1 : Int} (d6 : m = Int.toNat ((((ix x0.Actions a0).Body).length : Int) - a1)) (b2 : 0 ≤ a1), mm x0 a0 K2 m a1 = res → RC Tryz.prog (.loop cf7) S (QR Tryz.prog [(2, none)] (RF33 res)) [(4, vi a1), (3, vi a0), (1, .fp v0)] ⟨0, []⟩ := by
 have a3 := b0
 try simp only [qa] at a3
 have a2 := b1
 try simp only [qa] at a2
 have a7 := b4
 try simp only [qa] at a7
 intro m
 induction m with
 | zero =>
  intro a1 d6 b2 s
  rw [mm] at s
  refine co (am (sR (mV rfl (gL (ab.g_Actions r0) rfl rfl rfl fun f5 c1 => (mV rfl ?_)))))
  obtain ⟨e6, d0, b7⟩ := dq (i := a0) c1 (by omega) (by omega)
  refine ae (bg rfl rfl d0) (gL (bp.g_Body b7) rfl rfl rfl fun e4 d1 => (ae (cv rfl (ci d1 Tryz.underlying95 _)) (bN cw rfl rfl (nS ?_))))
  refine cd rfl ?_ ?_ <;> intro c <;> try simp only [qa] at c
  ·omega
  refine fj (gg (dw ?_))
  exact wP (f2  s) rfl
 | succ m ih =>
  intro a1 d6 b2 s
  rw [mm] at s
  refine co (am (sR (mV rfl (gL (ab.g_Actions r0) rfl rfl rfl fun e5 c7 => (mV rfl ?_)))))
  obtain ⟨f3, d5, b5⟩ := dq (i := a0) c7 (by omega) (by omega)
  refine ae (bg rfl rfl d5) (gL (bp.g_Body b5) rfl rfl rfl fun f0 a9 => (ae (cv rfl (ci a9 Tryz.underlying95 _)) (bN cw rfl rfl (nS ?_))))
  refine cd rfl ?_ ?_ <;> intro c <;> try simp only [qa] at c
  rotate_left
  ·omega
  refine az (aq (am (bm (sR (gL (ab.g_Actions r0) rfl rfl rfl fun e1 d3 => (mV rfl ?_))))))
  obtain ⟨d7, b9, c0⟩ := dq (i := a0) d3 (by omega) (by omega)
  refine ae (bg rfl rfl b9) (gL (bp.g_Body c0) rfl rfl rfl fun e8 b8 => (mV rfl ?_))
  obtain ⟨e7, c9, c2⟩ := dq (i := a1) b8 (by omega) (by omega)
  refine ae (bg rfl rfl c9) (gL (ak.g_Index c2) rfl rfl rfl fun d8 d4 => (ae (cv rfl (ci d4 Tryz.underlying32 _)) (bN nj rfl rfl (mV rfl ?_))))
  refine cq 13 (d := 90) (v := vb ((decide (60 < (((ix ((ix x0.Actions a0).Body) a1).Index).length : Int))) || (decide (60 < (((ix ((ix x0.Actions a0).Body) a1).Value).length : Int))))) ?_ ?_
  ·intro S Q r
   cases b3 : (decide (60 < (((ix ((ix x0.Actions a0).Body) a1).Index).length : Int)))
   ·intro k
    have a4 := b3
    try simp only [qa] at a4
    obtain ⟨e2, c4, a8⟩ := ab.g_Actions r0
    refine ah rfl rfl (bw rfl c4) (ah rfl rfl (bv rfl (TR.cnt (tSl bp.t) a8) (TR.agg (tSl bp.t) a8)) (ah rfl rfl (av rfl) ?_))
    obtain ⟨f1, c3, b6⟩ := dq (i := a0) a8 (by omega) (by omega)
    refine ah rfl rfl (bg rfl rfl c3) ?_
    obtain ⟨e3, c8, a5⟩ := bp.g_Body b6
    refine ah rfl rfl (bw rfl c8) (ah rfl rfl (bv rfl (TR.cnt (tSl ak.t) a5) (TR.agg (tSl ak.t) a5)) (ah rfl rfl (av rfl) ?_))
    obtain ⟨d9, c5, c6⟩ := dq (i := a1) a5 (by omega) (by omega)
    refine ah rfl rfl (bg rfl rfl c5) ?_
    obtain ⟨f4, d2, a6⟩ := ak.g_Value c6
    refine ah rfl rfl (bw rfl d2) (ah rfl rfl (bv rfl (TR.cnt (tSl af.t) a6) (TR.agg (tSl af.t) a6)) (ah rfl rfl (cv rfl (ci a6 Tryz.underlying32 _)) (ah rfl rfl (bq rfl rfl nj) ?_)))
    exact gK rfl rfl rfl rfl rfl k
   ·exact gN 12 rfl rfl rfl rfl rfl rfl
  refine nS ?_
  refine cg s rfl ?_ ?_ <;> clear s <;> intro c s <;> try simp only [qa] at c
  ·refine sR (mB rfl (nS ?_))
   exact rR s rfl rfl rfl
  ·refine az (de (aq (ay (mV rfl (bN gv rfl rfl (mV rfl (br (di ?_))))))))
   have hbd := en a9
   have hinc : wr (a1 + 1) = a1 + 1 := ee (by omega) (by omega)
   erw [hinc]
   exact wC (ih   (by omega) (by omega) s) rfl

theorem yh {S : List Fr} {res : Bool} {x0 : ab} {v0 : PV} (r0 : ab.t.R x0 v0) (a2 : ((((decide (20 < (x0.Headers.length : Int))) || (decide (30 < (x0.Metadata.length : Int)))) || (decide (20 < (x0.Registers.length : Int)))) || (decide (40 < (x0.Actions.length : Int)))) = false) {K0 : Unit → Bool}
  (d0 : K0 () = res → PX Tryz.prog 0 S (QR Tryz.prog [(2, none)] (RF33 res)) [(1, .fp v0)] ⟨0, []⟩) :
  ∀ {m : Nat} {a1 : Int} (c3 : m = Int.toNat ((x0.Actions.length : Int) - a1)) (a7 : 0 ≤ a1), ml x0 K0 m a1 = res → RC Tryz.prog (.loop cp3) S (QR Tryz.prog [(2, none)] (RF33 res)) [(3, vi a1), (1, .fp v0)] ⟨0, []⟩ := by
 have a6 := a2
 try simp only [qa] at a6
 intro m
 induction m with
 | zero =>
  intro a1 c3 a7 s
  rw [ml] at s
  refine co (am (sR (mV rfl (gL (ab.g_Actions r0) rfl rfl rfl fun c4 b8 => (ae (cv rfl (ci b8 Tryz.underlying25 _)) (bN cw rfl rfl (nS ?_)))))))
  refine cd rfl ?_ ?_ <;> intro c <;> try simp only [qa] at c
  ·omega
  refine fj (gg (dw ?_))
  exact wP (d0  s) rfl
 | succ m ih =>
  intro a1 c3 a7 s
  rw [ml] at s
  refine co (am (sR (mV rfl (gL (ab.g_Actions r0) rfl rfl rfl fun c6 b3 => (ae (cv rfl (ci b3 Tryz.underlying25 _)) (bN cw rfl rfl (nS ?_)))))))
  refine cd rfl (fun a0 => ?_) (fun a0 => ?_)
  ·have hgo := s
   have a5 := a0
   try simp only [qa] at a5
   refine az (aq (am (bm (am (sR (gL (ab.g_Actions r0) rfl rfl rfl fun c5 b5 => (mV rfl ?_)))))))
   obtain ⟨d1, b6, c2⟩ := dq (i := a1) b5 (by omega) (by omega)
   refine ae (bg rfl rfl b6) ?_
   obtain ⟨c8, c0, b2⟩ := bp.g_Params c2
   refine fA rfl c0 (lD b2 rfl rfl rfl (ae (cv rfl (ci b2 Tryz.underlying23 _)) (bN nj rfl rfl (mV rfl ?_))))
   refine cq 9 (d := 53) (v := vb ((decide (20 < (((ix x0.Actions a1).Params).length : Int))) || (decide (30 < (((ix x0.Actions a1).Body).length : Int))))) ?_ ?_
   ·intro S Q r
    cases b1 : (decide (20 < (((ix x0.Actions a1).Params).length : Int)))
    ·intro k
     have a4 := b1
     try simp only [qa] at a4
     obtain ⟨d2, b7, a9⟩ := ab.g_Actions r0
     refine ah rfl rfl (bw rfl b7) (ah rfl rfl (bv rfl (TR.cnt (tSl bp.t) a9) (TR.agg (tSl bp.t) a9)) (ah rfl rfl (av rfl) ?_))
     obtain ⟨c9, b4, b9⟩ := dq (i := a1) a9 (by omega) (by omega)
     refine ah rfl rfl (bg rfl rfl b4) ?_
     obtain ⟨c7, c1, b0⟩ := bp.g_Body b9
     refine ah rfl rfl (bw rfl c1) (ah rfl rfl (bv rfl (TR.cnt (tSl ak.t) b0) (TR.agg (tSl ak.t) b0)) (ah rfl rfl (cv rfl (ci b0 Tryz.underlying95 _)) (ah rfl rfl (bq rfl rfl nj) ?_)))
     exact gK rfl rfl rfl rfl rfl k
    ·exact gN 8 rfl rfl rfl rfl rfl rfl
   refine nS ?_
   refine cg s rfl ?_ ?_ <;> clear s <;> intro a3 s <;> have a8 := a3 <;> try simp only [qa] at a8
   ·refine sR (mB rfl (nS ?_))
    exact rR s rfl rfl rfl
   ·refine az (aq (sR (mI rfl (nS (bm ?_)))))
    refine wC (zy r0 a2 a7 a0 a3 ?_  rfl (by omega) s) rfl
    ·intro  s
     refine gm (de (aq (ay (mV rfl (bN gv rfl rfl (mV rfl (br (di ?_))))))))
     have hbd := en b3
     have hinc : wr (a1 + 1) = a1 + 1 := ee (by omega) (by omega)
     erw [hinc]
     exact wC (ih   (by omega) (by omega) s) rfl
  ·exfalso
   try simp only [qa] at a0
   omega

theorem yd {S : List Fr} {res : Bool} {x0 : ab} {v0 : PV} (r0 : ab.t.R x0 v0) (a2 : ((((decide (20 < (x0.Headers.length : Int))) || (decide (30 < (x0.Metadata.length : Int)))) || (decide (20 < (x0.Registers.length : Int)))) || (decide (40 < (x0.Actions.length : Int)))) = false) {K4 : Unit → Bool}
  (b5 : K4 () = res → PX Tryz.prog 4 S (QR Tryz.prog [(2, none)] (RF33 res)) [(1, .fp v0)] ⟨0, []⟩) :
  ∀ {m : Nat} {a0 : Int} (b0 : m = Int.toNat ((x0.Headers.length : Int) - a0)) (a3 : 0 ≤ a0), mj x0 K4 m a0 = res → RC Tryz.prog (.loop ci5) S (QR Tryz.prog [(2, none)] (RF33 res)) [(5, vi a0), (1, .fp v0)] ⟨0, []⟩ := by
 have a1 := a2
 try simp only [qa] at a1
 intro m
 induction m with
 | zero =>
  intro a0 b0 a3 s
  rw [mj] at s
  refine co (am (sR (mV rfl (gL (ab.g_Headers r0) rfl rfl rfl fun b1 a7 => (ae (cv rfl (ci a7 Tryz.underlying22 _)) (bN cw rfl rfl (nS ?_)))))))
  refine cd rfl ?_ ?_ <;> intro c <;> try simp only [qa] at c
  ·omega
  refine fj (gg (dw ?_))
  exact wP (b5  s) rfl
 | succ m ih =>
  intro a0 b0 a3 s
  rw [mj] at s
  refine co (am (sR (mV rfl (gL (ab.g_Headers r0) rfl rfl rfl fun b6 a4 => (ae (cv rfl (ci a4 Tryz.underlying22 _)) (bN cw rfl rfl (nS ?_)))))))
  refine cd rfl ?_ ?_ <;> intro c <;> try simp only [qa] at c
  rotate_left
  ·omega
  refine az (aq (am (bm (sR (gL (ab.g_Headers r0) rfl rfl rfl fun b4 a5 => (mV rfl ?_))))))
  obtain ⟨b2, a9, a8⟩ := dq (i := a0) a5 (by omega) (by omega)
  refine ae (bg rfl rfl a9) (gL (cj.g_Fields a8) rfl rfl rfl fun b3 a6 => (ae (cv rfl (ci a6 Tryz.underlying23 _)) (bN nj rfl rfl (nS ?_))))
  refine cg s rfl ?_ ?_ <;> clear s <;> intro c s <;> try simp only [qa] at c
  ·refine sR (mB rfl (nS ?_))
   exact rR s rfl rfl rfl
  ·refine az (de (aq (ay (mV rfl (bN gv rfl rfl (mV rfl (br (di ?_))))))))
   have hbd := en a4
   have hinc : wr (a0 + 1) = a0 + 1 := ee (by omega) (by omega)
   erw [hinc]
   exact wC (ih   (by omega) (by omega) s) rfl

theorem ye {S : List Fr} {res : Bool} {x0 : ab} {v0 : PV} (r0 : ab.t.R x0 v0) (a2 : ((((decide (20 < (x0.Headers.length : Int))) || (decide (30 < (x0.Metadata.length : Int)))) || (decide (20 < (x0.Registers.length : Int)))) || (decide (40 < (x0.Actions.length : Int)))) = false) {K6 : Unit → Bool}
  (b3 : K6 () = res → PX Tryz.prog 6 S (QR Tryz.prog [(2, none)] (RF33 res)) [] ⟨0, []⟩) :
  ∀ {m : Nat} {a0 : Int} (a9 : m = Int.toNat ((x0.Registers.length : Int) - a0)) (a3 : 0 ≤ a0), oh x0 K6 m a0 = res → RC Tryz.prog (.loop cp2) S (QR Tryz.prog [(2, none)] (RF33 res)) [(6, vi a0), (1, .fp v0)] ⟨0, []⟩ := by
 have a1 := a2
 try simp only [qa] at a1
 intro m
 induction m with
 | zero =>
  intro a0 a9 a3 s
  rw [oh] at s
  refine co (am (sR (mV rfl (gL (ab.g_Registers r0) rfl rfl rfl fun b0 a7 => (ae (cv rfl (ci a7 Tryz.underlying24 _)) (bN cw rfl rfl (nS ?_)))))))
  refine cd rfl ?_ ?_ <;> intro c <;> try simp only [qa] at c
  ·omega
  refine fj (gg (dw ?_))
  exact wP (b3  s) rfl
 | succ m ih =>
  intro a0 a9 a3 s
  rw [oh] at s
  refine co (am (sR (mV rfl (gL (ab.g_Registers r0) rfl rfl rfl fun b2 a4 => (ae (cv rfl (ci a4 Tryz.underlying24 _)) (bN cw rfl rfl (nS ?_)))))))
  refine cd rfl ?_ ?_ <;> intro c <;> try simp only [qa] at c
  rotate_left
  ·omega
  refine az (aq (am (bm (sR (gL (ab.g_Registers r0) rfl rfl rfl fun b1 a8 => (mV rfl ?_))))))
  obtain ⟨b4, a5, a6⟩ := dq (i := a0) a8 (by omega) (by omega)
  refine ae (bg rfl rfl a5) (fL rfl (cm.g_Size a6) rfl rfl (bN nj rfl rfl (nS ?_)))
  refine cg s rfl ?_ ?_ <;> clear s <;> intro c s <;> try simp only [qa] at c
  ·refine sR (mB rfl (nS ?_))
   exact rR s rfl rfl rfl
  ·refine az (de (aq (ay (mV rfl (bN gv rfl rfl (mV rfl (br (di ?_))))))))
   have hbd := en a4
   have hinc : wr (a0 + 1) = a0 + 1 := ee (by omega) (by omega)
   erw [hinc]
   exact wC (ih   (by omega) (by omega) s) rfl

theorem dc6 {x0 : ab} {v0 : PV} (r0 : ab.t.R x0 v0) : FnR Tryz.prog 33 [v0] (vb (kg x0)) := by
 refine fnS (R := RF33) de0 (fun _ h => h) rfl fun res s => ?_
 unfold kg at s
 refine sR (ae (dm rfl (TR.cnt ab.t r0)) (mB rfl (nS (am (sR ?_)))))
 obtain ⟨b8, b2, a9⟩ := ab.g_Headers r0
 refine fA rfl b2 (lD a9 rfl rfl rfl (ae (cv rfl (ci a9 Tryz.underlying22 _)) (bN nj rfl rfl (mV rfl ?_))))
 refine cq 5 (d := 16) (v := vb ((decide (20 < (x0.Headers.length : Int))) || (decide (30 < (x0.Metadata.length : Int))))) ?_ ?_
 ·intro S Q r
  cases b0 : (decide (20 < (x0.Headers.length : Int)))
  ·intro k
   have a7 := b0
   try simp only [qa] at a7
   obtain ⟨b9, b5, a1⟩ := ab.g_Metadata r0
   refine ah rfl rfl (bw rfl b5) (ah rfl rfl (bv rfl (TR.cnt (tSl ax.t) a1) (TR.agg (tSl ax.t) a1)) (ah rfl rfl (cv rfl (ci a1 Tryz.underlying23 _)) (ah rfl rfl (bq rfl rfl nj) ?_)))
   exact gK rfl rfl rfl rfl rfl k
  ·exact gN 4 rfl rfl rfl rfl rfl rfl
 refine mV rfl ?_
 refine cq 5 (d := 22) (v := vb (((decide (20 < (x0.Headers.length : Int))) || (decide (30 < (x0.Metadata.length : Int)))) || (decide (20 < (x0.Registers.length : Int))))) ?_ ?_
 ·intro S Q r
  cases b1 : ((decide (20 < (x0.Headers.length : Int))) || (decide (30 < (x0.Metadata.length : Int))))
  ·intro k
   have a6 := b1
   try simp only [qa] at a6
   obtain ⟨b6, b4, a3⟩ := ab.g_Registers r0
   refine ah rfl rfl (bw rfl b4) (ah rfl rfl (bv rfl (TR.cnt (tSl cm.t) a3) (TR.agg (tSl cm.t) a3)) (ah rfl rfl (cv rfl (ci a3 Tryz.underlying24 _)) (ah rfl rfl (bq rfl rfl nj) ?_)))
   exact gK rfl rfl rfl rfl rfl k
  ·exact gN 4 rfl rfl rfl rfl rfl rfl
 refine mV rfl ?_
 refine cq 5 (d := 28) (v := vb ((((decide (20 < (x0.Headers.length : Int))) || (decide (30 < (x0.Metadata.length : Int)))) || (decide (20 < (x0.Registers.length : Int)))) || (decide (40 < (x0.Actions.length : Int))))) ?_ ?_
 ·intro S Q r
  cases a8 : (((decide (20 < (x0.Headers.length : Int))) || (decide (30 < (x0.Metadata.length : Int)))) || (decide (20 < (x0.Registers.length : Int))))
  ·intro k
   have a2 := a8
   try simp only [qa] at a2
   obtain ⟨b7, b3, a4⟩ := ab.g_Actions r0
   refine ah rfl rfl (bw rfl b3) (ah rfl rfl (bv rfl (TR.cnt (tSl bp.t) a4) (TR.agg (tSl bp.t) a4)) (ah rfl rfl (cv rfl (ci a4 Tryz.underlying25 _)) (ah rfl rfl (bq rfl rfl nj) ?_)))
   exact gK rfl rfl rfl rfl rfl k
  ·exact gN 4 rfl rfl rfl rfl rfl rfl
 refine nS ?_
 refine cg s rfl ?_ ?_ <;> clear s <;> intro a0 s <;> have a5 := a0 <;> try simp only [qa] at a5
 ·refine sR (mB rfl (nS ?_))
  exact rR s rfl rfl rfl
 ·refine az (aq (am (sR (mI rfl (nS (bm ?_))))))
  refine wC (yh r0 a0 ?_  rfl (by omega) s) rfl
  ·intro  s
   refine gm (aq (am (sR (mI rfl (nS (bm ?_))))))
   refine wC (yd r0 a0 ?_  rfl (by omega) s) rfl
   ·intro  s
    refine gm (aq (am (sR (mI rfl (nS (bm ?_))))))
    refine wC (ye r0 a0 ?_  rfl (by omega) s) rfl
    ·intro  s
     refine gm (aq (sR (mB rfl (nS ?_))))
     exact rR s rfl rfl rfl

def RF82 (res : Bool) (r : PV) : Prop := r = vb res
theorem zf {S : List Fr} {res : Bool} {x0 : ab} {x1 : au} {v0 v1 : PV} (r0 : ab.t.R x0 v0) (r1 : au.t.R x1 v1) (a5 : (((!decide ((x1.Valid.length : Int) = (x0.Headers.length : Int))) || (!decide ((x1.Fields.length : Int) = (x0.Headers.length : Int)))) || (!decide ((x1.Metd.length : Int) = (x0.Metadata.length : Int)))) = false) {K0 : Unit → Bool}
  (c2 : K0 () = res → PX Tryz.prog 0 S (QR Tryz.prog [(4, none)] (RF82 res)) [] ⟨0, []⟩) :
  ∀ {m : Nat} {a0 : Int} (b7 : m = Int.toNat ((x0.Headers.length : Int) - a0)) (a7 : 0 ≤ a0), li x0 x1 K0 m a0 = res → RC Tryz.prog (.loop ck3) S (QR Tryz.prog [(4, none)] (RF82 res)) [(5, vi a0), (3, .fp v1), (2, .fp v0)] ⟨0, []⟩ := by
 have a2 := a5
 try simp only [qa] at a2
 intro m
 induction m with
 | zero =>
  intro a0 b7 a7 s
  rw [li] at s
  refine co (am (sR (mV rfl (gL (ab.g_Headers r0) rfl rfl rfl fun c5 b3 => (ae (cv rfl (ci b3 Tryz.underlying22 _)) (bN cw rfl rfl (nS ?_)))))))
  refine cd rfl ?_ ?_ <;> intro c <;> try simp only [qa] at c
  ·omega
  refine fj (gg (dw ?_))
  exact wP (c2  s) rfl
 | succ m ih =>
  intro a0 b7 a7 s
  rw [li] at s
  refine co (am (sR (mV rfl ?_)))
  obtain ⟨b8, b5, a1⟩ := ab.g_Headers r0
  refine fA rfl b5 (lD a1 rfl rfl rfl (ae (cv rfl (ci a1 Tryz.underlying22 _)) (bN cw rfl rfl (nS ?_))))
  refine cd rfl ?_ ?_ <;> intro c <;> try simp only [qa] at c
  rotate_left
  ·omega
  refine az (aq (am (bm (sR ?_))))
  obtain ⟨c3, b1, a8⟩ := au.g_Fields r1
  refine fA rfl b1 (lD a8 rfl rfl rfl (mV rfl ?_))
  obtain ⟨c0, b4, a3⟩ := dq (i := a0) a8 (by omega) (by omega)
  refine ae (bg rfl rfl b4) (lD a3 rfl rfl rfl (ae (cv rfl (ci a3 Tryz.underlying43 _)) ?_))
  obtain ⟨b9, b0, a4⟩ := ab.g_Headers r0
  refine fA rfl b0 (lD a4 rfl rfl rfl (mV rfl ?_))
  obtain ⟨c4, b2, b6⟩ := dq (i := a0) a4 (by omega) (by omega)
  refine ae (bg rfl rfl b2) ?_
  obtain ⟨c1, a9, a6⟩ := cj.g_Fields b6
  refine fA rfl a9 (lD a6 rfl rfl rfl (ae (cv rfl (ci a6 Tryz.underlying23 _)) (bN mi rfl rfl (nS ?_))))
  refine cg s rfl ?_ ?_ <;> clear s <;> intro c s <;> try simp only [qa] at c
  ·refine sR (mB rfl (nS ?_))
   exact rR s rfl rfl rfl
  ·refine az (de (aq (ay (mV rfl (bN gv rfl rfl (mV rfl (br (di ?_))))))))
   have hbd := en a1
   have hinc : wr (a0 + 1) = a0 + 1 := ee (by omega) (by omega)
   erw [hinc]
   exact wC (ih   (by omega) (by omega) s) rfl

theorem cz7 {x0 : ab} {x1 : au} {v0 v1 : PV} (r0 : ab.t.R x0 v0) (r1 : au.t.R x1 v1) : FnR Tryz.prog 82 [v0, v1] (vb (jq x0 x1)) := by
 refine fnS (R := RF82) dg1 (fun _ h => h) rfl fun res s => ?_
 unfold jq at s
 refine sR (ae (dm rfl (TR.cnt ab.t r0)) (ae (dm rfl (TR.cnt au.t r1)) (mB rfl (nS (am (sR ?_))))))
 obtain ⟨c0, b2, a9⟩ := au.g_Valid r1
 refine fA rfl b2 (lD a9 rfl rfl rfl (ae (cv rfl (ci a9 Tryz.underlying41 _)) (gL (ab.g_Headers r0) rfl rfl rfl fun c1 b6 => (ae (cv rfl (ci b6 Tryz.underlying22 _)) (bN mi rfl rfl (mV rfl ?_))))))
 refine cq 8 (d := 21) (v := vb ((!decide ((x1.Valid.length : Int) = (x0.Headers.length : Int))) || (!decide ((x1.Fields.length : Int) = (x0.Headers.length : Int))))) ?_ ?_
 ·intro S Q r
  cases b0 : (!decide ((x1.Valid.length : Int) = (x0.Headers.length : Int)))
  ·intro k
   have a2 := b0
   try simp only [qa] at a2
   obtain ⟨b7, b1, a7⟩ := au.g_Fields r1
   refine ah rfl rfl (bw rfl b1) (ah rfl rfl (bv rfl (TR.cnt (tSl (tSl dn)) a7) (TR.agg (tSl (tSl dn)) a7)) (ah rfl rfl (cv rfl (ci a7 Tryz.underlying42 _)) ?_))
   obtain ⟨b8, b4, a3⟩ := ab.g_Headers r0
   refine ah rfl rfl (bw rfl b4) (ah rfl rfl (bv rfl (TR.cnt (tSl cj.t) a3) (TR.agg (tSl cj.t) a3)) (ah rfl rfl (cv rfl (ci a3 Tryz.underlying22 _)) (ah rfl rfl (bq rfl rfl mi) ?_)))
   exact gK rfl rfl rfl rfl rfl k
  ·exact gN 7 rfl rfl rfl rfl rfl rfl
 refine mV rfl ?_
 refine cq 8 (d := 30) (v := vb (((!decide ((x1.Valid.length : Int) = (x0.Headers.length : Int))) || (!decide ((x1.Fields.length : Int) = (x0.Headers.length : Int)))) || (!decide ((x1.Metd.length : Int) = (x0.Metadata.length : Int))))) ?_ ?_
 ·intro S Q r
  cases a8 : ((!decide ((x1.Valid.length : Int) = (x0.Headers.length : Int))) || (!decide ((x1.Fields.length : Int) = (x0.Headers.length : Int))))
  ·intro k
   have a1 := a8
   try simp only [qa] at a1
   obtain ⟨b9, b3, a4⟩ := au.g_Meta r1
   refine ah rfl rfl (bw rfl b3) (ah rfl rfl (bv rfl (TR.cnt (tSl dn) a4) (TR.agg (tSl dn) a4)) (ah rfl rfl (cv rfl (ci a4 Tryz.underlying43 _)) ?_))
   obtain ⟨c2, b5, a6⟩ := ab.g_Metadata r0
   refine ah rfl rfl (bw rfl b5) (ah rfl rfl (bv rfl (TR.cnt (tSl ax.t) a6) (TR.agg (tSl ax.t) a6)) (ah rfl rfl (cv rfl (ci a6 Tryz.underlying23 _)) (ah rfl rfl (bq rfl rfl mi) ?_)))
   exact gK rfl rfl rfl rfl rfl k
  ·exact gN 7 rfl rfl rfl rfl rfl rfl
 refine nS ?_
 refine cg s rfl ?_ ?_ <;> clear s <;> intro a0 s <;> have a5 := a0 <;> try simp only [qa] at a5
 ·refine sR (mB rfl (nS ?_))
  exact rR s rfl rfl rfl
 ·refine az (aq (am (sR (mI rfl (nS (bm ?_))))))
  refine wC (zf r0 r1 a0 ?_  rfl (by omega) s) rfl
  ·intro  s
   refine gm (aq (sR (mB rfl (nS ?_))))
   exact rR s rfl rfl rfl

def RF84 (res : Int) (r : PV) : Prop := r = vi res
theorem by3 {x0 : ab} {x1 : aa} {v0 v1 : PV} (r0 : ab.t.R x0 v0) (r1 : aa.t.R x1 v1) : FnR Tryz.prog 84 [v0, v1] (vi (jf x0 x1)) := by
 refine fnS (R := RF84) cy4 (fun _ h => h) rfl fun res s => ?_
 unfold jf at s
 refine sR (ae (dm rfl (TR.cnt ab.t r0)) (ae (dm rfl (TR.cnt aa.t r1)) (mI rfl (nR (gL (ab.g_Metadata r0) rfl rfl rfl fun d0 b5 => (mV rfl (nS (am ?_))))))))
 refine sR (fL rfl (aa.g_Header r1) rfl rfl (bN mo rfl rfl (nS ?_)))
 obtain ⟨c2, b2, s⟩ := bt s
 refine qc (F := fun b S Q => ∀ (a0 : List ax) (a2 : PV) (a1 : (tSl ax.t).R a0 a2), c2 a0 = res → RC Tryz.prog b S Q [(5, a2), (3, .fp v1)] ⟨0, []⟩) ?_ ?_
 ·intro a0 a2 a1  s
  rw [← b2] at s
  refine am (sR (fL rfl (aa.g_Header r1) rfl rfl (bN (cw (b := -1)) rfl rfl (mV rfl ?_))))
  refine cq 4 (d := 31) (v := vb ((decide (x1.Header < (-1))) || (decide (x1.Field < 0)))) ?_ ?_
  ·intro S Q r
   cases b1 : (decide (x1.Header < (-1)))
   ·intro k
    have a3 := b1
    try simp only [qa] at a3
    refine ah rfl rfl (bw rfl (aa.g_Field r1)) (ah rfl rfl (bv rfl rfl rfl) (ah rfl rfl (bq rfl rfl cw) ?_))
    exact gK rfl rfl rfl rfl rfl k
   ·exact gN 3 rfl rfl rfl rfl rfl rfl
  refine mV rfl ?_
  refine cq 6 (d := 38) (v := vb (((decide (x1.Header < (-1))) || (decide (x1.Field < 0))) || (decide ((a0.length : Int) ≤ x1.Field)))) ?_ ?_
  ·intro S Q r
   cases a9 : ((decide (x1.Header < (-1))) || (decide (x1.Field < 0)))
   ·intro k
    have a5 := a9
    try simp only [qa] at a5
    refine ah rfl rfl (bw rfl (aa.g_Field r1)) (ah rfl rfl (bv rfl rfl rfl) (ah rfl rfl (av rfl) (ah rfl rfl (cv rfl (ci a1 Tryz.underlying23 _)) (ah rfl rfl (bq rfl rfl mo) ?_))))
    exact gK rfl rfl rfl rfl rfl k
   ·exact gN 5 rfl rfl rfl rfl rfl rfl
  refine mV rfl ?_
  refine cq 8 (d := 47) (v := vb ((((decide (x1.Header < (-1))) || (decide (x1.Field < 0))) || (decide ((a0.length : Int) ≤ x1.Field))) || (decide (((ix a0 x1.Field).Width) < 1)))) ?_ ?_
  ·intro S Q r
   cases a7 : (((decide (x1.Header < (-1))) || (decide (x1.Field < 0))) || (decide ((a0.length : Int) ≤ x1.Field)))
   ·intro k
    have a4 := a7
    try simp only [qa] at a4
    refine ah rfl rfl (av rfl) (ah rfl rfl (bw rfl (aa.g_Field r1)) (ah rfl rfl (bv rfl rfl rfl) ?_))
    obtain ⟨c7, c3, b9⟩ := dq (i := x1.Field) a1 (by omega) (by omega)
    refine ah rfl rfl (bg rfl rfl c3) (ah rfl rfl (bw rfl (ax.g_Width b9)) (ah rfl rfl (bv rfl rfl rfl) (ah rfl rfl (bq rfl rfl cw) ?_)))
    exact gK rfl rfl rfl rfl rfl k
   ·exact gN 7 rfl rfl rfl rfl rfl rfl
  refine mV rfl ?_
  refine cq 8 (d := 56) (v := vb (((((decide (x1.Header < (-1))) || (decide (x1.Field < 0))) || (decide ((a0.length : Int) ≤ x1.Field))) || (decide (((ix a0 x1.Field).Width) < 1))) || (decide (32 < ((ix a0 x1.Field).Width))))) ?_ ?_
  ·intro S Q r
   cases b3 : ((((decide (x1.Header < (-1))) || (decide (x1.Field < 0))) || (decide ((a0.length : Int) ≤ x1.Field))) || (decide (((ix a0 x1.Field).Width) < 1)))
   ·intro k
    have a6 := b3
    try simp only [qa] at a6
    refine ah rfl rfl (av rfl) (ah rfl rfl (bw rfl (aa.g_Field r1)) (ah rfl rfl (bv rfl rfl rfl) ?_))
    obtain ⟨d3, b6, c6⟩ := dq (i := x1.Field) a1 (by omega) (by omega)
    refine ah rfl rfl (bg rfl rfl b6) (ah rfl rfl (bw rfl (ax.g_Width c6)) (ah rfl rfl (bv rfl rfl rfl) (ah rfl rfl (bq rfl rfl nj) ?_)))
    exact gK rfl rfl rfl rfl rfl k
   ·exact gN 7 rfl rfl rfl rfl rfl rfl
  refine nS ?_
  refine cg s rfl ?_ ?_ <;> clear s <;> intro c s <;> try simp only [qa] at c
  ·refine sR (mI rfl (nS ?_))
   exact rR s rfl rfl rfl
  ·refine az (aq (sR (mV rfl (fL rfl (aa.g_Field r1) rfl rfl ?_))))
   obtain ⟨c8, b4, b8⟩ := dq (i := x1.Field) a1 (by omega) (by omega)
   refine ae (bg rfl rfl b4) (fL rfl (ax.g_Width b8) rfl rfl (mV rfl (nS ?_)))
   exact rR s rfl rfl rfl
 ·intro J
  refine cg s rfl ?_ ?_ <;> clear s <;> intro c s <;> try simp only [qa] at c
  ·refine am (sR (fL rfl (aa.g_Header r1) rfl rfl (gL (ab.g_Headers r0) rfl rfl rfl fun d1 c0 => (ae (cv rfl (ci c0 Tryz.underlying22 _)) (bN mo rfl rfl (nS ?_))))))
   refine cg s rfl ?_ ?_ <;> clear s <;> intro c s <;> try simp only [qa] at c
   ·refine sR (mI rfl (nS ?_))
    exact rR s rfl rfl rfl
   ·refine az (aq (ay ?_))
    obtain ⟨d2, c5, a8⟩ := ab.g_Headers r0
    refine fA rfl c5 (lD a8 rfl rfl rfl (fL rfl (aa.g_Header r1) rfl rfl ?_))
    obtain ⟨d4, c1, b7⟩ := dq (i := x1.Header) a8 (by omega) (by omega)
    refine ae (bg rfl rfl c1) ?_
    obtain ⟨c9, c4, b0⟩ := cj.g_Fields b7
    refine fA rfl c4 (lD b0 rfl rfl rfl (mV rfl (br ?_)))
    refine aq (wC (J _ _ b0  s) rfl)
  ·refine az ?_
   refine aq (wC (J _ _ b5  s) rfl)

def RF83 (res : Bool) (r : PV) : Prop := r = vb res
theorem ab2 {S : List Fr} {res : Bool} {x0 : BitVec 32} {x1 : Int} (hq : x1 ≤ 32) {K0 : (BitVec 64) → Bool}
  (a4 : ∀ {a0 : BitVec 64}, K0 a0 = res → PX Tryz.prog 0 S (QR Tryz.prog [(4, none)] (RF83 res)) [(0, bh x0), (5, yn a0)] ⟨0, []⟩) :
  ∀ {m : Nat} {a0 : BitVec 64} {a1 : Int} (a3 : m = Int.toNat (x1 - a1)) (a2 : 0 ≤ a1), mb K0 m a0 a1 = res → RC Tryz.prog (.loop ch6) S (QR Tryz.prog [(4, none)] (RF83 res)) [(6, vi a1), (5, yn a0), (1, vi x1), (0, bh x0)] ⟨0, []⟩ := by
 intro m
 induction m with
 | zero =>
  intro a0 a1 a3 a2 s
  rw [mb] at s
  refine co (am (sR (mV rfl (mV rfl (bN cw rfl rfl (nS ?_))))))
  refine cd rfl ?_ ?_ <;> intro c <;> try simp only [qa] at c
  ·omega
  refine fj (gg (dw ?_))
  exact wP (a4  s) rfl
 | succ m ih =>
  intro a0 a1 a3 a2 s
  rw [mb] at s
  refine co (am (sR (mV rfl (mV rfl (bN cw rfl rfl (nS ?_))))))
  refine cd rfl ?_ ?_ <;> intro c <;> try simp only [qa] at c
  rotate_left
  ·omega
  refine az (aq (am (bm (ay (mV rfl (ae (bq (a := yn 2#64) (b := yn a0) rfl rfl dn0) (mV rfl (br ?_))))))))
  refine de (aq (ay (mV rfl (bN gv rfl rfl (mV rfl (br (di ?_)))))))
  have hinc : wr (a1 + 1) = a1 + 1 := ee (by omega) (by omega)
  erw [hinc]
  exact wC (ih   (by omega) (by omega) s) rfl

theorem bb4 {x0 : BitVec 32} {x1 : Int} (hq : x1 ≤ 32) : FnR Tryz.prog 83 [bh x0, vi x1] (vb (pj x0 x1)) := by
 refine fnS (R := RF83) da7 (fun _ h => h) rfl fun res s => ?_
 unfold pj at s
 refine sR (mB rfl (nR (ae (v := yn 1#64) (av rfl) (nS (am (sR (mI rfl (nS ?_))))))))
 refine bm ?_
 refine wC (ab2 hq ?_  rfl (by omega) s) rfl
 ·intro a0 s
  refine gm (aq (sR (mV rfl (ae (ue (a := bh x0) rfl (c_wd Tryz.underlying89 Tryz.underlying201)) (mV rfl (ae (bq (a := yn (BitVec.setWidth 64 x0)) (b := yn a0) rfl rfl ds6) (mV rfl (nS ?_))))))))
  exact rR s rfl rfl rfl

def RF21 (res : Int) (r : PV) : Prop := r = vi res
theorem zg {S : List Fr} {res : Int} {x0 : ab} {x1 : au} {a7 : Bool} {a0 : Int} {v0 v1 : PV} (r0 : ab.t.R x0 v0) (r1 : au.t.R x1 v1) (c4 : jq x0 x1 = a7) (a8 : (!a7) = false) (c8 : 0 ≤ a0) (b4 : (decide (a0 < (x1.Fields.length : Int))) = true) {K2 : Unit → Int}
  (c9 : K2 () = res → PX Tryz.prog 2 S (QR Tryz.prog [(4, none)] (RF21 res)) [(2, .fp v0), (3, .fp v1), (5, vi a0)] ⟨0, []⟩) :
  ∀ {m : Nat} {a1 : Int} (c2 : m = Int.toNat (((ix x1.Fields a0).length : Int) - a1)) (b2 : 0 ≤ a1), lm x0 x1 a0 K2 m a1 = res → RC Tryz.prog (.loop cu7) S (QR Tryz.prog [(4, none)] (RF21 res)) [(6, vi a1), (5, vi a0), (3, .fp v1), (2, .fp v0)] ⟨0, []⟩ := by
 have a4 := a8
 try simp only [qa] at a4
 have a3 := b4
 try simp only [qa] at a3
 intro m
 induction m with
 | zero =>
  intro a1 c2 b2 s
  rw [lm] at s
  refine co (am (sR (mV rfl (gL (au.g_Fields r1) rfl rfl rfl fun c5 b8 => (mV rfl ?_)))))
  obtain ⟨d1, b9, b1⟩ := dq (i := a0) b8 (by first | omega | (have hk := jo (by assumption) (by assumption); omega)) (by first | omega | (have hk := jo (by assumption) (by assumption); omega))
  refine ae (bg rfl rfl b9) (lD b1 rfl rfl rfl (ae (cv rfl (ci b1 Tryz.underlying43 _)) (bN cw rfl rfl (nS ?_))))
  refine cd rfl ?_ ?_ <;> intro c <;> try simp only [qa] at c
  ·omega
  refine fj (gg (dw ?_))
  exact wP (c9  s) rfl
 | succ m ih =>
  intro a1 c2 b2 s
  rw [lm] at s
  refine co (am (sR (mV rfl (gL (au.g_Fields r1) rfl rfl rfl fun d2 c0 => (mV rfl ?_)))))
  obtain ⟨c7, c1, a5⟩ := dq (i := a0) c0 (by first | omega | (have hk := jo (by assumption) (by assumption); omega)) (by first | omega | (have hk := jo (by assumption) (by assumption); omega))
  refine ae (bg rfl rfl c1) (lD a5 rfl rfl rfl (ae (cv rfl (ci a5 Tryz.underlying43 _)) (bN cw rfl rfl (nS ?_))))
  refine cd rfl ?_ ?_ <;> intro c <;> try simp only [qa] at c
  rotate_left
  ·omega
  refine az (aq (am (bm (sR (gL (au.g_Fields r1) rfl rfl rfl fun c6 b6 => (mV rfl ?_))))))
  obtain ⟨d0, b7, b5⟩ := dq (i := a0) b6 (by first | omega | (have hk := jo (by assumption) (by assumption); omega)) (by first | omega | (have hk := jo (by assumption) (by assumption); omega))
  refine ae (bg rfl rfl b7) (lD b5 rfl rfl rfl (mV rfl (ae (bg rfl rfl (uj b5 (by first | omega | (have hk := jo (by assumption) (by assumption); omega)) (by first | omega | (have hk := jo (by assumption) (by assumption); omega)))) (lR rfl rfl rfl (lD r0 rfl rfl rfl (mV rfl (mV rfl (ae (v := .agg [vi a0, vi a1]) (fk (cs := [vi a0, vi a1]) rfl rfl) ?_))))))))
  obtain ⟨a6, a2, s⟩ := bt s
  have a9 := by3  r0 (show aa.t.R ({ Header := a0, Field := a1 } : aa) (.agg [vi a0, vi a1]) from rfl) 
  rw [a2] at a9
  have c3 : a6 ≤ 32 := bf0 a2
  refine cL a9 rfl rfl (ai (TR.clo ab.t r0) (ai (TR.clo aa.t (show aa.t.R ({ Header := a0, Field := a1 } : aa) (.agg [vi a0, vi a1]) from rfl)) bf)) ?_
  obtain ⟨d3, b0, s⟩ := bt s
  have b3 := bb4 (x0 := (ix (ix x1.Fields a0) a1)) (x1 := a6)  (by first | assumption | omega | (rw [ee (by omega) (by omega)]; omega) | (have hk := rval rfl (And.right (And.left (by assumption))); omega) | (have hk := rval (by assumption) (by assumption); omega) | (have hk := rval (by assumption) (And.left (by assumption)); omega) | (have hk := rval (by assumption) (And.left (And.left (by assumption))); have hz := rslc (by assumption); omega) | (simp; done) | (simp only [List.length_append, List.length_nil, List.length_cons]; omega) | (have hk := (dx (by assumption) (by assumption)).1; omega) | (simp only [List.length_cons, List.length_nil]; omega) | (simp only [List.length_append]; have hk := (dx (by assumption) (by assumption)).1; omega) | (simp only [List.length_append, List.length_nil]; have hk := (dx (by assumption) (by assumption)).1; omega))
  rw [b0] at b3
  refine cL b3 rfl rfl (ai rfl (ai rfl bf)) (ae (ju rfl) (nS ?_))
  refine cg s rfl ?_ ?_ <;> clear s <;> intro c s <;> try simp only [qa] at c
  ·refine sR (mI rfl (nS ?_))
   exact rR s rfl rfl rfl
  ·refine az (de (aq (ay (mV rfl (bN gv rfl rfl (mV rfl (br (di ?_))))))))
   have hbd := en a5
   have hinc : wr (a1 + 1) = a1 + 1 := ee (by omega) (by omega)
   erw [hinc]
   exact wC (ih   (by omega) (by omega) s) rfl

theorem aa0 {S : List Fr} {res : Int} {x0 : ab} {x1 : au} {a6 : Bool} {v0 v1 : PV} (r0 : ab.t.R x0 v0) (r1 : au.t.R x1 v1) (a8 : jq x0 x1 = a6) (a1 : (!a6) = false) {K0 : Unit → Int}
  (b2 : K0 () = res → PX Tryz.prog 0 S (QR Tryz.prog [(4, none)] (RF21 res)) [(2, .fp v0), (3, .fp v1)] ⟨0, []⟩) :
  ∀ {m : Nat} {a2 : Int} (b0 : m = Int.toNat ((x1.Fields.length : Int) - a2)) (a5 : 0 ≤ a2), lp x0 x1 K0 m a2 = res → RC Tryz.prog (.loop cl5) S (QR Tryz.prog [(4, none)] (RF21 res)) [(5, vi a2), (3, .fp v1), (2, .fp v0)] ⟨0, []⟩ := by
 have a4 := a1
 try simp only [qa] at a4
 intro m
 induction m with
 | zero =>
  intro a2 b0 a5 s
  rw [lp] at s
  refine co (am (sR (mV rfl (gL (au.g_Fields r1) rfl rfl rfl fun b3 a9 => (ae (cv rfl (ci a9 Tryz.underlying42 _)) (bN cw rfl rfl (nS ?_)))))))
  refine cd rfl ?_ ?_ <;> intro c <;> try simp only [qa] at c
  ·omega
  refine fj (gg (dw ?_))
  exact wP (b2  s) rfl
 | succ m ih =>
  intro a2 b0 a5 s
  rw [lp] at s
  refine co (am (sR (mV rfl (gL (au.g_Fields r1) rfl rfl rfl fun b1 a7 => (ae (cv rfl (ci a7 Tryz.underlying42 _)) (bN cw rfl rfl (nS ?_)))))))
  refine cd rfl (fun a0 => ?_) (fun a0 => ?_)
  ·have hgo := s
   have a3 := a0
   try simp only [qa] at a3
   refine az (aq (am (bm (sR (mI rfl (nS (bm ?_)))))))
   refine wC (zg r0 r1 a8 a1 a5 a0 ?_  rfl (by omega) s) rfl
   ·intro  s
    refine gm (de (aq (ay (mV rfl (bN gv rfl rfl (mV rfl (br (di ?_))))))))
    have hbd := en a7
    have hinc : wr (a2 + 1) = a2 + 1 := ee (by omega) (by omega)
    erw [hinc]
    exact wC (ih   (by omega) (by omega) s) rfl
  ·exfalso
   try simp only [qa] at a0
   omega

theorem yj {S : List Fr} {res : Int} {x0 : ab} {x1 : au} {a4 : Bool} {v0 v1 : PV} (r0 : ab.t.R x0 v0) (r1 : au.t.R x1 v1) (b3 : jq x0 x1 = a4) (a6 : (!a4) = false) {K4 : Unit → Int}
  (b9 : K4 () = res → PX Tryz.prog 4 S (QR Tryz.prog [(4, none)] (RF21 res)) [(3, .fp v1)] ⟨0, []⟩) :
  ∀ {m : Nat} {a0 : Int} (b4 : m = Int.toNat ((x1.Metd.length : Int) - a0)) (b0 : 0 ≤ a0), ll x0 x1 K4 m a0 = res → RC Tryz.prog (.loop cs3) S (QR Tryz.prog [(4, none)] (RF21 res)) [(7, vi a0), (3, .fp v1), (2, .fp v0)] ⟨0, []⟩ := by
 have a2 := a6
 try simp only [qa] at a2
 intro m
 induction m with
 | zero =>
  intro a0 b4 b0 s
  rw [ll] at s
  refine co (am (sR (mV rfl (gL (au.g_Meta r1) rfl rfl rfl fun c0 b1 => (ae (cv rfl (ci b1 Tryz.underlying43 _)) (bN cw rfl rfl (nS ?_)))))))
  refine cd rfl ?_ ?_ <;> intro c <;> try simp only [qa] at c
  ·omega
  refine fj (gg (dw ?_))
  exact wP (b9  s) rfl
 | succ m ih =>
  intro a0 b4 b0 s
  rw [ll] at s
  refine co (am (sR (mV rfl (gL (au.g_Meta r1) rfl rfl rfl fun b6 a3 => (ae (cv rfl (ci a3 Tryz.underlying43 _)) (bN cw rfl rfl (nS ?_)))))))
  refine cd rfl ?_ ?_ <;> intro c <;> try simp only [qa] at c
  rotate_left
  ·omega
  refine az (aq (am (bm (sR (gL (au.g_Meta r1) rfl rfl rfl fun b8 b2 => (mV rfl (ae (bg rfl rfl (uj b2 (by first | omega | (have hk := jo (by assumption) (by assumption); omega)) (by first | omega | (have hk := jo (by assumption) (by assumption); omega)))) (lR rfl rfl rfl ?_))))))))
  refine lD r0 rfl rfl rfl (mV rfl (ae (v := .agg [vi (-1), vi a0]) (fk (cs := [vi (-1), vi a0]) rfl rfl) ?_))
  obtain ⟨a9, a1, s⟩ := bt s
  have a5 := by3  r0 (show aa.t.R ({ Header := (-1), Field := a0 } : aa) (.agg [vi (-1), vi a0]) from rfl) 
  rw [a1] at a5
  have b5 : a9 ≤ 32 := bf0 a1
  refine cL a5 rfl rfl (ai (TR.clo ab.t r0) (ai (TR.clo aa.t (show aa.t.R ({ Header := (-1), Field := a0 } : aa) (.agg [vi (-1), vi a0]) from rfl)) bf)) ?_
  obtain ⟨b7, a7, s⟩ := bt s
  have a8 := bb4 (x0 := (ix x1.Metd a0)) (x1 := a9)  (by first | assumption | omega | (rw [ee (by omega) (by omega)]; omega) | (have hk := rval rfl (And.right (And.left (by assumption))); omega) | (have hk := rval (by assumption) (by assumption); omega) | (have hk := rval (by assumption) (And.left (by assumption)); omega) | (have hk := rval (by assumption) (And.left (And.left (by assumption))); have hz := rslc (by assumption); omega) | (simp; done) | (simp only [List.length_append, List.length_nil, List.length_cons]; omega) | (have hk := (dx (by assumption) (by assumption)).1; omega) | (simp only [List.length_cons, List.length_nil]; omega) | (simp only [List.length_append]; have hk := (dx (by assumption) (by assumption)).1; omega) | (simp only [List.length_append, List.length_nil]; have hk := (dx (by assumption) (by assumption)).1; omega))
  rw [a7] at a8
  refine cL a8 rfl rfl (ai rfl (ai rfl bf)) (ae (ju rfl) (nS ?_))
  refine cg s rfl ?_ ?_ <;> clear s <;> intro c s <;> try simp only [qa] at c
  ·refine sR (mI rfl (nS ?_))
   exact rR s rfl rfl rfl
  ·refine az (de (aq (ay (mV rfl (bN gv rfl rfl (mV rfl (br (di ?_))))))))
   have hbd := en a3
   have hinc : wr (a0 + 1) = a0 + 1 := ee (by omega) (by omega)
   erw [hinc]
   exact wC (ih   (by omega) (by omega) s) rfl

theorem yb {S : List Fr} {res : Int} {x0 : ab} {x1 : au} {a9 : Bool} {a0 : Int} {v1 : PV} (r1 : au.t.R x1 v1) (c2 : jq x0 x1 = a9) (b2 : (!a9) = false) (c7 : 0 ≤ a0) (b3 : (decide (a0 < (x1.Fields.length : Int))) = true) {K8 : Unit → Int}
  (d0 : K8 () = res → PX Tryz.prog 8 S (QR Tryz.prog [(4, none)] (RF21 res)) [(3, .fp v1), (8, vi a0)] ⟨0, []⟩) :
  ∀ {m : Nat} {a1 : Int} (c1 : m = Int.toNat (((ix x1.Fields a0).length : Int) - a1)) (a8 : 0 ≤ a1), lf x1 a0 K8 m a1 = res → RC Tryz.prog (.loop cj8) S (QR Tryz.prog [(4, none)] (RF21 res)) [(9, vi a1), (8, vi a0), (3, .fp v1)] ⟨0, []⟩ := by
 have a5 := b2
 try simp only [qa] at a5
 have a2 := b3
 try simp only [qa] at a2
 intro m
 induction m with
 | zero =>
  intro a1 c1 a8 s
  rw [lf] at s
  refine co (am (sR (mV rfl (gL (au.g_Fields r1) rfl rfl rfl fun c4 b9 => (mV rfl ?_)))))
  obtain ⟨c3, b7, b0⟩ := dq (i := a0) b9 (by first | omega | (have hk := jo (by assumption) (by assumption); omega)) (by first | omega | (have hk := jo (by assumption) (by assumption); omega))
  refine ae (bg rfl rfl b7) (lD b0 rfl rfl rfl (ae (cv rfl (ci b0 Tryz.underlying43 _)) (bN cw rfl rfl (nS ?_))))
  refine cd rfl ?_ ?_ <;> intro c <;> try simp only [qa] at c
  ·omega
  refine fj (gg (dw ?_))
  exact wP (d0  s) rfl
 | succ m ih =>
  intro a1 c1 a8 s
  rw [lf] at s
  refine co (am (sR (mV rfl (gL (au.g_Fields r1) rfl rfl rfl fun c9 b4 => (mV rfl ?_)))))
  obtain ⟨c5, c0, a6⟩ := dq (i := a0) b4 (by first | omega | (have hk := jo (by assumption) (by assumption); omega)) (by first | omega | (have hk := jo (by assumption) (by assumption); omega))
  refine ae (bg rfl rfl c0) (lD a6 rfl rfl rfl (ae (cv rfl (ci a6 Tryz.underlying43 _)) (bN cw rfl rfl (nS ?_))))
  refine cd rfl ?_ ?_ <;> intro c <;> try simp only [qa] at c
  rotate_left
  ·omega
  refine az (aq (am (bm (sR (gL (au.g_Valid r1) rfl rfl rfl fun d1 b5 => (mV rfl (ae (bg rfl rfl (slB b5 (by first | omega | (have hk := jo (by assumption) (by assumption); omega)) (by first | omega | (have hk := jo (by assumption) (by assumption); omega)))) (lR rfl rfl rfl ?_))))))))
  refine ae (ju rfl) (mV rfl ?_)
  refine cq 10 (d := 97) (v := vb ((!(ix x1.Valid a0)) && (!decide ((ix (ix x1.Fields a0) a1) = 0#32)))) ?_ ?_
  ·intro S Q r
   cases b1 : (!(ix x1.Valid a0))
   ·exact gN 9 rfl rfl rfl rfl rfl rfl
   ·intro k
    have a4 := b1
    try simp only [qa] at a4
    obtain ⟨c8, b8, a3⟩ := au.g_Fields r1
    refine ah rfl rfl (bw rfl b8) (ah rfl rfl (bv rfl (TR.cnt (tSl (tSl dn)) a3) (TR.agg (tSl (tSl dn)) a3)) (ah rfl rfl (av rfl) ?_))
    obtain ⟨c6, b6, a7⟩ := dq (i := a0) a3 (by first | omega | (have hk := jo (by assumption) (by assumption); omega)) (by first | omega | (have hk := jo (by assumption) (by assumption); omega))
    refine ah rfl rfl (bg rfl rfl b6) (ah rfl rfl (bv rfl (TR.cnt (tSl dn) a7) (TR.agg (tSl dn) a7)) (ah rfl rfl (av rfl) (ah rfl rfl (bg rfl rfl (uj a7 (by first | omega | (have hk := jo (by assumption) (by assumption); omega)) (by first | omega | (have hk := jo (by assumption) (by assumption); omega)))) (ah rfl rfl (bv rfl rfl rfl) (ah rfl rfl (bq (a := bh (ix (ix x1.Fields a0) a1)) (b := bh 0#32) rfl rfl bf9) ?_)))))
    exact gK rfl rfl rfl rfl rfl k
  refine nS ?_
  refine cg s rfl ?_ ?_ <;> clear s <;> intro c s <;> try simp only [qa] at c
  ·refine sR (mI rfl (nS ?_))
   exact rR s rfl rfl rfl
  ·refine az (de (aq (ay (mV rfl (bN gv rfl rfl (mV rfl (br (di ?_))))))))
   have hbd := en a6
   have hinc : wr (a1 + 1) = a1 + 1 := ee (by omega) (by omega)
   erw [hinc]
   exact wC (ih   (by omega) (by omega) s) rfl

theorem yp {S : List Fr} {res : Int} {x0 : ab} {x1 : au} {a7 : Bool} {v1 : PV} (r1 : au.t.R x1 v1) (a8 : jq x0 x1 = a7) (a1 : (!a7) = false) {K6 : Unit → Int}
  (b3 : K6 () = res → PX Tryz.prog 6 S (QR Tryz.prog [(4, none)] (RF21 res)) [] ⟨0, []⟩) :
  ∀ {m : Nat} {a2 : Int} (b0 : m = Int.toNat ((x1.Fields.length : Int) - a2)) (a4 : 0 ≤ a2), lb x1 K6 m a2 = res → RC Tryz.prog (.loop ch7) S (QR Tryz.prog [(4, none)] (RF21 res)) [(8, vi a2), (3, .fp v1)] ⟨0, []⟩ := by
 have a5 := a1
 try simp only [qa] at a5
 intro m
 induction m with
 | zero =>
  intro a2 b0 a4 s
  rw [lb] at s
  refine co (am (sR (mV rfl (gL (au.g_Fields r1) rfl rfl rfl fun b1 a9 => (ae (cv rfl (ci a9 Tryz.underlying42 _)) (bN cw rfl rfl (nS ?_)))))))
  refine cd rfl ?_ ?_ <;> intro c <;> try simp only [qa] at c
  ·omega
  refine fj (gg (dw ?_))
  exact wP (b3  s) rfl
 | succ m ih =>
  intro a2 b0 a4 s
  rw [lb] at s
  refine co (am (sR (mV rfl (gL (au.g_Fields r1) rfl rfl rfl fun b2 a6 => (ae (cv rfl (ci a6 Tryz.underlying42 _)) (bN cw rfl rfl (nS ?_)))))))
  refine cd rfl (fun a0 => ?_) (fun a0 => ?_)
  ·have hgo := s
   have a3 := a0
   try simp only [qa] at a3
   refine az (aq (am (bm (sR (mI rfl (nS (bm ?_)))))))
   refine wC (yb r1 a8 a1 a4 a0 ?_  rfl (by omega) s) rfl
   ·intro  s
    refine gm (de (aq (ay (mV rfl (bN gv rfl rfl (mV rfl (br (di ?_))))))))
    have hbd := en a6
    have hinc : wr (a2 + 1) = a2 + 1 := ee (by omega) (by omega)
    erw [hinc]
    exact wC (ih   (by omega) (by omega) s) rfl
  ·exfalso
   try simp only [qa] at a0
   omega

theorem dd7 {x0 : ab} {x1 : au} {v0 v1 : PV} (r0 : ab.t.R x0 v0) (r1 : au.t.R x1 v1) : FnR Tryz.prog 21 [v0, v1] (vi (qt x0 x1)) := by
 refine fnS (R := RF21) df0 (fun _ h => h) rfl fun res s => ?_
 unfold qt at s
 refine sR (ae (dm rfl (TR.cnt ab.t r0)) (ae (dm rfl (TR.cnt au.t r1)) (mI rfl (nS (am (sR (lD r0 rfl rfl rfl (lD r1 rfl rfl rfl ?_))))))))
 obtain ⟨a4, a0, s⟩ := bt s
 have a3 := cz7  r0 r1 
 rw [a0] at a3
 refine cL a3 rfl rfl (ai (TR.clo ab.t r0) (ai (TR.clo au.t r1) bf)) (ae (ju rfl) (nS ?_))
 refine cg s rfl ?_ ?_ <;> clear s <;> intro a1 s <;> have a2 := a1 <;> try simp only [qa] at a2
 ·refine sR (mI rfl (nS ?_))
  exact rR s rfl rfl rfl
 ·refine az (aq (am (sR (mI rfl (nS (bm ?_))))))
  refine wC (aa0 r0 r1 a0 a1 ?_  rfl (by omega) s) rfl
  ·intro  s
   refine gm (aq (am (sR (mI rfl (nS (bm ?_))))))
   refine wC (yj r0 r1 a0 a1 ?_  rfl (by omega) s) rfl
   ·intro  s
    refine gm (aq (am (sR (mI rfl (nS (bm ?_))))))
    refine wC (yp r1 a0 a1 ?_  rfl (by omega) s) rfl
    ·intro  s
     refine gm (aq (sR (mI rfl (nS ?_))))
     exact rR s rfl rfl rfl

end Go.Proofs.YtmonnlkagniolaaGreat
