/-
 The code of each function does what its plain program says.
-/
import Derived.Test.YtmonnlkagniolaaGreatKDef
import Derived.Test.YtmonnlkagniolaaGreatL6Text
import Derived.Test.YtmonnlkagniolaaGreatPbV
import Derived.Test.YtmonnlkagniolaaGreatKSimAc
import Derived.Test.YtmonnlkagniolaaGreatKSimAc
import Derived.Test.YtmonnlkagniolaaGreatKCkFe
import Derived.Test.YtmonnlkagniolaaGreatKCkFe
import Derived.Test.YtmonnlkagniolaaGreatKExAEx
import Derived.Test.YtmonnlkagniolaaGreatKFcFrBd
import Derived.Test.YtmonnlkagniolaaGreatKFcFrBd
import Derived.Test.YtmonnlkagniolaaGreatKCoFo
import Derived.Test.YtmonnlkagniolaaGreatKLy
import Derived.Test.YtmonnlkagniolaaGreatKCoFo
import Derived.Test.YtmonnlkagniolaaGreatL6Run
set_option linter.unusedVariables false
set_option linter.unusedSimpArgs false
set_option maxRecDepth 100000
namespace Go.Proofs.YtmonnlkagniolaaGreat
open Go Go.Pb Go.RowKit
def RF33 (n : Bool) (r : PV) : Prop := r = vb n
theorem ux {S : List Fr} {n : Bool} {x0 : af} {a0 : Int} {v0 : PV} (r0 : af.t.R x0 v0) (b0 : ((((decide (20 < (x0.Headers.length : Int))) || (decide (30 < (x0.Metadata.length : Int)))) || (decide (20 < (x0.Registers.length : Int)))) || (decide (40 < (x0.Actions.length : Int)))) = false) (e7 : 0 ≤ a0) (a9 : (decide (a0 < (x0.Actions.length : Int))) = true) (b3 : ((decide (20 < (((ix x0.Actions a0).Params).length : Int))) || (decide (30 < (((ix x0.Actions a0).Body).length : Int)))) = false) {K2 : Unit → Bool}
  (f4 : K2 () = n → PX Tryz.prog 2 S (QR Tryz.prog [(2, none)] (RF33 n)) [(1, .fp v0), (3, vi a0)] ⟨0, []⟩) :
  ∀ {m : Nat} {a1 : Int} (d6 : m = Int.toNat ((((ix x0.Actions a0).Body).length : Int) - a1)) (b1 : 0 ≤ a1), kw x0 a0 K2 m a1 = n → RC Tryz.prog (.loop bv2) S (QR Tryz.prog [(2, none)] (RF33 n)) [(4, vi a1), (3, vi a0), (1, .fp v0)] ⟨0, []⟩ := by
 have a6 := b0
 try simp only [qa] at a6
 have a4 := a9
 try simp only [qa] at a4
 have a2 := b3
 try simp only [qa] at a2
 intro m
 induction m with
 | zero =>
  intro a1 d6 b1 z
  rw [kw] at z
  refine cj (aq (sR (mV rfl (gL (af.g_Actions r0) rfl rfl rfl fun f0 b7 => (mV rfl ?_)))))
  obtain ⟨e2, c1, c7⟩ := cz (i := a0) b7 (by omega) (by omega)
  refine ae (bf rfl rfl c1) (gL (bg.g_Body c7) rfl rfl rfl fun e4 c8 => (ae (cv rfl (cm c8 Tryz.underlying95 _)) (bN cn rfl rfl (nS ?_))))
  refine cb rfl ?_ ?_ <;> intro c <;> try simp only [qa] at c
  ·omega
  refine dw (fj (dl ?_))
  exact wP (f4  z) rfl
 | succ m ih =>
  intro a1 d6 b1 z
  rw [kw] at z
  refine cj (aq (sR (mV rfl (gL (af.g_Actions r0) rfl rfl rfl fun d9 b8 => (mV rfl ?_)))))
  obtain ⟨e9, c4, c3⟩ := cz (i := a0) b8 (by omega) (by omega)
  refine ae (bf rfl rfl c4) (gL (bg.g_Body c3) rfl rfl rfl fun e0 b4 => (ae (cv rfl (cm b4 Tryz.underlying95 _)) (bN cn rfl rfl (nS ?_))))
  refine cb rfl ?_ ?_ <;> intro c <;> try simp only [qa] at c
  rotate_left
  ·omega
  refine ax (am (aq (bh (sR (gL (af.g_Actions r0) rfl rfl rfl fun d8 d2 => (mV rfl ?_))))))
  obtain ⟨e3, b6, c6⟩ := cz (i := a0) d2 (by omega) (by omega)
  refine ae (bf rfl rfl b6) (gL (bg.g_Body c6) rfl rfl rfl fun e5 d4 => (mV rfl ?_))
  obtain ⟨e1, c5, c2⟩ := cz (i := a1) d4 (by omega) (by omega)
  refine ae (bf rfl rfl c5) (gL (aj.g_Index c2) rfl rfl rfl fun e6 d1 => (ae (cv rfl (cm d1 Tryz.underlying32 _)) (bN ke rfl rfl (mV rfl ?_))))
  refine bw 13 (d := 90) (v := vb ((decide (60 < (((ix ((ix x0.Actions a0).Body) a1).Index).length : Int))) || (decide (60 < (((ix ((ix x0.Actions a0).Body) a1).Value).length : Int))))) ?_ ?_
  ·intro S Q r
   cases b2 : (decide (60 < (((ix ((ix x0.Actions a0).Body) a1).Index).length : Int)))
   ·intro k
    have a5 := b2
    try simp only [qa] at a5
    obtain ⟨d7, b5, a8⟩ := af.g_Actions r0
    refine ai rfl rfl (cg rfl b5) (ai rfl rfl (ca rfl (TR.cnt (tSl bg.t) a8) (TR.agg (tSl bg.t) a8)) (ai rfl rfl (av rfl) ?_))
    obtain ⟨f1, c9, d3⟩ := cz (i := a0) a8 (by omega) (by omega)
    refine ai rfl rfl (bf rfl rfl c9) ?_
    obtain ⟨e8, b9, a3⟩ := bg.g_Body d3
    refine ai rfl rfl (cg rfl b9) (ai rfl rfl (ca rfl (TR.cnt (tSl aj.t) a3) (TR.agg (tSl aj.t) a3)) (ai rfl rfl (av rfl) ?_))
    obtain ⟨f2, d5, d0⟩ := cz (i := a1) a3 (by omega) (by omega)
    refine ai rfl rfl (bf rfl rfl d5) ?_
    obtain ⟨f3, c0, a7⟩ := aj.g_Value d0
    refine ai rfl rfl (cg rfl c0) (ai rfl rfl (ca rfl (TR.cnt (tSl ab.t) a7) (TR.agg (tSl ab.t) a7)) (ai rfl rfl (cv rfl (cm a7 Tryz.underlying32 _)) (ai rfl rfl (bv rfl rfl ke) ?_)))
    exact gK rfl rfl rfl rfl rfl k
   ·exact gN 12 rfl rfl rfl rfl rfl rfl
  refine nS ?_
  refine bm z rfl ?_ ?_ <;> clear z <;> intro c z <;> try simp only [qa] at c
  ·refine sR (mB rfl (nS ?_))
   exact rR z rfl rfl rfl
  ·refine ax (cp (am (aw (mV rfl (bN em rfl rfl (mV rfl (bp (cq ?_))))))))
   have s := db b4
   have o : wr (a1 + 1) = a1 + 1 := de (by omega) (by omega)
   erw [o]
   exact wC (ih   (by omega) (by omega) z) rfl

theorem ur {S : List Fr} {n : Bool} {x0 : af} {v0 : PV} (r0 : af.t.R x0 v0) (a2 : ((((decide (20 < (x0.Headers.length : Int))) || (decide (30 < (x0.Metadata.length : Int)))) || (decide (20 < (x0.Registers.length : Int)))) || (decide (40 < (x0.Actions.length : Int)))) = false) {K0 : Unit → Bool}
  (c3 : K0 () = n → PX Tryz.prog 0 S (QR Tryz.prog [(2, none)] (RF33 n)) [(1, .fp v0)] ⟨0, []⟩) :
  ∀ {m : Nat} {a1 : Int} (c2 : m = Int.toNat ((x0.Actions.length : Int) - a1)) (a9 : 0 ≤ a1), ku x0 K0 m a1 = n → RC Tryz.prog (.loop cc5) S (QR Tryz.prog [(2, none)] (RF33 n)) [(3, vi a1), (1, .fp v0)] ⟨0, []⟩ := by
 have a7 := a2
 try simp only [qa] at a7
 intro m
 induction m with
 | zero =>
  intro a1 c2 a9 z
  rw [ku] at z
  refine cj (aq (sR (mV rfl (gL (af.g_Actions r0) rfl rfl rfl fun d1 b9 => (ae (cv rfl (cm b9 Tryz.underlying25 _)) (bN cn rfl rfl (nS ?_)))))))
  refine cb rfl ?_ ?_ <;> intro c <;> try simp only [qa] at c
  ·omega
  refine dw (fj (dl ?_))
  exact wP (c3  z) rfl
 | succ m ih =>
  intro a1 c2 a9 z
  rw [ku] at z
  refine cj (aq (sR (mV rfl (gL (af.g_Actions r0) rfl rfl rfl fun c5 b2 => (ae (cv rfl (cm b2 Tryz.underlying25 _)) (bN cn rfl rfl (nS ?_)))))))
  refine cb rfl (fun a0 => ?_) (fun a0 => ?_)
  ·have hgo := z
   have a5 := a0
   try simp only [qa] at a5
   refine ax (am (aq (bh (aq (sR (gL (af.g_Actions r0) rfl rfl rfl fun c6 c1 => (mV rfl ?_)))))))
   obtain ⟨c4, b7, b3⟩ := cz (i := a1) c1 (by omega) (by omega)
   refine ae (bf rfl rfl b7) (gL (bg.g_Params b3) rfl rfl rfl fun c7 b4 => (ae (cv rfl (cm b4 Tryz.underlying23 _)) (bN ke rfl rfl (mV rfl ?_))))
   refine bw 9 (d := 53) (v := vb ((decide (20 < (((ix x0.Actions a1).Params).length : Int))) || (decide (30 < (((ix x0.Actions a1).Body).length : Int))))) ?_ ?_
   ·intro S Q r
    cases b1 : (decide (20 < (((ix x0.Actions a1).Params).length : Int)))
    ·intro k
     have a6 := b1
     try simp only [qa] at a6
     obtain ⟨c8, c0, a8⟩ := af.g_Actions r0
     refine ai rfl rfl (cg rfl c0) (ai rfl rfl (ca rfl (TR.cnt (tSl bg.t) a8) (TR.agg (tSl bg.t) a8)) (ai rfl rfl (av rfl) ?_))
     obtain ⟨d0, b6, b8⟩ := cz (i := a1) a8 (by omega) (by omega)
     refine ai rfl rfl (bf rfl rfl b6) ?_
     obtain ⟨c9, b5, b0⟩ := bg.g_Body b8
     refine ai rfl rfl (cg rfl b5) (ai rfl rfl (ca rfl (TR.cnt (tSl aj.t) b0) (TR.agg (tSl aj.t) b0)) (ai rfl rfl (cv rfl (cm b0 Tryz.underlying95 _)) (ai rfl rfl (bv rfl rfl ke) ?_)))
     exact gK rfl rfl rfl rfl rfl k
    ·exact gN 8 rfl rfl rfl rfl rfl rfl
   refine nS ?_
   refine bm z rfl ?_ ?_ <;> clear z <;> intro a3 z <;> have a4 := a3 <;> try simp only [qa] at a4
   ·refine sR (mB rfl (nS ?_))
    exact rR z rfl rfl rfl
   ·refine ax (am (sR (mI rfl (nS (bh ?_)))))
    refine wC (ux r0 a2 a9 a0 a3 ?_  rfl (by omega) z) rfl
    ·intro  z
     refine fx (cp (am (aw (mV rfl (bN em rfl rfl (mV rfl (bp (cq ?_))))))))
     have s := db b2
     have o : wr (a1 + 1) = a1 + 1 := de (by omega) (by omega)
     erw [o]
     exact wC (ih   (by omega) (by omega) z) rfl
  ·exfalso
   try simp only [qa] at a0
   omega

theorem uv {S : List Fr} {n : Bool} {x0 : af} {v0 : PV} (r0 : af.t.R x0 v0) (a2 : ((((decide (20 < (x0.Headers.length : Int))) || (decide (30 < (x0.Metadata.length : Int)))) || (decide (20 < (x0.Registers.length : Int)))) || (decide (40 < (x0.Actions.length : Int)))) = false) {K4 : Unit → Bool}
  (b2 : K4 () = n → PX Tryz.prog 4 S (QR Tryz.prog [(2, none)] (RF33 n)) [(1, .fp v0)] ⟨0, []⟩) :
  ∀ {m : Nat} {a0 : Int} (b0 : m = Int.toNat ((x0.Headers.length : Int) - a0)) (a4 : 0 ≤ a0), kt x0 K4 m a0 = n → RC Tryz.prog (.loop br8) S (QR Tryz.prog [(2, none)] (RF33 n)) [(5, vi a0), (1, .fp v0)] ⟨0, []⟩ := by
 have a1 := a2
 try simp only [qa] at a1
 intro m
 induction m with
 | zero =>
  intro a0 b0 a4 z
  rw [kt] at z
  refine cj (aq (sR (mV rfl (gL (af.g_Headers r0) rfl rfl rfl fun b3 a9 => (ae (cv rfl (cm a9 Tryz.underlying22 _)) (bN cn rfl rfl (nS ?_)))))))
  refine cb rfl ?_ ?_ <;> intro c <;> try simp only [qa] at c
  ·omega
  refine dw (fj (dl ?_))
  exact wP (b2  z) rfl
 | succ m ih =>
  intro a0 b0 a4 z
  rw [kt] at z
  refine cj (aq (sR (mV rfl (gL (af.g_Headers r0) rfl rfl rfl fun b6 a3 => (ae (cv rfl (cm a3 Tryz.underlying22 _)) (bN cn rfl rfl (nS ?_)))))))
  refine cb rfl ?_ ?_ <;> intro c <;> try simp only [qa] at c
  rotate_left
  ·omega
  refine ax (am (aq (bh (sR (gL (af.g_Headers r0) rfl rfl rfl fun b1 a7 => (mV rfl ?_))))))
  obtain ⟨b4, a6, a5⟩ := cz (i := a0) a7 (by omega) (by omega)
  refine ae (bf rfl rfl a6) (gL (cy.g_Fields a5) rfl rfl rfl fun b5 a8 => (ae (cv rfl (cm a8 Tryz.underlying23 _)) (bN ke rfl rfl (nS ?_))))
  refine bm z rfl ?_ ?_ <;> clear z <;> intro c z <;> try simp only [qa] at c
  ·refine sR (mB rfl (nS ?_))
   exact rR z rfl rfl rfl
  ·refine ax (cp (am (aw (mV rfl (bN em rfl rfl (mV rfl (bp (cq ?_))))))))
   have s := db a3
   have o : wr (a0 + 1) = a0 + 1 := de (by omega) (by omega)
   erw [o]
   exact wC (ih   (by omega) (by omega) z) rfl

theorem uk {S : List Fr} {n : Bool} {x0 : af} {v0 : PV} (r0 : af.t.R x0 v0) (a2 : ((((decide (20 < (x0.Headers.length : Int))) || (decide (30 < (x0.Metadata.length : Int)))) || (decide (20 < (x0.Registers.length : Int)))) || (decide (40 < (x0.Actions.length : Int)))) = false) {K6 : Unit → Bool}
  (b3 : K6 () = n → PX Tryz.prog 6 S (QR Tryz.prog [(2, none)] (RF33 n)) [] ⟨0, []⟩) :
  ∀ {m : Nat} {a0 : Int} (a9 : m = Int.toNat ((x0.Registers.length : Int) - a0)) (a3 : 0 ≤ a0), mo x0 K6 m a0 = n → RC Tryz.prog (.loop br9) S (QR Tryz.prog [(2, none)] (RF33 n)) [(6, vi a0), (1, .fp v0)] ⟨0, []⟩ := by
 have a1 := a2
 try simp only [qa] at a1
 intro m
 induction m with
 | zero =>
  intro a0 a9 a3 z
  rw [mo] at z
  refine cj (aq (sR (mV rfl (gL (af.g_Registers r0) rfl rfl rfl fun b1 a8 => (ae (cv rfl (cm a8 Tryz.underlying24 _)) (bN cn rfl rfl (nS ?_)))))))
  refine cb rfl ?_ ?_ <;> intro c <;> try simp only [qa] at c
  ·omega
  refine dw (fj (dl ?_))
  exact wP (b3  z) rfl
 | succ m ih =>
  intro a0 a9 a3 z
  rw [mo] at z
  refine cj (aq (sR (mV rfl (gL (af.g_Registers r0) rfl rfl rfl fun b0 a4 => (ae (cv rfl (cm a4 Tryz.underlying24 _)) (bN cn rfl rfl (nS ?_)))))))
  refine cb rfl ?_ ?_ <;> intro c <;> try simp only [qa] at c
  rotate_left
  ·omega
  refine ax (am (aq (bh (sR (gL (af.g_Registers r0) rfl rfl rfl fun b4 a6 => (mV rfl ?_))))))
  obtain ⟨b2, a5, a7⟩ := cz (i := a0) a6 (by omega) (by omega)
  refine ae (bf rfl rfl a5) (fL rfl (cx.g_Size a7) rfl rfl (bN ke rfl rfl (nS ?_)))
  refine bm z rfl ?_ ?_ <;> clear z <;> intro c z <;> try simp only [qa] at c
  ·refine sR (mB rfl (nS ?_))
   exact rR z rfl rfl rfl
  ·refine ax (cp (am (aw (mV rfl (bN em rfl rfl (mV rfl (bp (cq ?_))))))))
   have s := db a4
   have o : wr (a0 + 1) = a0 + 1 := de (by omega) (by omega)
   erw [o]
   exact wC (ih   (by omega) (by omega) z) rfl

theorem cs5 {x0 : af} {v0 : PV} (r0 : af.t.R x0 v0) : FnR Tryz.prog 33 [v0] (vb (ot x0)) := by
 refine fnS (R := RF33) co8 (fun _ h => h) rfl fun n z => ?_
 unfold ot at z
 refine sR (ae (ej rfl (TR.cnt af.t r0)) (mB rfl (nS (aq (sR (gL (af.g_Headers r0) rfl rfl rfl fun b8 b2 => (ae (cv rfl (cm b2 Tryz.underlying22 _)) (bN ke rfl rfl ?_))))))))
 refine mV rfl ?_
 refine bw 5 (d := 16) (v := vb ((decide (20 < (x0.Headers.length : Int))) || (decide (30 < (x0.Metadata.length : Int))))) ?_ ?_
 ·intro S Q r
  cases b0 : (decide (20 < (x0.Headers.length : Int)))
  ·intro k
   have a3 := b0
   try simp only [qa] at a3
   obtain ⟨b5, b4, a7⟩ := af.g_Metadata r0
   refine ai rfl rfl (cg rfl b4) (ai rfl rfl (ca rfl (TR.cnt (tSl ay.t) a7) (TR.agg (tSl ay.t) a7)) (ai rfl rfl (cv rfl (cm a7 Tryz.underlying23 _)) (ai rfl rfl (bv rfl rfl ke) ?_)))
   exact gK rfl rfl rfl rfl rfl k
  ·exact gN 4 rfl rfl rfl rfl rfl rfl
 refine mV rfl ?_
 refine bw 5 (d := 22) (v := vb (((decide (20 < (x0.Headers.length : Int))) || (decide (30 < (x0.Metadata.length : Int)))) || (decide (20 < (x0.Registers.length : Int))))) ?_ ?_
 ·intro S Q r
  cases a8 : ((decide (20 < (x0.Headers.length : Int))) || (decide (30 < (x0.Metadata.length : Int))))
  ·intro k
   have a1 := a8
   try simp only [qa] at a1
   obtain ⟨b7, b1, a2⟩ := af.g_Registers r0
   refine ai rfl rfl (cg rfl b1) (ai rfl rfl (ca rfl (TR.cnt (tSl cx.t) a2) (TR.agg (tSl cx.t) a2)) (ai rfl rfl (cv rfl (cm a2 Tryz.underlying24 _)) (ai rfl rfl (bv rfl rfl ke) ?_)))
   exact gK rfl rfl rfl rfl rfl k
  ·exact gN 4 rfl rfl rfl rfl rfl rfl
 refine mV rfl ?_
 refine bw 5 (d := 28) (v := vb ((((decide (20 < (x0.Headers.length : Int))) || (decide (30 < (x0.Metadata.length : Int)))) || (decide (20 < (x0.Registers.length : Int)))) || (decide (40 < (x0.Actions.length : Int))))) ?_ ?_
 ·intro S Q r
  cases a9 : (((decide (20 < (x0.Headers.length : Int))) || (decide (30 < (x0.Metadata.length : Int)))) || (decide (20 < (x0.Registers.length : Int))))
  ·intro k
   have a4 := a9
   try simp only [qa] at a4
   obtain ⟨b6, b3, a6⟩ := af.g_Actions r0
   refine ai rfl rfl (cg rfl b3) (ai rfl rfl (ca rfl (TR.cnt (tSl bg.t) a6) (TR.agg (tSl bg.t) a6)) (ai rfl rfl (cv rfl (cm a6 Tryz.underlying25 _)) (ai rfl rfl (bv rfl rfl ke) ?_)))
   exact gK rfl rfl rfl rfl rfl k
  ·exact gN 4 rfl rfl rfl rfl rfl rfl
 refine nS ?_
 refine bm z rfl ?_ ?_ <;> clear z <;> intro a0 z <;> have a5 := a0 <;> try simp only [qa] at a5
 ·refine sR (mB rfl (nS ?_))
  exact rR z rfl rfl rfl
 ·refine ax (am (aq (sR (mI rfl (nS (bh ?_))))))
  refine wC (ur r0 a0 ?_  rfl (by omega) z) rfl
  ·intro  z
   refine fx (am (aq (sR (mI rfl (nS (bh ?_))))))
   refine wC (uv r0 a0 ?_  rfl (by omega) z) rfl
   ·intro  z
    refine fx (am (aq (sR (mI rfl (nS (bh ?_))))))
    refine wC (uk r0 a0 ?_  rfl (by omega) z) rfl
    ·intro  z
     refine fx (am (sR (mB rfl (nS ?_))))
     exact rR z rfl rfl rfl

theorem bg3 : FnR Tryz.prog 34 [] (vb oq) := df1

def RF221 (n : Bool) (r : PV) : Prop := r = vb n
theorem ax4 {x0 : UInt8} : FnR Tryz.prog 221 [vu8 x0] (vb (js x0)) := by
 refine fnS (R := RF221) aw2 (fun _ h => h) rfl fun n z => ?_
 unfold js at z
 refine sR (mB rfl (nR (mV rfl (ae (bv (a := vu8 x0) (b := vu8 (97 : UInt8)) rfl rfl ab3) (mV rfl ?_)))))
 refine bw 3 (d := 8) (v := vb ((decide ((97 : UInt8) ≤ x0)) && (decide (x0 ≤ (122 : UInt8))))) ?_ ?_
 ·intro S Q r
  cases a3 : (decide ((97 : UInt8) ≤ x0))
  ·exact gN 2 rfl rfl rfl rfl rfl rfl
  ·intro k
   have a1 := a3
   try simp only [qa] at a1
   refine ai rfl rfl (av rfl) (ai rfl rfl (bv (a := vu8 x0) (b := vu8 (122 : UInt8)) rfl rfl aa7) ?_)
   exact gK rfl rfl rfl rfl rfl k
 refine mV rfl ?_
 refine bw 7 (d := 16) (v := vb (((decide ((97 : UInt8) ≤ x0)) && (decide (x0 ≤ (122 : UInt8)))) || ((decide ((65 : UInt8) ≤ x0)) && (decide (x0 ≤ (90 : UInt8)))))) ?_ ?_
 ·intro S Q r
  cases a5 : ((decide ((97 : UInt8) ≤ x0)) && (decide (x0 ≤ (122 : UInt8))))
  ·intro k
   have a2 := a5
   try simp only [qa] at a2
   refine ai rfl rfl (av rfl) (ai rfl rfl (bv (a := vu8 x0) (b := vu8 (65 : UInt8)) rfl rfl ab3) (ai rfl rfl (av rfl) ?_))
   refine bw 3 (d := 15) (v := vb ((decide ((65 : UInt8) ≤ x0)) && (decide (x0 ≤ (90 : UInt8))))) ?_ ?_
   ·intro S Q r
    cases a4 : (decide ((65 : UInt8) ≤ x0))
    ·intro k
     refine iv rfl rfl (iv rfl rfl (ai (v := vb false) rfl rfl (mw rfl rfl rfl rfl) ?_))
     exact wD k rfl
    ·intro k
     have a0 := a4
     try simp only [qa] at a0
     refine ai rfl rfl (av rfl) (ai rfl rfl (bv (a := vu8 x0) (b := vu8 (90 : UInt8)) rfl rfl aa7) (ai (v := vb (decide (x0 ≤ (90 : UInt8)))) rfl rfl (mw rfl rfl rfl rfl) ?_))
     exact wD k rfl
   exact gK rfl rfl rfl rfl rfl k
  ·exact gN 6 rfl rfl rfl rfl rfl rfl
 refine mV rfl (nS ?_)
 exact rR z rfl rfl rfl

def RF222 (n : Int) (r : PV) : Prop := r = vi n
theorem tw {S : List Fr} {n : Int} {x0 : List UInt8} {x1 : UInt8 → Bool} {v1 : PV} (r1 : (tFn Tryz.prog tU8 tB).R x1 v1) (hs : x0.length ≤ 1000) {K0 : Int → Int}
  (b0 : ∀ {a0 : Int}, K0 a0 = n → PX Tryz.prog 0 S (QR Tryz.prog [(4, none)] (RF222 n)) [(5, vi a0)] ⟨0, []⟩) :
  ∀ {m : Nat} {a0 : Int} (b1 : m = Int.toNat ((x0.length : Int) - a0)) (a7 : 0 ≤ a0), jy x0 x1 K0 m a0 = n → RC Tryz.prog (.loop bm0) S (QR Tryz.prog [(4, none)] (RF222 n)) [(5, vi a0), (1, v1), (0, vs x0)] ⟨0, []⟩ := by
 intro m
 induction m with
 | zero =>
  intro a0 b1 a7 z
  rw [jy] at z
  refine cj (aq (sR (mV rfl (mV rfl (ae (cv rfl (qb Tryz.underlying9)) (bN cn rfl rfl (mV rfl ?_)))))))
  refine bw 6 (d := 16) (v := vb ((decide (a0 < (x0.length : Int))) && (x1 (ix x0 a0)))) ?_ ?_
  ·intro S Q r
   cases a5 : (decide (a0 < (x0.length : Int)))
   ·exact gN 5 rfl rfl rfl rfl rfl rfl
   ·intro k
    have a4 := a5
    try simp only [qa] at a4
    refine ai rfl rfl (av rfl) (ai rfl rfl (av rfl) (ai rfl rfl (av rfl) (ai rfl rfl (oe rfl rfl (qx Tryz.underlying9 (by omega) (by omega))) ?_)))
    refine aa2 rfl rfl rfl r1 rfl (show tU8.R (ix x0 a0) (vu8 (ix x0 a0)) from rfl) (fun a8 a1 => ?_)
    have a1 : a8 = vb (x1 (ix x0 a0)) := a1; subst a1
    exact gK rfl rfl rfl rfl rfl k
  refine nS ?_
  refine cb rfl ?_ ?_ <;> intro c <;> try simp only [qa] at c
  ·omega
  refine dw (fj (dl ?_))
  exact wP (b0  z) rfl
 | succ m ih =>
  intro a0 b1 a7 z
  rw [jy] at z
  refine cj (aq (sR (mV rfl (mV rfl (ae (cv rfl (qb Tryz.underlying9)) (bN cn rfl rfl (mV rfl ?_)))))))
  refine bw 6 (d := 16) (v := vb ((decide (a0 < (x0.length : Int))) && (x1 (ix x0 a0)))) ?_ ?_
  ·intro S Q r
   cases a6 : (decide (a0 < (x0.length : Int)))
   ·exact gN 5 rfl rfl rfl rfl rfl rfl
   ·intro k
    have a2 := a6
    try simp only [qa] at a2
    refine ai rfl rfl (av rfl) (ai rfl rfl (av rfl) (ai rfl rfl (av rfl) (ai rfl rfl (oe rfl rfl (qx Tryz.underlying9 (by omega) (by omega))) ?_)))
    refine aa2 rfl rfl rfl r1 rfl (show tU8.R (ix x0 a0) (vu8 (ix x0 a0)) from rfl) (fun a9 a3 => ?_)
    have a3 : a9 = vb (x1 (ix x0 a0)) := a3; subst a3
    exact gK rfl rfl rfl rfl rfl k
  refine nS ?_
  refine bm z rfl ?_ ?_ <;> clear z <;> intro c z <;> try simp only [qa] at c
  ·refine ax (am (bh (aw (mV rfl (bN em rfl rfl (mV rfl (bp (cp ?_))))))))
   refine cq ?_
   have o : wr (a0 + 1) = a0 + 1 := de (by omega) (by omega)
   erw [o]
   exact wC (ih   (by omega) (by omega) z) rfl
  ·refine dw (fj (dl ?_))
   exact wP (b0  z) rfl

theorem bw2 {x0 : List UInt8} {x1 : UInt8 → Bool} {v1 : PV} (r1 : (tFn Tryz.prog tU8 tB).R x1 v1) (hs : x0.length ≤ 1000) : FnR Tryz.prog 222 [vs x0, v1] (vi (pe x0 x1)) := by
 refine fnS (R := RF222) au4 (fun _ h => h) rfl fun n z => ?_
 unfold pe at z
 refine sR (mI rfl (nR (mI rfl (nS (aq (bh ?_))))))
 refine wC (tw r1 hs ?_  rfl (by omega) z) rfl
 ·intro a0 z
  refine fx (am (sR (mV rfl (mV rfl (nS ?_)))))
  exact rR z rfl rfl rfl

def RF224 (n : Bool) (r : PV) : Prop := r = vb n
theorem bx9 {x0 : UInt8} : FnR Tryz.prog 224 [vu8 x0] (vb (km x0)) := by
 refine fnS (R := RF224) at3 (fun _ h => h) rfl fun n z => ?_
 unfold km at z
 refine sR (mB rfl (nR (mV rfl (ae (bv (a := vu8 x0) (b := vu8 (48 : UInt8)) rfl rfl ab3) (mV rfl ?_)))))
 refine bw 3 (d := 8) (v := vb ((decide ((48 : UInt8) ≤ x0)) && (decide (x0 ≤ (57 : UInt8))))) ?_ ?_
 ·intro S Q r
  cases a1 : (decide ((48 : UInt8) ≤ x0))
  ·exact gN 2 rfl rfl rfl rfl rfl rfl
  ·intro k
   have a0 := a1
   try simp only [qa] at a0
   refine ai rfl rfl (av rfl) (ai rfl rfl (bv (a := vu8 x0) (b := vu8 (57 : UInt8)) rfl rfl aa7) ?_)
   exact gK rfl rfl rfl rfl rfl k
 refine mV rfl (nS ?_)
 exact rR z rfl rfl rfl

def RF223 (n : Bool) (r : PV) : Prop := r = vb n
theorem ce4 {x0 : UInt8} : FnR Tryz.prog 223 [vu8 x0] (vb (io x0)) := by
 refine fnS (R := RF223) ax8 (fun _ h => h) rfl fun n z => ?_
 unfold io at z
 refine sR (mB rfl (nR (mV rfl ?_)))
 obtain ⟨a0, a4, z⟩ := bq z
 have a5 := ax4 (x0 := x0)  
 rw [a4] at a5
 refine cL a5 rfl rfl (ak rfl bc) (mV rfl ?_)
 refine bw 3 (d := 8) (v := vb (a0 || (km x0))) ?_ ?_
 ·intro S Q r
  cases a6 : a0
  ·intro k
   have a2 := a6
   try simp only [qa] at a2
   refine ai rfl rfl (av rfl) ?_
   have a7 := bx9 (x0 := x0)  
   refine jm rfl rfl (nw rfl rfl (ak rfl bc) a7) ?_
   exact gK rfl rfl rfl rfl rfl k
  ·exact gN 2 rfl rfl rfl rfl rfl rfl
 refine mV rfl ?_
 refine bw 3 (d := 12) (v := vb ((a0 || (km x0)) || (decide (x0 = (95 : UInt8))))) ?_ ?_
 ·intro S Q r
  cases a3 : (a0 || (km x0))
  ·intro k
   have a1 := a3
   try simp only [qa] at a1
   refine ai rfl rfl (av rfl) (ai rfl rfl (bv (a := vu8 x0) (b := vu8 (95 : UInt8)) rfl rfl df7) ?_)
   exact gK rfl rfl rfl rfl rfl k
  ·exact gN 2 rfl rfl rfl rfl rfl rfl
 refine mV rfl (nS ?_)
 exact rR z rfl rfl rfl

theorem co6 : (tFn Tryz.prog tU8 tB).R io (.fn (.func 223) [] []) := cn2 fun a va ra => by obtain rfl := ra; exact ⟨_, ce4, rfl⟩

def RF169 (n : Bool) (r : PV) : Prop := r = vb n
theorem au2 {x0 : List UInt8} : FnR Tryz.prog 169 [vs x0] (vb (ik x0)) := by
 refine fnS (R := RF169) ay5 (fun _ h => h) rfl fun n z => ?_
 unfold ik at z
 refine sR (mB rfl (nS (aq (sR (mV rfl (ae (cv rfl (qb Tryz.underlying9)) (bN dc rfl rfl (mV rfl ?_))))))))
 refine bw 4 (d := 10) (v := vb ((decide ((x0.length : Int) = 0)) || (decide (16 < (x0.length : Int))))) ?_ ?_
 ·intro S Q r
  cases a2 : (decide ((x0.length : Int) = 0))
  ·intro k
   have a0 := a2
   try simp only [qa] at a0
   refine ai rfl rfl (av rfl) (ai rfl rfl (cv rfl (qb Tryz.underlying9)) (ai rfl rfl (bv rfl rfl ke) ?_))
   exact gK rfl rfl rfl rfl rfl k
  ·exact gN 3 rfl rfl rfl rfl rfl rfl
 refine mV rfl ?_
 refine bw 5 (d := 16) (v := vb (((decide ((x0.length : Int) = 0)) || (decide (16 < (x0.length : Int)))) || (!(js (ix x0 0))))) ?_ ?_
 ·intro S Q r
  cases a5 : ((decide ((x0.length : Int) = 0)) || (decide (16 < (x0.length : Int))))
  ·intro k
   have a1 := a5
   try simp only [qa] at a1
   refine ai rfl rfl (av rfl) (ai rfl rfl (oe rfl rfl (qx (i := 0) Tryz.underlying9 (by omega) (by omega))) ?_)
   have a6 := ax4 (x0 := (ix x0 0))  
   refine jm rfl rfl (nw rfl rfl (ak rfl bc) a6) (ai rfl rfl (jp rfl) ?_)
   exact gK rfl rfl rfl rfl rfl k
  ·exact gN 4 rfl rfl rfl rfl rfl rfl
 refine nS ?_
 refine bm z rfl ?_ ?_ <;> clear z <;> intro c z <;> try simp only [qa] at c
 ·refine sR (mB rfl (nS ?_))
  exact rR z rfl rfl rfl
 ·refine ax (am (sR (mV rfl ?_)))
  obtain ⟨a7, a4, z⟩ := bq z
  have a3 := bw2 (x0 := x0) co6 (by first | assumption | omega | (rw [de (by omega) (by omega)]; omega))
  rw [a4] at a3
  refine cL a3 rfl rfl (ak rfl (ak rfl bc)) (mV rfl (ae (cv rfl (qb Tryz.underlying9)) (bN dc rfl rfl (mV rfl (nS ?_)))))
  exact rR z rfl rfl rfl

def RF171 (n : Bool) (r : PV) : Prop := r = vb n
theorem by1 {x0 : ay} {c0 : ay} {v0 w0 : PV} (r0 : ay.t.R x0 v0) (a0 : ay.t.R c0 w0) : FnR Tryz.prog 171 [v0, .fp w0] (vb (dy x0 c0)) := by
 refine fnS (R := RF171) au3 (fun _ h => h) rfl fun n z => ?_
 unfold dy at z
 refine sR (ae (ej rfl (TR.cnt ay.t r0)) (mB rfl (nR (fL rfl (ay.g_Name r0) rfl rfl (fL rfl (ay.g_Name a0) rfl rfl (ae (bv (a := vs x0.Name) (b := vs c0.Name) rfl rfl ad8) (mV rfl (nS ?_))))))))
 exact rR z rfl rfl rfl

def RF225 (n : Int) (r : PV) : Prop := r = vi n
theorem lq {S : List Fr} {n : Int} {x0 : List ay} {x1 : ay → Bool} {v0 v1 : PV} (r0 : (tSl ay.t).R x0 v0) (r1 : (tFn Tryz.prog ay.t tB).R x1 v1) {K0 : Unit → Int}
  (a8 : K0 () = n → PX Tryz.prog 0 S (QR Tryz.prog [(4, none)] (RF225 n)) [] ⟨0, []⟩) :
  ∀ {m : Nat} {a0 : Int} (a7 : m = Int.toNat ((x0.length : Int) - a0)) (a2 : 0 ≤ a0), co x0 x1 K0 m a0 = n → RC Tryz.prog (.loop bi0) S (QR Tryz.prog [(4, none)] (RF225 n)) [(8, vi a0), (7, vi (x0.length : Int)), (1, v1), (0, v0)] ⟨0, []⟩ := by
 intro m
 induction m with
 | zero =>
  intro a0 a7 a2 z
  rw [co] at z
  refine cj (sR (bN cn rfl rfl (nS (aq ?_))))
  refine cb rfl ?_ ?_ <;> intro c <;> try simp only [qa] at c
  ·omega
  refine dw (fj (dl ?_))
  exact wP (a8  z) rfl
 | succ m ih =>
  intro a0 a7 a2 z
  rw [co] at z
  refine cj (sR (bN cn rfl rfl (nS (aq ?_))))
  refine cb rfl ?_ ?_ <;> intro c <;> try simp only [qa] at c
  rotate_left
  ·omega
  refine ax (am (aq (bh (sR (mV rfl (mV rfl (nR (mV rfl ?_))))))))
  refine mV rfl (mV rfl ?_)
  obtain ⟨a5, a6, a3⟩ := cz (i := a0) r0 (by omega) (by omega)
  refine ae (bf rfl rfl a6) (lD a3 rfl rfl rfl ?_)
  refine bo2 rfl r1 rfl (show ay.t.R (ix x0 a0) a5 from a3) (fun a4 a1 => ?_)
  have a1 : a4 = vb (x1 (ix x0 a0)) := a1; subst a1
  refine nS ?_
  refine bm z rfl ?_ ?_ <;> clear z <;> intro c z <;> try simp only [qa] at c
  ·refine sR (mV rfl (mV rfl (nS ?_)))
   exact rR z rfl rfl rfl
  ·refine ax (cp (am (aw (bN em rfl rfl (mV rfl (bp (cq ?_)))))))
   have s := db r0
   have o : wr (a0 + 1) = a0 + 1 := de (by omega) (by omega)
   erw [o]
   exact wC (ih   (by omega) (by omega) z) rfl

theorem by5 {x0 : List ay} {x1 : ay → Bool} {v0 v1 : PV} (r0 : (tSl ay.t).R x0 v0) (r1 : (tFn Tryz.prog ay.t tB).R x1 v1) : FnR Tryz.prog 225 [v0, v1] (vi (fb x0 x1)) := by
 refine fnS (R := RF225) ar7 (fun _ h => h) rfl fun n z => ?_
 unfold fb at z
 refine sR (mI rfl (nS (aq (sR (mV rfl (ae (cv rfl (cm r0 Tryz.underlying23 _)) (mI rfl (nS ?_))))))))
 refine bh ?_
 refine wC (lq r0 r1 ?_  rfl (by omega) z) rfl
 ·intro  z
  refine fx (am (sR (mI rfl (nS ?_))))
  exact rR z rfl rfl rfl

def RF170 (n : Bool) (r : PV) : Prop := r = vb n
theorem by9 {x0 : List ay} {x1 : ay → Bool} {v0 v1 : PV} (r0 : (tSl ay.t).R x0 v0) (r1 : (tFn Tryz.prog ay.t tB).R x1 v1) : FnR Tryz.prog 170 [v0, v1] (vb (ee x0 x1)) := by
 refine fnS (R := RF170) av8 (fun _ h => h) rfl fun n z => ?_
 unfold ee at z
 refine sR (mB rfl (nR (mV rfl (mV rfl ?_))))
 obtain ⟨a2, a0, z⟩ := bq z
 have a1 := by5  r0 r1 
 rw [a0] at a1
 refine cL a1 rfl rfl (ak (TR.clo (tSl ay.t) r0) (ak (TR.clo (tFn Tryz.prog ay.t tB) r1) bc)) (bN lv rfl rfl (mV rfl (nS ?_)))
 exact rR z rfl rfl rfl

def RF103 (n : Int) (r : PV) : Prop := r = vi n
theorem ql {S : List Fr} {n : Int} {x0 : bg} {b8 : Bool} {v0 a4 : PV} (r0 : bg.t.R x0 v0) (d5 : ik x0.Name = b8) (b9 : (!b8) = false) (c1 : ((decide (4 < (x0.Params.length : Int))) || (decide (12 < (x0.Body.length : Int)))) = false) (b6 : (tSl ay.t).R x0.Params a4) {K1 : Unit → Int}
  (d7 : ∀ {h : Heap} (M0 : Mem h []), K1 () = n → PX Tryz.prog 1 S (QR Tryz.prog [(2, none)] (RF103 n)) [] h) :
  ∀ {m : Nat} {a0 : Int} (d4 : m = Int.toNat ((x0.Params.length : Int) - a0)) (b7 : 0 ≤ a0) {h : Heap} (M0 : Mem h []), fe x0 K1 m a0 = n → RC Tryz.prog (.loop bh6) S (QR Tryz.prog [(2, none)] (RF103 n)) [(24, vi a0), (23, vi (x0.Params.length : Int)), (22, a4), (1, .fp v0)] h := by
 have a8 := b9
 try simp only [qa] at a8
 have a7 := c1
 try simp only [qa] at a7
 intro m
 induction m with
 | zero =>
  intro a0 d4 b7 h M0 z
  rw [fe] at z
  refine cj (sR (bN cn rfl rfl (nS (aq ?_))))
  refine cb rfl ?_ ?_ <;> intro c <;> try simp only [qa] at c
  ·omega
  refine dw (fj (dl ?_))
  exact wP (d7 (Mem.sub M0 .slnil) z) rfl
 | succ m ih =>
  intro a0 d4 b7 h M0 z
  rw [fe] at z
  refine cj (sR (bN cn rfl rfl (nS (aq ?_))))
  refine cb rfl ?_ ?_ <;> intro c <;> try simp only [qa] at c
  rotate_left
  ·omega
  refine ax (am (aq (bh (sR (mV rfl ?_)))))
  obtain ⟨a1, c8, a3⟩ := cz (i := a0) b6 (by omega) (by omega)
  refine ae (bf rfl rfl c8) (lD a3 rfl rfl rfl ?_)
  refine gh (x := .agg [vs [], vi 0]) M0 rfl rfl (fun c9 d2 d8 c5 => ?_)
  refine mV rfl ?_
  refine fu (k := 0) (v := a1) c5 rfl rfl rfl (TR.cnt ay.t a3) (fun c6 a6 => ?_)
  replace a6 : Mem c6 [⟨.op c9 d2 0, 166, 2, [a1]⟩] := a6
  refine nS (bh (aq (gu (df (ae (ba rfl) (dg (df (ae (br (k := 0) a6 rfl rfl (ay.g_Name a3)) ?_))))))))
  refine dg (df ?_)
  obtain ⟨a2, b2, z⟩ := bq z
  have b5 := au2 (x0 := (ix x0.Params a0).Name)  
  rw [b2] at b5
  refine cL b5 rfl rfl (ak rfl bc) (dg (df (ae (jp rfl) (dg (df (mV rfl (dg ?_)))))))
  refine yl (k := 0) (E' := [(29, vb (!a2)), (33, vb (!a2)), (32, vb a2), (31, vs ((ix x0.Params a0).Name)), (3, vi a0), (4, .fp a1), (28, a1), (27, .fp a1), (26, vi a0), (25, vb (decide (a0 < (x0.Params.length : Int)))), (24, vi a0), (23, vi (x0.Params.length : Int)), (22, a4), (1, .fp v0)]) a6 rfl (ka rfl (ka rfl (ka rfl (ka rfl (ka rfl (ak2 rfl (ka rfl (ka rfl (ka rfl (ka rfl (ka rfl (ka rfl (ka rfl (ka rfl av0)))))))))))))) (fun c3 b0 => ?_)
  replace b0 : Mem c3 [] := b0
  refine mq (am ?_)
  refine bm z rfl ?_ ?_ <;> clear z <;> intro c z <;> try simp only [qa] at c
  ·refine sR (mI rfl (nS ?_))
   exact rR z rfl rfl rfl
  ·refine sR (fL rfl (ay.g_Width a3) rfl rfl (bN cn rfl rfl (mV rfl ?_)))
   refine bw 4 (d := 42) (v := vb ((decide (((ix x0.Params a0).Width) < 1)) || (decide (32 < ((ix x0.Params a0).Width))))) ?_ ?_
   ·intro S Q r
    cases c2 : (decide (((ix x0.Params a0).Width) < 1))
    ·intro k
     have a9 := c2
     try simp only [qa] at a9
     refine ai rfl rfl (cg rfl (ay.g_Width a3)) (ai rfl rfl (ca rfl rfl rfl) (ai rfl rfl (bv rfl rfl ke) ?_))
     exact gK rfl rfl rfl rfl rfl k
    ·exact gN 3 rfl rfl rfl rfl rfl rfl
   refine mV rfl (nS ?_)
   refine bm z rfl ?_ ?_ <;> clear z <;> intro c z <;> try simp only [qa] at c
   ·refine sR (mI rfl (nS ?_))
    exact rR z rfl rfl rfl
   ·refine sR ?_
    obtain ⟨a5, c7, c4⟩ := bg.g_Params r0
    refine fA rfl c7 (lD c4 rfl rfl rfl (mV rfl (ae8 (E0 := [(46, vi a0), (45, a5), (44, .fp a5), (34, vb ((decide (((ix x0.Params a0).Width) < 1)) || (decide (32 < ((ix x0.Params a0).Width))))), (42, vb ((decide (((ix x0.Params a0).Width) < 1)) || (decide (32 < ((ix x0.Params a0).Width))))), (38, vb (decide (((ix x0.Params a0).Width) < 1))), (37, vb (decide (((ix x0.Params a0).Width) < 1))), (36, vi ((ix x0.Params a0).Width)), (35, .fp (vi ((ix x0.Params a0).Width))), (29, vb (!a2)), (33, vb (!a2)), (32, vb a2), (31, vs ((ix x0.Params a0).Name)), (3, vi a0), (4, .fp a1), (28, a1), (27, .fp a1), (26, vi a0), (25, vb (decide (a0 < (x0.Params.length : Int)))), (24, vi a0), (23, vi (x0.Params.length : Int)), (22, a4), (1, .fp v0)]) (sB rfl) ?_)))
    obtain ⟨d0, d1, b4⟩ := ck9 (P := Tryz.prog) (hf := false) (E := [(46, vi a0), (45, a5), (44, .fp a5), (34, vb ((decide (((ix x0.Params a0).Width) < 1)) || (decide (32 < ((ix x0.Params a0).Width))))), (42, vb ((decide (((ix x0.Params a0).Width) < 1)) || (decide (32 < ((ix x0.Params a0).Width))))), (38, vb (decide (((ix x0.Params a0).Width) < 1))), (37, vb (decide (((ix x0.Params a0).Width) < 1))), (36, vi ((ix x0.Params a0).Width)), (35, .fp (vi ((ix x0.Params a0).Width))), (29, vb (!a2)), (33, vb (!a2)), (32, vb a2), (31, vs ((ix x0.Params a0).Name)), (3, vi a0), (4, .fp a1), (28, a1), (27, .fp a1), (26, vi a0), (25, vb (decide (a0 < (x0.Params.length : Int)))), (24, vi a0), (23, vi (x0.Params.length : Int)), (22, a4), (1, .fp v0)]) (h := c3) (t := ay.t) (tt := 23) (x := (.tmp 45)) (lo := none) (hi := (some (.tmp 46))) (a := 0) (b := a0) c4 rfl rfl rfl (show 0 ≤ 0 by omega) (show 0 ≤ a0 by omega) (show a0 ≤ (x0.Params.length : Int) by omega) (fun ad => by kernel_rfl)
    have d3 := as9 (l := x0.Params) (show 0 ≤ 0 by omega) (show 0 ≤ a0 by omega) (show a0 ≤ (x0.Params.length : Int) by omega)
    refine ae (v := d0) (d1) ?_
    have b1 : (tFn Tryz.prog ay.t tB).R (fun a_ => dy a_ (ix x0.Params a0)) (.fn (.func 171) [] [.fp a1]) := bt1 (ak (cl8 (TR.clo ay.t a3)) bc) fun a va ra => by exact ⟨_, by1  ra a3 , rfl⟩
    refine ae (v := .fn (.func 171) [] [.fp a1]) (bc2 rfl rfl) ?_
    obtain ⟨d6, c0, z⟩ := bq z
    have b3 := by9  b4 b1 
    rw [c0] at b3
    refine cL b3 rfl rfl (ak (TR.clo (tSl ay.t) b4) (ak (TR.clo (tFn Tryz.prog ay.t tB) b1) bc)) (mV rfl (nS ?_))
    refine bm z rfl ?_ ?_ <;> clear z <;> intro c z <;> try simp only [qa] at c
    ·refine sR (mI rfl (nS ?_))
     exact rR z rfl rfl rfl
    ·refine ax (cp (cp (am (aw (bN em rfl rfl (mV rfl (bp (cq ?_))))))))
     have s := db b6
     have o : wr (a0 + 1) = a0 + 1 := de (by omega) (by omega)
     erw [o]
     exact wC (ih   (by omega) (by omega) (Mem.sub b0 .slnil) z) rfl

theorem bs6 {x0 : bg} {v0 : PV} (r0 : bg.t.R x0 v0) : FnR Tryz.prog 103 [v0] (vi (ii x0)) := by
 refine fnS (R := RF103) az1 (fun _ h => h) rfl fun n z => ?_
 unfold ii at z
 refine sR (ae (ej rfl (TR.cnt bg.t r0)) (mI rfl (nS (aq (bh (sR (fL rfl (bg.g_Name r0) rfl rfl ?_)))))))
 obtain ⟨b4, a2, z⟩ := bq z
 have a8 := au2 (x0 := x0.Name)  
 rw [a2] at a8
 refine cL a8 rfl rfl (ak rfl bc) (ae (jp rfl) (mV rfl (nS ?_)))
 refine bm z rfl ?_ ?_ <;> clear z <;> intro a0 z <;> have a4 := a0 <;> try simp only [qa] at a4
 ·refine sR (mI rfl (nS ?_))
  exact rR z rfl rfl rfl
 ·refine sR (gL (bg.g_Params r0) rfl rfl rfl fun b3 b1 => (ae (cv rfl (cm b1 Tryz.underlying23 _)) (bN ke rfl rfl (mV rfl ?_))))
  refine bw 5 (d := 20) (v := vb ((decide (4 < (x0.Params.length : Int))) || (decide (12 < (x0.Body.length : Int))))) ?_ ?_
  ·intro S Q r
   cases a7 : (decide (4 < (x0.Params.length : Int)))
   ·intro k
    have a5 := a7
    try simp only [qa] at a5
    obtain ⟨b6, b0, a6⟩ := bg.g_Body r0
    refine ai rfl rfl (cg rfl b0) (ai rfl rfl (ca rfl (TR.cnt (tSl aj.t) a6) (TR.agg (tSl aj.t) a6)) (ai rfl rfl (cv rfl (cm a6 Tryz.underlying95 _)) (ai rfl rfl (bv rfl rfl ke) ?_)))
    exact gK rfl rfl rfl rfl rfl k
   ·exact gN 4 rfl rfl rfl rfl rfl rfl
  refine mV rfl (nS ?_)
  refine bm z rfl ?_ ?_ <;> clear z <;> intro a1 z <;> have a3 := a1 <;> try simp only [qa] at a3
  ·refine sR (mI rfl (nS ?_))
   exact rR z rfl rfl rfl
  ·refine ax (cp (am (aq (sR (gL (bg.g_Params r0) rfl rfl rfl fun b5 a9 => (ae (cv rfl (cm a9 Tryz.underlying23 _)) (mI rfl (nS ?_))))))))
   refine bh ?_
   refine wC (ql r0 a2 a0 a1 a9 ?_  rfl (by omega) (Mem.sub (Mem.nil ⟨0, []⟩) .slnil) z) rfl
   ·intro b7 b2 z
    refine fx (am (sR (mI rfl (nS ?_))))
    exact rR z rfl rfl rfl

def RF172 (n : Int × Bool) (r : PV) : Prop := r = .tup [vi n.1, vb n.2]
theorem bx5 {x0 : af} {x1 : aa} {v0 v1 : PV} (r0 : af.t.R x0 v0) (r1 : aa.t.R x1 v1) : FnR Tryz.prog 172 [v0, v1] (.tup [vi ((mv x0 x1).1), vb ((mv x0 x1).2)]) := by
 refine fnS (R := RF172) av7 (fun _ h => h) rfl fun n z => ?_
 unfold mv at z
 refine sR (ae (ej rfl (TR.cnt af.t r0)) (ae (ej rfl (TR.cnt aa.t r1)) (mI rfl (mB rfl (nR (gL (af.g_Metadata r0) rfl rfl rfl fun c3 b2 => (mV rfl (nS ?_))))))))
 refine aq (sR (fL rfl (aa.g_Header r1) rfl rfl (bN (ig (b := -1)) rfl rfl (nS ?_))))
 obtain ⟨b6, a6, z⟩ := bq z
 refine jw (F := fun b S Q => ∀ (a0 : List ay) (a2 : PV) (a1 : (tSl ay.t).R a0 a2), b6 a0 = n → RC Tryz.prog b S Q [(6, a2), (3, .fp v1)] ⟨0, []⟩) ?_ ?_
 ·intro a0 a2 a1  z
  rw [← a6] at z
  refine aq (sR (fL rfl (aa.g_Field r1) rfl rfl (bN cn rfl rfl (mV rfl ?_))))
  refine bw 6 (d := 39) (v := vb ((decide (x1.Field < 0)) || (decide ((a0.length : Int) ≤ x1.Field)))) ?_ ?_
  ·intro S Q r
   cases a7 : (decide (x1.Field < 0))
   ·intro k
    have a3 := a7
    try simp only [qa] at a3
    refine ai rfl rfl (cg rfl (aa.g_Field r1)) (ai rfl rfl (ca rfl rfl rfl) (ai rfl rfl (av rfl) (ai rfl rfl (cv rfl (cm a1 Tryz.underlying23 _)) (ai rfl rfl (bv rfl rfl lv) ?_))))
    exact gK rfl rfl rfl rfl rfl k
   ·exact gN 5 rfl rfl rfl rfl rfl rfl
  refine nS ?_
  refine bm z rfl ?_ ?_ <;> clear z <;> intro c z <;> try simp only [qa] at c
  ·refine sR (mI rfl (mB rfl (nS ?_)))
   exact rT z rfl rfl rfl rfl rfl
  ·refine ax (am (sR (mV rfl (fL rfl (aa.g_Field r1) rfl rfl ?_))))
   obtain ⟨b9, b1, a9⟩ := cz (i := x1.Field) a1 (by omega) (by omega)
   refine ae (bf rfl rfl b1) (fL rfl (ay.g_Width a9) rfl rfl (mV rfl (mB rfl (nS ?_))))
   exact rT z rfl rfl rfl rfl rfl
 ·intro J
  refine bm z rfl ?_ ?_ <;> clear z <;> intro c z <;> try simp only [qa] at c
  ·refine aq (sR (fL rfl (aa.g_Header r1) rfl rfl (bN cn rfl rfl (mV rfl ?_))))
   refine bw 7 (d := 22) (v := vb ((decide (x1.Header < 0)) || (decide ((x0.Headers.length : Int) ≤ x1.Header)))) ?_ ?_
   ·intro S Q r
    cases a8 : (decide (x1.Header < 0))
    ·intro k
     have a5 := a8
     try simp only [qa] at a5
     refine ai rfl rfl (cg rfl (aa.g_Header r1)) (ai rfl rfl (ca rfl rfl rfl) ?_)
     obtain ⟨b8, b4, a4⟩ := af.g_Headers r0
     refine ai rfl rfl (cg rfl b4) (ai rfl rfl (ca rfl (TR.cnt (tSl cy.t) a4) (TR.agg (tSl cy.t) a4)) (ai rfl rfl (cv rfl (cm a4 Tryz.underlying22 _)) (ai rfl rfl (bv rfl rfl lv) ?_)))
     exact gK rfl rfl rfl rfl rfl k
    ·exact gN 6 rfl rfl rfl rfl rfl rfl
   refine nS ?_
   refine bm z rfl ?_ ?_ <;> clear z <;> intro c z <;> try simp only [qa] at c
   ·refine sR (mI rfl (mB rfl (nS ?_)))
    exact rT z rfl rfl rfl rfl rfl
   ·refine ax (am (aw (gL (af.g_Headers r0) rfl rfl rfl fun c0 b3 => (fL rfl (aa.g_Header r1) rfl rfl ?_))))
    obtain ⟨c2, b0, b5⟩ := cz (i := x1.Header) b3 (by omega) (by omega)
    refine ae (bf rfl rfl b0) (gL (cy.g_Fields b5) rfl rfl rfl fun c1 b7 => (mV rfl (bp ?_)))
    refine am (wC (J _ _ b7  z) rfl)
  ·refine ax ?_
   refine am (wC (J _ _ b2  z) rfl)

end Go.Proofs.YtmonnlkagniolaaGreat
