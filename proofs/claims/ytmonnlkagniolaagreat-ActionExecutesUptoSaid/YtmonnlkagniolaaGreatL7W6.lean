/-
 The code of each function does what its plain program says.
-/
import Derived.Test.YtmonnlkagniolaaGreatL7W5
set_option linter.unusedVariables false
set_option linter.unusedSimpArgs false
set_option maxRecDepth 100000
namespace Go.Proofs.YtmonnlkagniolaaGreat
open Go Go.Pb Go.RowKit
def RF175 (res : Bool) (r : PV) : Prop := r = vb res
theorem bh4 {x0 : UInt8} : FnR Tryz.prog 175 [vu8 x0] (vb (mn x0)) := by
 refine fnS (R := RF175) cv3 (fun _ h => h) rfl fun res s => ?_
 unfold mn at s
 refine sR (mB rfl (nR (mV rfl (ae (bp (a := vu8 x0) (b := vu8 (97 : UInt8)) rfl rfl al1) (mV rfl ?_)))))
 refine bw 3 (d := 8) (v := vb ((decide ((97 : UInt8) ≤ x0)) && (decide (x0 ≤ (122 : UInt8))))) ?_ ?_
 ·intro S Q r
  cases a3 : (decide ((97 : UInt8) ≤ x0))
  ·exact gN 2 rfl rfl rfl rfl rfl rfl
  ·intro k
   have a2 := a3
   try simp only [qa] at a2
   refine ah rfl rfl (ax rfl) (ah rfl rfl (bp (a := vu8 x0) (b := vu8 (122 : UInt8)) rfl rfl al2) ?_)
   exact gK rfl rfl rfl rfl rfl k
 refine mV rfl ?_
 refine bw 7 (d := 16) (v := vb (((decide ((97 : UInt8) ≤ x0)) && (decide (x0 ≤ (122 : UInt8)))) || ((decide ((65 : UInt8) ≤ x0)) && (decide (x0 ≤ (90 : UInt8)))))) ?_ ?_
 ·intro S Q r
  cases a5 : ((decide ((97 : UInt8) ≤ x0)) && (decide (x0 ≤ (122 : UInt8))))
  ·intro k
   have a1 := a5
   try simp only [qa] at a1
   refine ah rfl rfl (ax rfl) (ah rfl rfl (bp (a := vu8 x0) (b := vu8 (65 : UInt8)) rfl rfl al1) (ah rfl rfl (ax rfl) ?_))
   refine bw 3 (d := 15) (v := vb ((decide ((65 : UInt8) ≤ x0)) && (decide (x0 ≤ (90 : UInt8))))) ?_ ?_
   ·intro S Q r
    cases a4 : (decide ((65 : UInt8) ≤ x0))
    ·intro k
     refine lh rfl rfl (lh rfl rfl (ah (v := vb false) rfl rfl (ob rfl rfl rfl rfl) ?_))
     exact wD k rfl
    ·intro k
     have a0 := a4
     try simp only [qa] at a0
     refine ah rfl rfl (ax rfl) (ah rfl rfl (bp (a := vu8 x0) (b := vu8 (90 : UInt8)) rfl rfl al2) (ah (v := vb (decide (x0 ≤ (90 : UInt8)))) rfl rfl (ob rfl rfl rfl rfl) ?_))
     exact wD k rfl
   exact gK rfl rfl rfl rfl rfl k
  ·exact gN 6 rfl rfl rfl rfl rfl rfl
 refine mV rfl (nS ?_)
 exact rR s rfl rfl rfl

def RF176 (res : Bool) (r : PV) : Prop := r = vb res
theorem cr2 {x0 : UInt8} : FnR Tryz.prog 176 [vu8 x0] (vb (ou x0)) := by
 refine fnS (R := RF176) co6 (fun _ h => h) rfl fun res s => ?_
 unfold ou at s
 refine sR (mB rfl (nR (mV rfl (ae (bp (a := vu8 x0) (b := vu8 (48 : UInt8)) rfl rfl al1) (mV rfl ?_)))))
 refine bw 3 (d := 8) (v := vb ((decide ((48 : UInt8) ≤ x0)) && (decide (x0 ≤ (57 : UInt8))))) ?_ ?_
 ·intro S Q r
  cases a1 : (decide ((48 : UInt8) ≤ x0))
  ·exact gN 2 rfl rfl rfl rfl rfl rfl
  ·intro k
   have a0 := a1
   try simp only [qa] at a0
   refine ah rfl rfl (ax rfl) (ah rfl rfl (bp (a := vu8 x0) (b := vu8 (57 : UInt8)) rfl rfl al2) ?_)
   exact gK rfl rfl rfl rfl rfl k
 refine mV rfl (nS ?_)
 exact rR s rfl rfl rfl

def RF105 (res : Bool) (r : PV) : Prop := r = vb res
theorem tz {S : List Fr} {res : Bool} {x0 : List UInt8} (a5 : (((decide (x0 = ([] : List UInt8))) || (decide (16 < (x0.length : Int)))) || (!(mn (ix x0 0)))) = false) {K0 : Unit → Bool}
  (b3 : K0 () = res → PX Tryz.prog 0 S (QR Tryz.prog [(2, none)] (RF105 res)) [] ⟨0, []⟩) :
  ∀ {m : Nat} {a0 : Int} (b2 : m = Int.toNat ((x0.length : Int) - a0)) (a8 : 0 ≤ a0), ip x0 K0 m a0 = res → RC Tryz.prog (.loop bx2) S (QR Tryz.prog [(2, none)] (RF105 res)) [(3, vi a0), (0, vs x0)] ⟨0, []⟩ := by
 have a3 := a5
 try simp only [qa] at a3
 intro m
 induction m with
 | zero =>
  intro a0 b2 a8 s
  rw [ip] at s
  refine de (au (sR (mV rfl (mV rfl (ae (cy rfl (tk Tryz.underlying9)) (bN ct rfl rfl (nS ?_)))))))
  refine cw rfl ?_ ?_ <;> intro c <;> try simp only [qa] at c
  ·omega
  refine fc (gh (dy ?_))
  exact wP (b3  s) rfl
 | succ m ih =>
  intro a0 b2 a8 s
  rw [ip] at s
  refine de (au (sR (mV rfl (mV rfl (ae (cy rfl (tk Tryz.underlying9)) (bN ct rfl rfl (nS ?_)))))))
  refine cw rfl ?_ ?_ <;> intro c <;> try simp only [qa] at c
  rotate_left
  ·omega
  refine ba (aq (au (cb (sR (mV rfl (mV rfl (ae (qt rfl rfl (uq Tryz.underlying9 (by omega) (by omega))) ?_)))))))
  obtain ⟨a1, b0, s⟩ := bn s
  have a6 := bh4 (x0 := (ix x0 a0))  
  rw [b0] at a6
  refine cL a6 rfl rfl (ab rfl ay) (ae (gv rfl) (mV rfl ?_))
  refine bw 6 (d := 34) (v := vb ((!a1) && (!(ou (ix x0 a0))))) ?_ ?_
  ·intro S Q r
   cases a9 : (!a1)
   ·exact gN 5 rfl rfl rfl rfl rfl rfl
   ·intro k
    have a4 := a9
    try simp only [qa] at a4
    refine ah rfl rfl (ax rfl) (ah rfl rfl (ax rfl) (ah rfl rfl (qt rfl rfl (uq Tryz.underlying9 (by omega) (by omega))) ?_))
    have b1 := cr2 (x0 := (ix x0 a0))  
    refine jm rfl rfl (qq rfl rfl (ab rfl ay) b1) (ah rfl rfl (gv rfl) ?_)
    exact gK rfl rfl rfl rfl rfl k
  refine mV rfl ?_
  refine bw 5 (d := 40) (v := vb (((!a1) && (!(ou (ix x0 a0)))) && (!decide ((ix x0 a0) = (95 : UInt8))))) ?_ ?_
  ·intro S Q r
   cases a7 : ((!a1) && (!(ou (ix x0 a0))))
   ·exact gN 4 rfl rfl rfl rfl rfl rfl
   ·intro k
    have a2 := a7
    try simp only [qa] at a2
    refine ah rfl rfl (ax rfl) (ah rfl rfl (ax rfl) (ah rfl rfl (qt rfl rfl (uq Tryz.underlying9 (by omega) (by omega))) (ah rfl rfl (bp (a := vu8 (ix x0 a0)) (b := vu8 (95 : UInt8)) rfl rfl eb2) ?_)))
    exact gK rfl rfl rfl rfl rfl k
  refine nS ?_
  refine bt s rfl ?_ ?_ <;> clear s <;> intro c s <;> try simp only [qa] at c
  ·refine sR (mB rfl (nS ?_))
   exact rR s rfl rfl rfl
  ·refine ba (dj (aq (bb (mV rfl (bN fy rfl rfl (mV rfl (cf (du ?_))))))))
   have u : wr (a0 + 1) = a0 + 1 := ek (by omega) (by omega)
   erw [u]
   exact wC (ih   (by omega) (by omega) s) rfl

theorem bj2 {x0 : List UInt8} : FnR Tryz.prog 105 [vs x0] (vb (iy x0)) := by
 refine fnS (R := RF105) cv7 (fun _ h => h) rfl fun res s => ?_
 unfold iy at s
 refine sR (mB rfl (nS (au (sR (mV rfl (ae (bp (a := vs x0) (b := vs ([] : List UInt8)) rfl rfl an1) (mV rfl ?_)))))))
 refine bw 4 (d := 10) (v := vb ((decide (x0 = ([] : List UInt8))) || (decide (16 < (x0.length : Int))))) ?_ ?_
 ·intro S Q r
  cases a4 : (decide (x0 = ([] : List UInt8)))
  ·intro k
   have a1 := a4
   try simp only [qa] at a1
   refine ah rfl rfl (ax rfl) (ah rfl rfl (cy rfl (tk Tryz.underlying9)) (ah rfl rfl (bp rfl rfl ki) ?_))
   exact gK rfl rfl rfl rfl rfl k
  ·exact gN 3 rfl rfl rfl rfl rfl rfl
 refine mV rfl ?_
 refine bw 5 (d := 16) (v := vb (((decide (x0 = ([] : List UInt8))) || (decide (16 < (x0.length : Int)))) || (!(mn (ix x0 0))))) ?_ ?_
 ·intro S Q r
  cases a5 : ((decide (x0 = ([] : List UInt8))) || (decide (16 < (x0.length : Int))))
  ·intro k
   have a2 := a5
   try simp only [qa] at a2
   refine ah rfl rfl (ax rfl) (ah rfl rfl (qt rfl rfl (uq (i := 0) Tryz.underlying9 (by omega) (by ((have hp := List.length_pos_iff.2 (And.left (by assumption : ¬x0 = [] ∧ _)); omega))))) ?_)
   have a6 := bh4 (x0 := (ix x0 0))  
   refine jm rfl rfl (qq rfl rfl (ab rfl ay) a6) (ah rfl rfl (gv rfl) ?_)
   exact gK rfl rfl rfl rfl rfl k
  ·exact gN 4 rfl rfl rfl rfl rfl rfl
 refine nS ?_
 refine bt s rfl ?_ ?_ <;> clear s <;> intro a0 s <;> have a3 := a0 <;> try simp only [qa] at a3
 ·refine sR (mB rfl (nS ?_))
  exact rR s rfl rfl rfl
 ·refine ba (aq (au (sR (mI rfl (nS (cb ?_))))))
  refine wC (tz a0 ?_  rfl (by omega) s) rfl
  ·intro  s
   refine gy (aq (sR (mB rfl (nS ?_))))
   exact rR s rfl rfl rfl

def RF106 (res : Int) (r : PV) : Prop := r = vi res
theorem xv {S : List Fr} {res : Int} {x0 : List aw} {a0 : Int} {a9 : Bool} {v0 : PV} (r0 : (tSl aw.t).R x0 v0) (b8 : 0 ≤ a0) (a8 : (decide (a0 < (x0.length : Int))) = true) (b4 : iy ((ix x0 a0).Name) = a9) (a6 : (!a9) = false) (a5 : ((decide (((ix x0 a0).Width) < 1)) || (decide (32 < ((ix x0 a0).Width)))) = false) {K3 : Unit → Int}
  (b9 : K3 () = res → PX Tryz.prog 3 S (QR Tryz.prog [(2, none)] (RF106 res)) [(0, v0), (3, vi a0)] ⟨0, []⟩) :
  ∀ {m : Nat} {a1 : Int} (b5 : m = Int.toNat (a0 - a1)) (a7 : 0 ≤ a1), kb x0 a0 K3 m a1 = res → RC Tryz.prog (.loop bt3) S (QR Tryz.prog [(2, none)] (RF106 res)) [(4, vi a1), (3, vi a0), (0, v0)] ⟨0, []⟩ := by
 have a4 := a8
 try simp only [qa] at a4
 have a3 := a6
 try simp only [qa] at a3
 have a2 := a5
 try simp only [qa] at a2
 intro m
 induction m with
 | zero =>
  intro a1 b5 a7 s
  rw [kb] at s
  refine de (au (sR (mV rfl (mV rfl (bN ct rfl rfl (nS ?_))))))
  refine cw rfl ?_ ?_ <;> intro c <;> try simp only [qa] at c
  ·omega
  refine fc (gh (dy ?_))
  exact wP (b9  s) rfl
 | succ m ih =>
  intro a1 b5 a7 s
  rw [kb] at s
  refine de (au (sR (mV rfl (mV rfl (bN ct rfl rfl (nS ?_))))))
  refine cw rfl ?_ ?_ <;> intro c <;> try simp only [qa] at c
  rotate_left
  ·omega
  refine ba (aq (au (cb (sR (mV rfl (mV rfl ?_))))))
  obtain ⟨b6, b3, b2⟩ := cr (i := a1) r0 (by omega) (by omega)
  refine ae (bh rfl rfl b3) (fL rfl (aw.g_Name b2) rfl rfl (mV rfl (mV rfl ?_)))
  obtain ⟨b7, b0, b1⟩ := cr (i := a0) r0 (by omega) (by omega)
  refine ae (bh rfl rfl b0) (fL rfl (aw.g_Name b1) rfl rfl (ae (bp (a := vs ((ix x0 a1).Name)) (b := vs ((ix x0 a0).Name)) rfl rfl an1) (nS ?_)))
  refine bt s rfl ?_ ?_ <;> clear s <;> intro c s <;> try simp only [qa] at c
  ·refine sR (mI rfl (nS ?_))
   exact rR s rfl rfl rfl
  ·refine ba (dj (aq (bb (mV rfl (bN fy rfl rfl (mV rfl (cf (du ?_))))))))
   have u : wr (a1 + 1) = a1 + 1 := ek (by omega) (by ((have hbd := fg r0; omega)))
   erw [u]
   exact wC (ih   (by omega) (by omega) s) rfl

theorem yi {S : List Fr} {res : Int} {x0 : List aw} {v0 : PV} (r0 : (tSl aw.t).R x0 v0) {K0 : Unit → Int}
  (c4 : K0 () = res → PX Tryz.prog 0 S (QR Tryz.prog [(2, none)] (RF106 res)) [] ⟨0, []⟩) :
  ∀ {m : Nat} {a0 : Int} (b8 : m = Int.toNat ((x0.length : Int) - a0)) (a7 : 0 ≤ a0), kh x0 K0 m a0 = res → RC Tryz.prog (.loop bw7) S (QR Tryz.prog [(2, none)] (RF106 res)) [(3, vi a0), (0, v0)] ⟨0, []⟩ := by
 intro m
 induction m with
 | zero =>
  intro a0 b8 a7 s
  rw [kh] at s
  refine de (au (sR (mV rfl (mV rfl (ae (cy rfl (co r0 Tryz.underlying23 _)) (bN ct rfl rfl (nS ?_)))))))
  refine cw rfl ?_ ?_ <;> intro c <;> try simp only [qa] at c
  ·omega
  refine fc (gh (dy ?_))
  exact wP (c4  s) rfl
 | succ m ih =>
  intro a0 b8 a7 s
  rw [kh] at s
  refine de (au (sR (mV rfl (mV rfl (ae (cy rfl (co r0 Tryz.underlying23 _)) (bN ct rfl rfl (nS ?_)))))))
  refine cw rfl (fun a1 => ?_) (fun a1 => ?_)
  ·have hgo := s
   have a9 := a1
   try simp only [qa] at a9
   refine ba (aq (au (cb (au (cb (sR (mV rfl (mV rfl ?_))))))))
   obtain ⟨c1, b5, b2⟩ := cr (i := a0) r0 (by omega) (by omega)
   refine ae (bh rfl rfl b5) (fL rfl (aw.g_Name b2) rfl rfl ?_)
   obtain ⟨c5, a3, s⟩ := bn s
   have b0 := bj2 (x0 := (ix x0 a0).Name)  
   rw [a3] at b0
   refine cL b0 rfl rfl (ab rfl ay) (ae (gv rfl) (mV rfl (nS ?_)))
   refine bt s rfl ?_ ?_ <;> clear s <;> intro a4 s <;> have a6 := a4 <;> try simp only [qa] at a6
   ·refine sR (mI rfl (nS ?_))
    exact rR s rfl rfl rfl
   ·refine sR (mV rfl (mV rfl ?_))
    obtain ⟨b9, b3, b4⟩ := cr (i := a0) r0 (by omega) (by omega)
    refine ae (bh rfl rfl b3) (fL rfl (aw.g_Width b4) rfl rfl (bN ct rfl rfl (mV rfl ?_)))
    refine bw 7 (d := 33) (v := vb ((decide (((ix x0 a0).Width) < 1)) || (decide (32 < ((ix x0 a0).Width))))) ?_ ?_
    ·intro S Q r
     cases b1 : (decide (((ix x0 a0).Width) < 1))
     ·intro k
      have a8 := b1
      try simp only [qa] at a8
      refine ah rfl rfl (ax rfl) (ah rfl rfl (ax rfl) ?_)
      obtain ⟨c6, b7, b6⟩ := cr (i := a0) r0 (by omega) (by omega)
      refine ah rfl rfl (bh rfl rfl b7) (ah rfl rfl (br rfl (aw.g_Width b6)) (ah rfl rfl (bq rfl rfl rfl) (ah rfl rfl (bp rfl rfl ki) ?_)))
      exact gK rfl rfl rfl rfl rfl k
     ·exact gN 6 rfl rfl rfl rfl rfl rfl
    refine mV rfl (nS ?_)
    refine bt s rfl ?_ ?_ <;> clear s <;> intro a2 s <;> have a5 := a2 <;> try simp only [qa] at a5
    ·refine sR (mI rfl (nS ?_))
     exact rR s rfl rfl rfl
    ·refine ba (dj (aq (sR (mI rfl (nS (cb ?_))))))
     refine wC (xv r0 a7 a1 a3 a4 a2 ?_  rfl (by omega) s) rfl
     ·intro  s
      refine gy (dj (aq (bb (mV rfl (bN fy rfl rfl (mV rfl (cf (du ?_))))))))
      have hbd := fg r0
      have u : wr (a0 + 1) = a0 + 1 := ek (by omega) (by omega)
      erw [u]
      exact wC (ih   (by omega) (by omega) s) rfl
  ·exfalso
   try simp only [qa] at a1
   omega

theorem bf2 {x0 : List aw} {v0 : PV} (r0 : (tSl aw.t).R x0 v0) : FnR Tryz.prog 106 [v0] (vi (pd x0)) := by
 refine fnS (R := RF106) cn9 (fun _ h => h) rfl fun res s => ?_
 unfold pd at s
 refine sR (mI rfl (nS (au (sR (mI rfl (nS (cb ?_)))))))
 refine wC (yi r0 ?_  rfl (by omega) s) rfl
 ·intro  s
  refine gy (aq (sR (mI rfl (nS ?_))))
  exact rR s rfl rfl rfl

def RF85 (res : aj) (r : PV) : Prop := aj.t.R res r
theorem bv2 {x0 : af} {x1 : Int} {v0 : PV} (r0 : af.t.R x0 v0) (hi : 0 ≤ x1 ∧ x1 < (x0.Actions.length : Int)) : ∃ r, FnR Tryz.prog 85 [v0, vi x1] r ∧ aj.t.R (nm x0 x1) r := by
 refine fnT (R := RF85) df9 rfl fun res s => ?_
 unfold nm at s
 refine sR (ae (cz rfl (TR.cnt af.t r0)) ?_)
 refine di (x := .agg [vs [], nilS, nilS, nilS, nilS, nilS, nilS, nilS, nilS, nilS]) (Mem.nil ⟨0, []⟩) rfl rfl (fun c6 c8 d2 c7 => ?_)
 refine nR (lD r0 rfl rfl rfl (gL (af.g_Actions r0) rfl rfl rfl fun d1 b9 => (mV rfl ?_)))
 obtain ⟨d0, c9, c5⟩ := cr (i := x1) b9 (by omega) (by omega)
 refine ae (bh rfl rfl c9) (gL (bz.g_Params c5) rfl rfl rfl fun a8 b7 => ?_)
 obtain ⟨a3, a2, a7, a0, a1, a5, a6, a4, c4, b6, b3, b4, b1, b0, a9, b5, b2⟩ := r0
 subst c4
 refine ae (v := .agg [vs x0.Name, a3, a2, a7, a0, a1, a5, a6, a4, a8]) (eg (cs := [vs x0.Name, a3, a2, a7, a0, a1, a5, a6, a4, a8]) rfl (by simp only [buildV, og (TR.cnt (tSl aw.t) b7) (TR.agg (tSl aw.t) b7)]; rfl)) ?_
 refine ci (k := 0) (v := .agg [vs x0.Name, a3, a2, a7, a0, a1, a5, a6, a4, a8]) c7 rfl rfl rfl rfl (fun c1 b8 => ?_)
 replace b8 : Mem c1 [⟨.op c6 c8 0, 132, 10, [.agg [vs x0.Name, a3, a2, a7, a0, a1, a5, a6, a4, a8]]⟩] := b8
 refine nS ?_
 subst s
 exact dw (.cell rfl (cv (k := 0) b8 rfl rfl) .nil) (cd (TR.clo aj.t (show aj.t.R ({ Program := x0, Params := (ix x0.Actions x1).Params } : aj) (.agg [vs x0.Name, a3, a2, a7, a0, a1, a5, a6, a4, a8]) from ⟨a3, a2, a7, a0, a1, a5, a6, a4, a8, rfl, b6, b3, b4, b1, b0, a9, b5, b2, b7⟩))) (show aj.t.R ({ Program := x0, Params := (ix x0.Actions x1).Params } : aj) (.agg [vs x0.Name, a3, a2, a7, a0, a1, a5, a6, a4, a8]) from ⟨a3, a2, a7, a0, a1, a5, a6, a4, a8, rfl, b6, b3, b4, b1, b0, a9, b5, b2, b7⟩)

def RF177 (res : Int × Bool) (r : PV) : Prop := r = .tup [vi res.1, vb res.2]
theorem bl1 {x0 : af} {x1 : ak} {v0 v1 : PV} (r0 : af.t.R x0 v0) (r1 : ak.t.R x1 v1) : FnR Tryz.prog 177 [v0, v1] (.tup [vi ((md x0 x1).1), vb ((md x0 x1).2)]) := by
 refine fnS (R := RF177) co5 (fun _ h => h) rfl fun res s => ?_
 unfold md at s
 refine sR (ae (cz rfl (TR.cnt af.t r0)) (ae (cz rfl (TR.cnt ak.t r1)) (mI rfl (mB rfl (nR (gL (af.g_Metadata r0) rfl rfl rfl fun c5 b6 => (mV rfl (nS ?_))))))))
 refine au (sR (fL rfl (ak.g_Header r1) rfl rfl (bN (kg (b := -1)) rfl rfl (nS ?_))))
 obtain ⟨b1, a6, s⟩ := bn s
 refine pp (F := fun b S Q => ∀ (a0 : List aw) (a1 : PV) (a2 : (tSl aw.t).R a0 a1), b1 a0 = res → RC Tryz.prog b S Q [(6, a1), (3, .fp v1)] ⟨0, []⟩) ?_ ?_
 ·intro a0 a1 a2  s
  rw [← a6] at s
  refine au (sR (fL rfl (ak.g_Field r1) rfl rfl (bN ct rfl rfl (mV rfl ?_))))
  refine bw 6 (d := 39) (v := vb ((decide (x1.Field < 0)) || (decide ((a0.length : Int) ≤ x1.Field)))) ?_ ?_
  ·intro S Q r
   cases a7 : (decide (x1.Field < 0))
   ·intro k
    have a3 := a7
    try simp only [qa] at a3
    refine ah rfl rfl (br rfl (ak.g_Field r1)) (ah rfl rfl (bq rfl rfl rfl) (ah rfl rfl (ax rfl) (ah rfl rfl (cy rfl (co a2 Tryz.underlying23 _)) (ah rfl rfl (bp rfl rfl ja) ?_))))
    exact gK rfl rfl rfl rfl rfl k
   ·exact gN 5 rfl rfl rfl rfl rfl rfl
  refine nS ?_
  refine bt s rfl ?_ ?_ <;> clear s <;> intro c s <;> try simp only [qa] at c
  ·refine sR (mI rfl (mB rfl (nS ?_)))
   exact rT s rfl rfl rfl rfl rfl
  ·refine ba (aq (sR (mV rfl (fL rfl (ak.g_Field r1) rfl rfl ?_))))
   obtain ⟨c1, b7, b4⟩ := cr (i := x1.Field) a2 (by omega) (by omega)
   refine ae (bh rfl rfl b7) (fL rfl (aw.g_Width b4) rfl rfl (mV rfl (mB rfl (nS ?_))))
   exact rT s rfl rfl rfl rfl rfl
 ·intro J
  refine bt s rfl ?_ ?_ <;> clear s <;> intro c s <;> try simp only [qa] at c
  ·refine au (sR (fL rfl (ak.g_Header r1) rfl rfl (bN ct rfl rfl (mV rfl ?_))))
   refine bw 7 (d := 22) (v := vb ((decide (x1.Header < 0)) || (decide ((x0.Headers.length : Int) ≤ x1.Header)))) ?_ ?_
   ·intro S Q r
    cases a8 : (decide (x1.Header < 0))
    ·intro k
     have a4 := a8
     try simp only [qa] at a4
     refine ah rfl rfl (br rfl (ak.g_Header r1)) (ah rfl rfl (bq rfl rfl rfl) ?_)
     obtain ⟨c6, a9, a5⟩ := af.g_Headers r0
     refine ah rfl rfl (br rfl a9) (ah rfl rfl (bq rfl (TR.cnt (tSl cm.t) a5) (TR.agg (tSl cm.t) a5)) (ah rfl rfl (cy rfl (co a5 Tryz.underlying22 _)) (ah rfl rfl (bp rfl rfl ja) ?_)))
     exact gK rfl rfl rfl rfl rfl k
    ·exact gN 6 rfl rfl rfl rfl rfl rfl
   refine nS ?_
   refine bt s rfl ?_ ?_ <;> clear s <;> intro c s <;> try simp only [qa] at c
   ·refine sR (mI rfl (mB rfl (nS ?_)))
    exact rT s rfl rfl rfl rfl rfl
   ·refine ba (aq (bb (gL (af.g_Headers r0) rfl rfl rfl fun c4 b0 => (fL rfl (ak.g_Header r1) rfl rfl ?_))))
    obtain ⟨b9, b3, b5⟩ := cr (i := x1.Header) b0 (by omega) (by omega)
    refine ae (bh rfl rfl b3) (gL (cm.g_Fields b5) rfl rfl rfl fun b8 b2 => (mV rfl (cf ?_)))
    refine aq (wC (J _ _ b2  s) rfl)
  ·refine ba ?_
   refine aq (wC (J _ _ b6  s) rfl)

def RF219 (res : Int) (r : PV) : Prop := r = vi res
theorem an7 {x0 : Int} : FnR Tryz.prog 219 [vi x0] (vi (fe x0)) := by
 refine fnS (R := RF219) ci2 (fun _ h => h) rfl fun res s => ?_
 unfold fe at s
 refine sR (mI rfl (nS (au (cb (sR (mV rfl (bN ja rfl rfl (mV rfl ?_))))))))
 refine bw 3 (d := 9) (v := vb ((decide (1 ≤ x0)) && (decide (x0 ≤ 4)))) ?_ ?_
 ·intro S Q r
  cases a3 : (decide (1 ≤ x0))
  ·exact gN 2 rfl rfl rfl rfl rfl rfl
  ·intro k
   have a2 := a3
   try simp only [qa] at a2
   refine ah rfl rfl (ax rfl) (ah rfl rfl (bp rfl rfl bc3) ?_)
   exact gK rfl rfl rfl rfl rfl k
 refine mV rfl (nS ?_)
 refine bt s rfl ?_ ?_ <;> clear s <;> intro c s <;> try simp only [qa] at c
 ·refine sR (mI rfl (nS ?_))
  exact rR s rfl rfl rfl
 ·refine sR (mV rfl (bN ja rfl rfl (mV rfl ?_)))
  refine bw 3 (d := 16) (v := vb ((decide (5 ≤ x0)) && (decide (x0 ≤ 8)))) ?_ ?_
  ·intro S Q r
   cases a4 : (decide (5 ≤ x0))
   ·exact gN 2 rfl rfl rfl rfl rfl rfl
   ·intro k
    have a0 := a4
    try simp only [qa] at a0
    refine ah rfl rfl (ax rfl) (ah rfl rfl (bp rfl rfl bc3) ?_)
    exact gK rfl rfl rfl rfl rfl k
  refine mV rfl (nS ?_)
  refine bt s rfl ?_ ?_ <;> clear s <;> intro c s <;> try simp only [qa] at c
  ·refine sR (mI rfl (nS ?_))
   exact rR s rfl rfl rfl
  ·refine sR (mV rfl (bN ja rfl rfl (mV rfl ?_)))
   refine bw 3 (d := 23) (v := vb ((decide (9 ≤ x0)) && (decide (x0 ≤ 16)))) ?_ ?_
   ·intro S Q r
    cases a5 : (decide (9 ≤ x0))
    ·exact gN 2 rfl rfl rfl rfl rfl rfl
    ·intro k
     have a1 := a5
     try simp only [qa] at a1
     refine ah rfl rfl (ax rfl) (ah rfl rfl (bp rfl rfl bc3) ?_)
     exact gK rfl rfl rfl rfl rfl k
   refine mV rfl (nS ?_)
   refine bt s rfl ?_ ?_ <;> clear s <;> intro c s <;> try simp only [qa] at c
   ·refine sR (mI rfl (nS ?_))
    exact rR s rfl rfl rfl
   ·refine sR (mV rfl (bN dn rfl rfl (mV rfl (nS ?_))))
    refine bt s rfl ?_ ?_ <;> clear s <;> intro c s <;> try simp only [qa] at c
    ·refine sR (mI rfl (nS ?_))
     exact rR s rfl rfl rfl
    ·refine ba (dj (aq (sR (mI rfl (nS ?_)))))
     exact rR s rfl rfl rfl

def RF285 (res : Int × Int) (r : PV) : Prop := r = .tup [vi res.1, vi res.2]
theorem ae2 {x0 : Int} : FnR Tryz.prog 285 [vi x0] (.tup [vi ((ov x0).1), vi ((ov x0).2)]) := by
 refine fnS (R := RF285) cw8 (fun _ h => h) rfl fun res s => ?_
 unfold ov at s
 refine sR (mI rfl (mI rfl (nS (au (sR (mV rfl (bN ct rfl rfl (mV rfl ?_))))))))
 refine bw 3 (d := 9) (v := vb ((decide (x0 < 1)) || (decide (32 < x0)))) ?_ ?_
 ·intro S Q r
  cases a1 : (decide (x0 < 1))
  ·intro k
   have a0 := a1
   try simp only [qa] at a0
   refine ah rfl rfl (ax rfl) (ah rfl rfl (bp rfl rfl ki) ?_)
   exact gK rfl rfl rfl rfl rfl k
  ·exact gN 2 rfl rfl rfl rfl rfl rfl
 refine nS ?_
 refine bt s rfl ?_ ?_ <;> clear s <;> intro c s <;> try simp only [qa] at c
 ·refine sR (mI rfl (mI rfl (nS ?_)))
  exact rT s rfl rfl rfl rfl rfl
 ·refine ba (aq (sR (mV rfl (mV rfl (mI rfl (nS ?_))))))
  exact rT s rfl rfl rfl rfl rfl

def RF183 (res : Bool) (r : PV) : Prop := r = vb res
theorem ux {x0 : Int} : FnR Tryz.prog 183 [vi x0] (vb (en x0)) := by
 refine fnS (R := RF183) cm3 (fun _ h => h) rfl fun res s => ?_
 unfold en at s
 refine sR (mB rfl (nR (mV rfl (bN ja rfl rfl (mV rfl ?_)))))
 refine bw 3 (d := 8) (v := vb ((decide (1 ≤ x0)) && (decide (x0 ≤ 32)))) ?_ ?_
 ·intro S Q r
  cases a1 : (decide (1 ≤ x0))
  ·exact gN 2 rfl rfl rfl rfl rfl rfl
  ·intro k
   have a0 := a1
   try simp only [qa] at a0
   refine ah rfl rfl (ax rfl) (ah rfl rfl (bp rfl rfl bc3) ?_)
   exact gK rfl rfl rfl rfl rfl k
 refine mV rfl (nS ?_)
 exact rR s rfl rfl rfl

def RF184 (res : (BitVec 64)) (r : PV) : Prop := r = jl res
theorem zf {S : List Fr} {res : (BitVec 64)} {x0 : Int} (hp : x0 ≤ 64) {K0 : (BitVec 64) → (BitVec 64)}
  (a4 : ∀ {a1 : BitVec 64}, K0 a1 = res → PX Tryz.prog 0 S (QR Tryz.prog [(2, none)] (RF184 res)) [(3, jl a1)] ⟨0, []⟩) :
  ∀ {m : Nat} {a1 : BitVec 64} {a0 : Int} (a3 : m = Int.toNat (x0 - a0)) (a2 : 0 ≤ a0), ot K0 m a1 a0 = res → RC Tryz.prog (.loop cb1) S (QR Tryz.prog [(2, none)] (RF184 res)) [(4, vi a0), (3, jl a1), (0, vi x0)] ⟨0, []⟩ := by
 intro m
 induction m with
 | zero =>
  intro a1 a0 a3 a2 s
  rw [ot] at s
  refine de (au (sR (mV rfl (mV rfl (bN ct rfl rfl (nS ?_))))))
  refine cw rfl ?_ ?_ <;> intro c <;> try simp only [qa] at c
  ·omega
  refine fc (gh (dy ?_))
  exact wP (a4  s) rfl
 | succ m ih =>
  intro a1 a0 a3 a2 s
  rw [ot] at s
  refine de (au (sR (mV rfl (mV rfl (bN ct rfl rfl (nS ?_))))))
  refine cw rfl ?_ ?_ <;> intro c <;> try simp only [qa] at c
  rotate_left
  ·omega
  refine ba (aq (au (cb (bb (mV rfl (ae (bp (a := jl 2#64) (b := jl a1) rfl rfl av0) (mV rfl (cf ?_))))))))
  refine dj (aq (bb (mV rfl (bN fy rfl rfl (mV rfl (cf (du ?_)))))))
  have u : wr (a0 + 1) = a0 + 1 := ek (by omega) (by omega)
  erw [u]
  exact wC (ih   (by omega) (by omega) s) rfl

theorem xc {x0 : Int} (hp : x0 ≤ 64) : FnR Tryz.prog 184 [vi x0] (jl (io x0)) := by
 refine fnS (R := RF184) co1 (fun _ h => h) rfl fun res s => ?_
 unfold io at s
 refine sR (ae (v := jl 0#64) (ax rfl) (nR (ae (v := jl 1#64) (ax rfl) (nS (au (sR (mI rfl (nS ?_))))))))
 refine cb ?_
 refine wC (zf hp ?_  rfl (by omega) s) rfl
 ·intro a0 s
  refine gy (aq (sR (mV rfl (mV rfl (nS ?_)))))
  exact rR s rfl rfl rfl

def RF286 (res : (BitVec 32)) (r : PV) : Prop := r = bd res
theorem bg2 {x0 : Int} : FnR Tryz.prog 286 [vi x0] (bd (mw x0)) := by
 refine fnS (R := RF286) cz0 (fun _ h => h) rfl fun res s => ?_
 unfold mw at s
 refine sR (ae (v := bd 0#32) (ax rfl) (nS (au (sR (mV rfl ?_)))))
 obtain ⟨a5, a2, s⟩ := bn s
 have a0 := ux (x0 := x0)  
 rw [a2] at a0
 refine cL a0 rfl rfl (ab rfl ay) (ae (gv rfl) (nS ?_))
 refine bt s rfl ?_ ?_ <;> clear s <;> intro c s <;> try simp only [qa] at c
 ·refine sR (ae (v := bd 0#32) (ax rfl) (nS ?_))
  exact rR s rfl rfl rfl
 ·refine ba (aq (sR (mV rfl ?_)))
  obtain ⟨a4, a3, s⟩ := bn s
  have a1 := xc (x0 := x0)  (by (have hk := rval (by assumption) (by assumption); omega))
  rw [a3] at a1
  refine cL a1 rfl rfl (ab rfl ay) (ae (bp (a := jl a4) (b := jl 1#64) rfl rfl dd1) (ae (gi (a := jl (a4 - 1#64)) rfl (c_dw Tryz.underlying201 Tryz.underlying89)) (mV rfl (nS ?_))))
  exact rR s rfl rfl rfl

def RF258 (res : Int × Int) (r : PV) : Prop := r = .tup [vi res.1, vi res.2]
theorem cl0 {x0 : aa} {x1 : aj} {v0 v1 : PV} (r0 : aa.t.R x0 v0) (r1 : aj.t.R x1 v1) : FnR Tryz.prog 258 [v0, v1] (.tup [vi ((qw x0 x1).1), vi ((qw x0 x1).2)]) := by
 refine fnS (R := RF258) cy9 (fun _ h => h) rfl fun res s => ?_
 unfold qw at s
 refine sR (ae (cz rfl (TR.cnt aa.t r0)) (ae (cz rfl (TR.cnt aj.t r1)) (mI rfl (mI rfl (nS (au (sR (fL rfl (aa.g_Op r0) rfl rfl ?_))))))))
 refine nS (cb (sR (bN dn rfl rfl (mV rfl (nS ?_)))))
 refine bt s rfl ?_ ?_ <;> clear s <;> intro c s <;> try simp only [qa] at c
 ·refine sR (fL rfl (aa.g_W r0) rfl rfl ?_)
  obtain ⟨a0, b1, s⟩ := bn s
  have b3 := ae2 (x0 := x0.W)  
  rw [b1] at b3
  refine cL b3 rfl rfl (ab rfl ay) (mV rfl (xT rfl rfl (xT rfl rfl (mV rfl (mV rfl (nS (au (sR ?_))))))))
  refine mV rfl (bN dn rfl rfl (mV rfl ?_))
  refine bw 12 (d := 34) (v := vb ((decide (a0.2 = 0)) && ((decide (x0.N < 0)) || (decide (((mw a0.1).toNat : Int) < x0.N))))) ?_ ?_
  ·intro S Q r
   cases a8 : (decide (a0.2 = 0))
   ·exact gN 11 rfl rfl rfl rfl rfl rfl
   ·intro k
    have a4 := a8
    try simp only [qa] at a4
    refine ah rfl rfl (br rfl (aa.g_N r0)) (ah rfl rfl (bq rfl rfl rfl) (ah rfl rfl (bp rfl rfl ct) (ah rfl rfl (ax rfl) ?_)))
    refine bw 7 (d := 33) (v := vb ((decide (x0.N < 0)) || (decide (((mw a0.1).toNat : Int) < x0.N)))) ?_ ?_
    ·intro S Q r
     cases b4 : (decide (x0.N < 0))
     ·intro k
      have a3 := b4
      try simp only [qa] at a3
      refine ah rfl rfl (br rfl (aa.g_N r0)) (ah rfl rfl (bq rfl rfl rfl) (ah rfl rfl (ax rfl) ?_))
      have c7 := bg2 (x0 := a0.1)  
      refine jm rfl rfl (qq rfl rfl (ab rfl ay) c7) (ah rfl rfl (gi (a := bd (mw a0.1)) rfl (c_wi Tryz.underlying89 Tryz.underlying3)) (ah rfl rfl (bp rfl rfl ki) (ah (v := vb (decide (((mw a0.1).toNat : Int) < x0.N))) rfl rfl (ob rfl rfl rfl rfl) ?_)))
      exact wD k rfl
     ·intro k
      refine lh rfl rfl (lh rfl rfl (lh rfl rfl (lh rfl rfl (lh rfl rfl (lh rfl rfl (ah (v := vb true) rfl rfl (ob rfl rfl rfl rfl) ?_))))))
      exact wD k rfl
    exact gK rfl rfl rfl rfl rfl k
  refine nS ?_
  refine bt s rfl ?_ ?_ <;> clear s <;> intro c s <;> try simp only [qa] at c
  ·refine sR (mI rfl (mI rfl (nS ?_)))
   exact rT s rfl rfl rfl rfl rfl
  ·refine ba (aq (sR (mV rfl (mV rfl (mV rfl (mV rfl (nS ?_)))))))
   exact rT s rfl rfl rfl rfl rfl
 ·refine sR (bN dn rfl rfl (mV rfl (nS ?_)))
  refine bt s rfl ?_ ?_ <;> clear s <;> intro c s <;> try simp only [qa] at c
  ·refine sR (gL (aj.g_Program r1) rfl rfl rfl fun d9 b7 => (fL rfl (aa.g_N r0) rfl rfl (fL rfl (aa.g_W r0) rfl rfl (ae (v := .agg [vi x0.N, vi x0.W]) (eg (cs := [vi x0.N, vi x0.W]) rfl rfl) ?_))))
   obtain ⟨d0, b9, s⟩ := bn s
   have a9 := bl1  b7 (show ak.t.R ({ Header := x0.N, Field := x0.W } : ak) (.agg [vi x0.N, vi x0.W]) from rfl) 
   rw [b9] at a9
   refine cL a9 rfl rfl (ab (TR.clo af.t b7) (ab (TR.clo ak.t (show ak.t.R ({ Header := x0.N, Field := x0.W } : ak) (.agg [vi x0.N, vi x0.W]) from rfl)) ay)) (mV rfl (xT rfl rfl (xT rfl rfl (mV rfl (mV rfl (nS (au (sR ?_))))))))
   refine mV rfl (ae (gv rfl) (nS ?_))
   refine bt s rfl ?_ ?_ <;> clear s <;> intro c s <;> try simp only [qa] at c
   ·refine sR (mI rfl (mI rfl (nS ?_)))
    exact rT s rfl rfl rfl rfl rfl
   ·refine ba (aq (sR (mV rfl ?_)))
    obtain ⟨d5, b0, s⟩ := bn s
    have b8 := ae2 (x0 := d0.1)  
    rw [b0] at b8
    refine cL b8 rfl rfl (ab rfl ay) (xT rfl rfl (xT rfl rfl (mV rfl (mV rfl (nS ?_)))))
    exact rT s rfl rfl rfl rfl rfl
  ·refine sR (bN dn rfl rfl (mV rfl (nS ?_)))
   refine bt s rfl ?_ ?_ <;> clear s <;> intro c s <;> try simp only [qa] at c
   ·refine au (sR (fL rfl (aa.g_N r0) rfl rfl (bN ct rfl rfl (mV rfl ?_))))
    refine bw 7 (d := 68) (v := vb ((decide (x0.N < 0)) || (decide ((x1.Params.length : Int) ≤ x0.N)))) ?_ ?_
    ·intro S Q r
     cases b6 : (decide (x0.N < 0))
     ·intro k
      have a1 := b6
      try simp only [qa] at a1
      refine ah rfl rfl (br rfl (aa.g_N r0)) (ah rfl rfl (bq rfl rfl rfl) ?_)
      obtain ⟨d4, d1, a6⟩ := aj.g_Params r1
      refine ah rfl rfl (br rfl d1) (ah rfl rfl (bq rfl (TR.cnt (tSl aw.t) a6) (TR.agg (tSl aw.t) a6)) (ah rfl rfl (cy rfl (co a6 Tryz.underlying23 _)) (ah rfl rfl (bp rfl rfl ja) ?_)))
      exact gK rfl rfl rfl rfl rfl k
     ·exact gN 6 rfl rfl rfl rfl rfl rfl
    refine nS ?_
    refine bt s rfl ?_ ?_ <;> clear s <;> intro c s <;> try simp only [qa] at c
    ·refine sR (mI rfl (mI rfl (nS ?_)))
     exact rT s rfl rfl rfl rfl rfl
    ·refine ba (aq (sR (gL (aj.g_Params r1) rfl rfl rfl fun d6 c4 => (fL rfl (aa.g_N r0) rfl rfl ?_))))
     obtain ⟨d8, c8, c6⟩ := cr (i := x0.N) c4 (by omega) (by omega)
     refine ae (bh rfl rfl c8) (fL rfl (aw.g_Width c6) rfl rfl ?_)
     obtain ⟨d7, b5, s⟩ := bn s
     have a7 := ae2 (x0 := (ix x1.Params x0.N).Width)  
     rw [b5] at a7
     refine cL a7 rfl rfl (ab rfl ay) (xT rfl rfl (xT rfl rfl (mV rfl (mV rfl (nS ?_)))))
     exact rT s rfl rfl rfl rfl rfl
   ·refine ba (dj (aq (au (sR (fL rfl (aa.g_N r0) rfl rfl (bN ct rfl rfl (mV rfl ?_)))))))
    refine bw 8 (d := 90) (v := vb ((decide (x0.N < 0)) || (decide ((x1.Program.Headers.length : Int) ≤ x0.N)))) ?_ ?_
    ·intro S Q r
     cases b2 : (decide (x0.N < 0))
     ·intro k
      have a2 := b2
      try simp only [qa] at a2
      refine ah rfl rfl (br rfl (aa.g_N r0)) (ah rfl rfl (bq rfl rfl rfl) ?_)
      obtain ⟨d2, c1, c5⟩ := aj.g_Program r1
      refine ah rfl rfl (br rfl c1) ?_
      obtain ⟨d3, c9, a5⟩ := af.g_Headers c5
      refine ah rfl rfl (br rfl c9) (ah rfl rfl (bq rfl (TR.cnt (tSl cm.t) a5) (TR.agg (tSl cm.t) a5)) (ah rfl rfl (cy rfl (co a5 Tryz.underlying22 _)) (ah rfl rfl (bp rfl rfl ja) ?_)))
      exact gK rfl rfl rfl rfl rfl k
     ·exact gN 7 rfl rfl rfl rfl rfl rfl
    refine nS ?_
    refine bt s rfl ?_ ?_ <;> clear s <;> intro c s <;> try simp only [qa] at c
    ·refine sR (mI rfl (mI rfl (nS ?_)))
     exact rT s rfl rfl rfl rfl rfl
    ·refine ba (aq (sR (mI rfl (mI rfl (nS ?_)))))
     exact rT s rfl rfl rfl rfl rfl

def RF259 (res : Int × Int) (r : PV) : Prop := r = .tup [vi res.1, vi res.2]
theorem cw0 {x0 : aa} {x1 : List Int} {v0 v1 : PV} (r0 : aa.t.R x0 v0) (r1 : (tSl tI).R x1 v1) (hl : (x1.length : Int) = fe x0.Op) (h1 : 1 ≤ x1.length) : FnR Tryz.prog 259 [v0, v1] (.tup [vi ((ie x0 x1).1), vi ((ie x0 x1).2)]) := by
 refine fnS (R := RF259) cp8 (fun _ h => h) rfl fun res s => ?_
 unfold ie at s
 refine sR (ae (cz rfl (TR.cnt aa.t r0)) (mI rfl (mI rfl (nS (au (sR (fL rfl (aa.g_Op r0) rfl rfl (nS ?_))))))))
 refine cb (sR (bN dn rfl rfl (mV rfl (nS ?_))))
 refine bt s rfl ?_ ?_ <;> clear s <;> intro c s <;> try simp only [qa] at c
 ·refine sR (mV rfl (ae (bh rfl rfl (slI (i := 0) r1 (by omega) (by omega))) (lR rfl rfl rfl (mV rfl (mI rfl (nS ?_))))))
  exact rT s rfl rfl rfl rfl rfl
 ·refine au (sR (bN dn rfl rfl (mV rfl (nS ?_))))
  obtain ⟨b7, b6, s⟩ := bn s
  refine pp (F := fun b S Q => ∀ (a0 : Bool) (b3 : a0 = (if (decide (x0.Op = 6)) = true then (decide (x0.Op = 6)) else (decide (x0.Op = 7)))), b7 a0 = res → RC Tryz.prog b S Q [(13, vb a0), (7, vi x0.Op), (2, .fp v0), (1, v1)] ⟨0, []⟩) ?_ ?_
  ·intro a0 b3  s
   rw [← b6] at s
   refine bt s rfl ?_ ?_ <;> clear s <;> intro c s <;> try simp only [qa] at c
   ·refine au (sR (fL rfl (aa.g_N r0) rfl rfl (bN ct rfl rfl (mV rfl ?_))))
    refine bw 4 (d := 23) (v := vb ((decide (x0.N < 0)) || (decide (31 < x0.N)))) ?_ ?_
    ·intro S Q r
     cases a8 : (decide (x0.N < 0))
     ·intro k
      have a5 := a8
      try simp only [qa] at a5
      refine ah rfl rfl (br rfl (aa.g_N r0)) (ah rfl rfl (bq rfl rfl rfl) (ah rfl rfl (bp rfl rfl ki) ?_))
      exact gK rfl rfl rfl rfl rfl k
     ·exact gN 3 rfl rfl rfl rfl rfl rfl
    refine nS ?_
    refine bt s rfl ?_ ?_ <;> clear s <;> intro c s <;> try simp only [qa] at c
    ·refine sR (mI rfl (mI rfl (nS ?_)))
     exact rT s rfl rfl rfl rfl rfl
    ·refine ba (aq (sR (mV rfl (ae (bh rfl rfl (slI (i := 0) r1 (by omega) (by omega))) (lR rfl rfl rfl (mV rfl (mI rfl (nS ?_))))))))
     exact rT s rfl rfl rfl rfl rfl
   ·refine sR (bN dn rfl rfl (mV rfl (nS ?_)))
    refine bt s rfl ?_ ?_ <;> clear s <;> intro c s <;> try simp only [qa] at c
    ·refine au (cb (sR (fL rfl (aa.g_N r0) rfl rfl (bN ct rfl rfl (mV rfl (nS ?_))))))
     refine bt s rfl ?_ ?_ <;> clear s <;> intro c s <;> try simp only [qa] at c
     ·refine sR (mI rfl (mI rfl (nS ?_)))
      exact rT s rfl rfl rfl rfl rfl
     ·refine sR (fL rfl (aa.g_W r0) rfl rfl (bN ct rfl rfl (mV rfl ?_)))
      refine bw 4 (d := 41) (v := vb ((decide (x0.W < 1)) || (decide (32 < x0.W)))) ?_ ?_
      ·intro S Q r
       cases b4 : (decide (x0.W < 1))
       ·intro k
        have a7 := b4
        try simp only [qa] at a7
        refine ah rfl rfl (br rfl (aa.g_W r0)) (ah rfl rfl (bq rfl rfl rfl) (ah rfl rfl (bp rfl rfl ki) ?_))
        exact gK rfl rfl rfl rfl rfl k
       ·exact gN 3 rfl rfl rfl rfl rfl rfl
      refine mV rfl ?_
      refine bw 10 (d := 52) (v := vb (((decide (x0.W < 1)) || (decide (32 < x0.W))) || (decide ((wr ((ix x1 0) - x0.W)) < x0.N)))) ?_ ?_
      ·intro S Q r
       cases b1 : ((decide (x0.W < 1)) || (decide (32 < x0.W)))
       ·intro k
        have a2 := b1
        try simp only [qa] at a2
        refine ah rfl rfl (br rfl (aa.g_N r0)) (ah rfl rfl (bq rfl rfl rfl) (ah rfl rfl (ax rfl) (ah rfl rfl (bh rfl rfl (slI (i := 0) r1 (by omega) (by omega))) (ah rfl rfl (bq rfl rfl rfl) (ah rfl rfl (br rfl (aa.g_W r0)) (ah rfl rfl (bq rfl rfl rfl) (ah rfl rfl (bp rfl rfl au3) (ah rfl rfl (bp rfl rfl ki) ?_))))))))
        exact gK rfl rfl rfl rfl rfl k
       ·exact gN 9 rfl rfl rfl rfl rfl rfl
      refine mV rfl (nS ?_)
      refine bt s rfl ?_ ?_ <;> clear s <;> intro c s <;> try simp only [qa] at c
      ·refine sR (mI rfl (mI rfl (nS ?_)))
       exact rT s rfl rfl rfl rfl rfl
      ·refine ba (dj (aq (sR (fL rfl (aa.g_W r0) rfl rfl (mV rfl (mI rfl (nS ?_)))))))
       exact rT s rfl rfl rfl rfl rfl
    ·refine sR (bN dn rfl rfl (mV rfl (nS ?_)))
     refine bt s rfl ?_ ?_ <;> clear s <;> intro c s <;> try simp only [qa] at c
     ·refine sR (mV rfl (ae (bh rfl rfl (slI (i := 0) r1 (by omega) (by omega))) (lR rfl rfl rfl (mV rfl (ae (bh rfl rfl (slI (i := 1) r1 (by omega) (by ((have hk := opl hl; omega))))) (lR rfl rfl rfl (bN fy rfl rfl ?_)))))))
      obtain ⟨b8, a9, s⟩ := bn s
      have b0 := ae2 (x0 := (wr ((ix x1 0) + (ix x1 1))))  
      rw [a9] at b0
      refine cL b0 rfl rfl (ab rfl ay) (xT rfl rfl (xT rfl rfl (mV rfl (mV rfl (nS ?_)))))
      exact rT s rfl rfl rfl rfl rfl
     ·refine sR (bN dn rfl rfl (mV rfl (nS ?_)))
      refine bt s rfl ?_ ?_ <;> clear s <;> intro c s <;> try simp only [qa] at c
      ·refine au (sR (mV rfl (ae (bh rfl rfl (slI (i := 0) r1 (by omega) (by omega))) (lR rfl rfl rfl (bN kg rfl rfl (mV rfl ?_))))))
       refine bw 8 (d := 81) (v := vb ((!decide ((ix x1 0) = 1)) || (!decide ((ix x1 1) = (ix x1 2))))) ?_ ?_
       ·intro S Q r
        cases b2 : (!decide ((ix x1 0) = 1))
        ·intro k
         have a3 := b2
         try simp only [qa] at a3
         refine ah rfl rfl (ax rfl) (ah rfl rfl (bh rfl rfl (slI (i := 1) r1 (by omega) (by ((have hk := opl hl; omega))))) (ah rfl rfl (bq rfl rfl rfl) (ah rfl rfl (ax rfl) (ah rfl rfl (bh rfl rfl (slI (i := 2) r1 (by omega) (by ((have hk := opl hl; omega))))) (ah rfl rfl (bq rfl rfl rfl) (ah rfl rfl (bp rfl rfl kg) ?_))))))
         exact gK rfl rfl rfl rfl rfl k
        ·exact gN 7 rfl rfl rfl rfl rfl rfl
       refine nS ?_
       refine bt s rfl ?_ ?_ <;> clear s <;> intro c s <;> try simp only [qa] at c
       ·refine sR (mI rfl (mI rfl (nS ?_)))
        exact rT s rfl rfl rfl rfl rfl
       ·refine ba (aq (sR (mV rfl (ae (bh rfl rfl (slI (i := 1) r1 (by omega) (by ((have hk := opl hl; omega))))) (lR rfl rfl rfl (mV rfl (mI rfl (nS ?_))))))))
        exact rT s rfl rfl rfl rfl rfl
      ·refine ba (dj (aq (au (cb (sR (mV rfl (ae (bh rfl rfl (slI (i := 0) r1 (by omega) (by omega))) (lR rfl rfl rfl ?_))))))))
       refine mV rfl (ae (bh rfl rfl (slI (i := 1) r1 (by omega) (by ((have hk := opl hl; have hj := jor (by assumption) (by assumption); omega))))) (lR rfl rfl rfl (bN kg rfl rfl (mV rfl (nS ?_)))))
       refine bt s rfl ?_ ?_ <;> clear s <;> intro c s <;> try simp only [qa] at c
       ·refine sR (mI rfl (mI rfl (nS ?_)))
        exact rT s rfl rfl rfl rfl rfl
       ·refine sR (fL rfl (aa.g_Op r0) rfl rfl (bN dn rfl rfl (mV rfl ?_)))
        refine bw 4 (d := 101) (v := vb ((decide (x0.Op = 15)) || (decide (x0.Op = 16)))) ?_ ?_
        ·intro S Q r
         cases b5 : (decide (x0.Op = 15))
         ·intro k
          have a4 := b5
          try simp only [qa] at a4
          refine ah rfl rfl (br rfl (aa.g_Op r0)) (ah rfl rfl (bq rfl rfl rfl) (ah rfl rfl (bp rfl rfl dn) ?_))
          exact gK rfl rfl rfl rfl rfl k
         ·exact gN 3 rfl rfl rfl rfl rfl rfl
        refine mV rfl (nS ?_)
        refine bt s rfl ?_ ?_ <;> clear s <;> intro c s <;> try simp only [qa] at c
        ·refine sR (mI rfl (mI rfl (nS ?_)))
         exact rT s rfl rfl rfl rfl rfl
        ·refine ba (dj (aq (sR (mV rfl (ae (bh rfl rfl (slI (i := 0) r1 (by omega) (by omega))) (lR rfl rfl rfl (mV rfl (mI rfl ?_))))))))
         refine nS ?_
         exact rT s rfl rfl rfl rfl rfl
  ·intro J
   refine bt s rfl ?_ ?_ <;> clear s <;> intro a1 s <;> have a6 := a1 <;> try simp only [qa] at a6
   ·refine ba ?_
    refine aq (wC (J _ (db1 a1).symm  s) rfl)
   ·refine bb (bN dn rfl rfl (mV rfl (cf ?_)))
    refine aq (wC (J _ (db7 a1).symm  s) rfl)

end Go.Proofs.YtmonnlkagniolaaGreat
