/-
 The code of each function does what its plain program says.
-/
import Derived.Test.YthdnpgpnodgicaaGreatL6W0
set_option linter.unusedVariables false
set_option linter.unusedSimpArgs false
set_option maxRecDepth 100000
namespace Go.Proofs.YthdnpgpnodgicaaGreat
open Go Go.Pb Go.RowKit
def RF10 (res : Bool) (r : PV) : Prop := r = vb res
theorem yg {S : List Fr} {res : Bool} {x0 : co} {a7 : Bool} {v0 : PV} (r0 : co.t.R x0 v0) (c6 : ou x0.Program = a7) (a5 : ((a7 || (decide (30 < (x0.Rows.length : Int)))) || (decide (20 < (x0.Key.length : Int)))) = false) {K0 : Unit → Bool}
  (d0 : K0 () = res → PX Tryz.prog 0 S (QR Tryz.prog [(2, none)] (RF10 res)) [] ⟨0, []⟩) :
  ∀ {m : Nat} {a0 : Int} (c5 : m = Int.toNat ((x0.Rows.length : Int) - a0)) (a8 : 0 ≤ a0), ke x0 K0 m a0 = res → RC Tryz.prog (.loop de2) S (QR Tryz.prog [(2, none)] (RF10 res)) [(3, vi a0), (1, .fp v0)] ⟨0, []⟩ := by
 have a4 := a5
 try simp only [qa] at a4
 intro m
 induction m with
 | zero =>
  intro a0 c5 a8 hres
  rw [ke] at hres
  refine bp (af (sR (mV rfl (gL (co.g_Rows r0) rfl rfl rfl fun d4 c1 => (ae (cg rfl (bq c1 Tryz.underlying32 _)) (bN cj rfl rfl (nS ?_)))))))
  refine bf rfl ?_ ?_ <;> intro c <;> try simp only [qa] at c
  ·omega
  refine db (dn (cq ?_))
  exact wP (d0  hres) rfl
 | succ m ih =>
  intro a0 c5 a8 hres
  rw [ke] at hres
  refine bp (af (sR (mV rfl (gL (co.g_Rows r0) rfl rfl rfl fun d6 a6 => (ae (cg rfl (bq a6 Tryz.underlying32 _)) (bN cj rfl rfl (nS ?_)))))))
  refine bf rfl ?_ ?_ <;> intro c <;> try simp only [qa] at c
  rotate_left
  ·omega
  refine ax (ai (af (bc (sR (gL (co.g_Rows r0) rfl rfl rfl fun c7 c4 => (mV rfl ?_))))))
  obtain ⟨d7, b6, b1⟩ := ct (i := a0) c4 (by omega) (by omega)
  refine ae (bg rfl rfl b6) ?_
  obtain ⟨d2, b3, c2⟩ := av.g_Entry b1
  refine fA rfl b3 (gL (au.g_Keys c2) rfl rfl rfl fun d3 b2 => (ae (cg rfl (bq b2 Tryz.underlying38 _)) (bN gh rfl rfl (mV rfl ?_))))
  refine bw 11 (d := 46) (v := vb ((decide (20 < ((((ix x0.Rows a0).Entry).Keys).length : Int))) || (decide (20 < (((((ix x0.Rows a0).Entry).Call).Args).length : Int))))) ?_ ?_
  ·intro S Q r
   cases a9 : (decide (20 < ((((ix x0.Rows a0).Entry).Keys).length : Int)))
   ·intro k
    have a1 := a9
    try simp only [qa] at a1
    obtain ⟨d5, b0, a3⟩ := co.g_Rows r0
    refine ak rfl rfl (bz rfl b0) (ak rfl rfl (br rfl (TR.cnt (tSl av.t) a3) (TR.agg (tSl av.t) a3)) (ak rfl rfl (aq rfl) ?_))
    obtain ⟨d8, c0, b9⟩ := ct (i := a0) a3 (by omega) (by omega)
    refine ak rfl rfl (bg rfl rfl c0) ?_
    obtain ⟨c9, b7, b5⟩ := av.g_Entry b9
    refine ak rfl rfl (bz rfl b7) ?_
    obtain ⟨d1, b8, c3⟩ := au.g_Call b5
    refine ak rfl rfl (bz rfl b8) ?_
    obtain ⟨c8, b4, a2⟩ := bh.g_Args c3
    refine ak rfl rfl (bz rfl b4) (ak rfl rfl (br rfl (TR.cnt (tSl ru) a2) (TR.agg (tSl ru) a2)) (ak rfl rfl (cg rfl (bq a2 Tryz.underlying33 _)) (ak rfl rfl (ay rfl rfl gh) ?_)))
    exact gK rfl rfl rfl rfl rfl k
   ·exact gN 10 rfl rfl rfl rfl rfl rfl
  refine nS ?_
  refine cv hres rfl ?_ ?_ <;> clear hres <;> intro c hres <;> try simp only [qa] at c
  ·refine sR (mB rfl (nS ?_))
   exact rR hres rfl rfl rfl
  ·refine ax (da (ai (ah (mV rfl (bN dp rfl rfl (mV rfl (aw (cf ?_))))))))
   have hbd := df a6
   have hinc : wr (a0 + 1) = a0 + 1 := dg (by omega) (by omega)
   erw [hinc]
   exact wC (ih   (by omega) (by omega) hres) rfl

theorem eb6 {x0 : co} {v0 : PV} (r0 : co.t.R x0 v0) : FnR Tryz.prog 10 [v0] (vb (kb x0)) := by
 refine fnS (R := RF10) dv5 (fun _ h => h) rfl fun res hres => ?_
 unfold kb at hres
 refine sR (ae (di rfl (TR.cnt co.t r0)) (mB rfl (nS (af (sR ?_)))))
 obtain ⟨b5, b2, a3⟩ := co.g_Program r0
 refine fA rfl b2 (lD a3 rfl rfl rfl ?_)
 obtain ⟨a0, a2, hres⟩ := cw hres
 have a9 := ds9  a3 
 rw [a2] at a9
 refine cL a9 rfl rfl (aj (TR.clo ab.t a3) bb) (mV rfl ?_)
 refine bw 5 (d := 12) (v := vb (a0 || (decide (30 < (x0.Rows.length : Int))))) ?_ ?_
 ·intro S Q r
  cases b0 : a0
  ·intro k
   have a7 := b0
   try simp only [qa] at a7
   obtain ⟨b6, b4, a5⟩ := co.g_Rows r0
   refine ak rfl rfl (bz rfl b4) (ak rfl rfl (br rfl (TR.cnt (tSl av.t) a5) (TR.agg (tSl av.t) a5)) (ak rfl rfl (cg rfl (bq a5 Tryz.underlying32 _)) (ak rfl rfl (ay rfl rfl gh) ?_)))
   exact gK rfl rfl rfl rfl rfl k
  ·exact gN 4 rfl rfl rfl rfl rfl rfl
 refine mV rfl ?_
 refine bw 5 (d := 18) (v := vb ((a0 || (decide (30 < (x0.Rows.length : Int)))) || (decide (20 < (x0.Key.length : Int))))) ?_ ?_
 ·intro S Q r
  cases b1 : (a0 || (decide (30 < (x0.Rows.length : Int))))
  ·intro k
   have a6 := b1
   try simp only [qa] at a6
   obtain ⟨b7, b3, a4⟩ := co.g_Key r0
   refine ak rfl rfl (bz rfl b3) (ak rfl rfl (br rfl (TR.cnt (tSl ru) a4) (TR.agg (tSl ru) a4)) (ak rfl rfl (cg rfl (bq a4 Tryz.underlying33 _)) (ak rfl rfl (ay rfl rfl gh) ?_)))
   exact gK rfl rfl rfl rfl rfl k
  ·exact gN 4 rfl rfl rfl rfl rfl rfl
 refine nS ?_
 refine cv hres rfl ?_ ?_ <;> clear hres <;> intro a1 hres <;> have a8 := a1 <;> try simp only [qa] at a8
 ·refine sR (mB rfl (nS ?_))
  exact rR hres rfl rfl rfl
 ·refine ax (ai (af (sR (mI rfl (nS (bc ?_))))))
  refine wC (yg r0 a2 a1 ?_  rfl (by omega) hres) rfl
  ·intro  hres
   refine dv (ai (sR (mB rfl (nS ?_))))
   exact rR hres rfl rfl rfl

theorem cf7 : FnR Tryz.prog 11 [] (vb pm) := ei3

def RF118 (res : Bool) (r : PV) : Prop := r = vb res
theorem bq3 {x0 : UInt8} : FnR Tryz.prog 118 [vu8 x0] (vb (nt x0)) := by
 refine fnS (R := RF118) cs4 (fun _ h => h) rfl fun res hres => ?_
 unfold nt at hres
 refine sR (mB rfl (nR (mV rfl (ae (ay (a := vu8 x0) (b := vu8 (97 : UInt8)) rfl rfl ap2) (mV rfl ?_)))))
 refine bw 3 (d := 8) (v := vb ((decide ((97 : UInt8) ≤ x0)) && (decide (x0 ≤ (122 : UInt8))))) ?_ ?_
 ·intro S Q r
  cases a3 : (decide ((97 : UInt8) ≤ x0))
  ·exact gN 2 rfl rfl rfl rfl rfl rfl
  ·intro k
   have a2 := a3
   try simp only [qa] at a2
   refine ak rfl rfl (aq rfl) (ak rfl rfl (ay (a := vu8 x0) (b := vu8 (122 : UInt8)) rfl rfl aq1) ?_)
   exact gK rfl rfl rfl rfl rfl k
 refine mV rfl ?_
 refine bw 7 (d := 16) (v := vb (((decide ((97 : UInt8) ≤ x0)) && (decide (x0 ≤ (122 : UInt8)))) || ((decide ((65 : UInt8) ≤ x0)) && (decide (x0 ≤ (90 : UInt8)))))) ?_ ?_
 ·intro S Q r
  cases a5 : ((decide ((97 : UInt8) ≤ x0)) && (decide (x0 ≤ (122 : UInt8))))
  ·intro k
   have a0 := a5
   try simp only [qa] at a0
   refine ak rfl rfl (aq rfl) (ak rfl rfl (ay (a := vu8 x0) (b := vu8 (65 : UInt8)) rfl rfl ap2) (ak rfl rfl (aq rfl) ?_))
   refine bw 3 (d := 15) (v := vb ((decide ((65 : UInt8) ≤ x0)) && (decide (x0 ≤ (90 : UInt8))))) ?_ ?_
   ·intro S Q r
    cases a4 : (decide ((65 : UInt8) ≤ x0))
    ·intro k
     refine oe rfl rfl (oe rfl rfl (ak (v := vb false) rfl rfl (th rfl rfl rfl rfl) ?_))
     exact wD k rfl
    ·intro k
     have a1 := a4
     try simp only [qa] at a1
     refine ak rfl rfl (aq rfl) (ak rfl rfl (ay (a := vu8 x0) (b := vu8 (90 : UInt8)) rfl rfl aq1) (ak (v := vb (decide (x0 ≤ (90 : UInt8)))) rfl rfl (th rfl rfl rfl rfl) ?_))
     exact wD k rfl
   exact gK rfl rfl rfl rfl rfl k
  ·exact gN 6 rfl rfl rfl rfl rfl rfl
 refine mV rfl (nS ?_)
 exact rR hres rfl rfl rfl

def RF119 (res : Bool) (r : PV) : Prop := r = vb res
theorem cu2 {x0 : UInt8} : FnR Tryz.prog 119 [vu8 x0] (vb (qf x0)) := by
 refine fnS (R := RF119) cz9 (fun _ h => h) rfl fun res hres => ?_
 unfold qf at hres
 refine sR (mB rfl (nR (mV rfl (ae (ay (a := vu8 x0) (b := vu8 (48 : UInt8)) rfl rfl ap2) (mV rfl ?_)))))
 refine bw 3 (d := 8) (v := vb ((decide ((48 : UInt8) ≤ x0)) && (decide (x0 ≤ (57 : UInt8))))) ?_ ?_
 ·intro S Q r
  cases a1 : (decide ((48 : UInt8) ≤ x0))
  ·exact gN 2 rfl rfl rfl rfl rfl rfl
  ·intro k
   have a0 := a1
   try simp only [qa] at a0
   refine ak rfl rfl (aq rfl) (ak rfl rfl (ay (a := vu8 x0) (b := vu8 (57 : UInt8)) rfl rfl aq1) ?_)
   exact gK rfl rfl rfl rfl rfl k
 refine mV rfl (nS ?_)
 exact rR hres rfl rfl rfl

def RF88 (res : Bool) (r : PV) : Prop := r = vb res
theorem vh {S : List Fr} {res : Bool} {x0 : List UInt8} (a5 : (((decide (x0 = ([] : List UInt8))) || (decide (16 < (x0.length : Int)))) || (!(nt (ix x0 0)))) = false) {K0 : Unit → Bool}
  (b3 : K0 () = res → PX Tryz.prog 0 S (QR Tryz.prog [(2, none)] (RF88 res)) [] ⟨0, []⟩) :
  ∀ {m : Nat} {a0 : Int} (b2 : m = Int.toNat ((x0.length : Int) - a0)) (a8 : 0 ≤ a0), ig x0 K0 m a0 = res → RC Tryz.prog (.loop cy2) S (QR Tryz.prog [(2, none)] (RF88 res)) [(3, vi a0), (0, vs x0)] ⟨0, []⟩ := by
 have a3 := a5
 try simp only [qa] at a3
 intro m
 induction m with
 | zero =>
  intro a0 b2 a8 hres
  rw [ig] at hres
  refine bp (af (sR (mV rfl (mV rfl (ae (cg rfl (qe Tryz.underlying9)) (bN cj rfl rfl (nS ?_)))))))
  refine bf rfl ?_ ?_ <;> intro c <;> try simp only [qa] at c
  ·omega
  refine db (dn (cq ?_))
  exact wP (b3  hres) rfl
 | succ m ih =>
  intro a0 b2 a8 hres
  rw [ig] at hres
  refine bp (af (sR (mV rfl (mV rfl (ae (cg rfl (qe Tryz.underlying9)) (bN cj rfl rfl (nS ?_)))))))
  refine bf rfl ?_ ?_ <;> intro c <;> try simp only [qa] at c
  rotate_left
  ·omega
  refine ax (ai (af (bc (sR (mV rfl (mV rfl (ae (sf rfl rfl (wx Tryz.underlying9 (by omega) (by omega))) ?_)))))))
  obtain ⟨a1, a7, hres⟩ := cw hres
  have b0 := bq3 (x0 := (ix x0 a0))  
  rw [a7] at b0
  refine cL b0 rfl rfl (aj rfl bb) (ae (gu rfl) (mV rfl ?_))
  refine bw 6 (d := 34) (v := vb ((!a1) && (!(qf (ix x0 a0))))) ?_ ?_
  ·intro S Q r
   cases a6 : (!a1)
   ·exact gN 5 rfl rfl rfl rfl rfl rfl
   ·intro k
    have a2 := a6
    try simp only [qa] at a2
    refine ak rfl rfl (aq rfl) (ak rfl rfl (aq rfl) (ak rfl rfl (sf rfl rfl (wx Tryz.underlying9 (by omega) (by omega))) ?_))
    have b1 := cu2 (x0 := (ix x0 a0))  
    refine io rfl rfl (qt rfl rfl (aj rfl bb) b1) (ak rfl rfl (gu rfl) ?_)
    exact gK rfl rfl rfl rfl rfl k
  refine mV rfl ?_
  refine bw 5 (d := 40) (v := vb (((!a1) && (!(qf (ix x0 a0)))) && (!decide ((ix x0 a0) = (95 : UInt8))))) ?_ ?_
  ·intro S Q r
   cases a9 : ((!a1) && (!(qf (ix x0 a0))))
   ·exact gN 4 rfl rfl rfl rfl rfl rfl
   ·intro k
    have a4 := a9
    try simp only [qa] at a4
    refine ak rfl rfl (aq rfl) (ak rfl rfl (aq rfl) (ak rfl rfl (sf rfl rfl (wx Tryz.underlying9 (by omega) (by omega))) (ak rfl rfl (ay (a := vu8 (ix x0 a0)) (b := vu8 (95 : UInt8)) rfl rfl em3) ?_)))
    exact gK rfl rfl rfl rfl rfl k
  refine nS ?_
  refine cv hres rfl ?_ ?_ <;> clear hres <;> intro c hres <;> try simp only [qa] at c
  ·refine sR (mB rfl (nS ?_))
   exact rR hres rfl rfl rfl
  ·refine ax (da (ai (ah (mV rfl (bN dp rfl rfl (mV rfl (aw (cf ?_))))))))
   have hinc : wr (a0 + 1) = a0 + 1 := dg (by omega) (by omega)
   erw [hinc]
   exact wC (ih   (by omega) (by omega) hres) rfl

theorem eb0 {x0 : List UInt8} : FnR Tryz.prog 88 [vs x0] (vb (nd x0)) := by
 refine fnS (R := RF88) dx1 (fun _ h => h) rfl fun res hres => ?_
 unfold nd at hres
 refine sR (mB rfl (nS (af (sR (mV rfl (ae (ay (a := vs x0) (b := vs ([] : List UInt8)) rfl rfl dh0) (mV rfl ?_)))))))
 refine bw 4 (d := 10) (v := vb ((decide (x0 = ([] : List UInt8))) || (decide (16 < (x0.length : Int))))) ?_ ?_
 ·intro S Q r
  cases a5 : (decide (x0 = ([] : List UInt8)))
  ·intro k
   have a1 := a5
   try simp only [qa] at a1
   refine ak rfl rfl (aq rfl) (ak rfl rfl (cg rfl (qe Tryz.underlying9)) (ak rfl rfl (ay rfl rfl gh) ?_))
   exact gK rfl rfl rfl rfl rfl k
  ·exact gN 3 rfl rfl rfl rfl rfl rfl
 refine mV rfl ?_
 refine bw 5 (d := 16) (v := vb (((decide (x0 = ([] : List UInt8))) || (decide (16 < (x0.length : Int)))) || (!(nt (ix x0 0))))) ?_ ?_
 ·intro S Q r
  cases a4 : ((decide (x0 = ([] : List UInt8))) || (decide (16 < (x0.length : Int))))
  ·intro k
   have a3 := a4
   try simp only [qa] at a3
   refine ak rfl rfl (aq rfl) (ak rfl rfl (sf rfl rfl (wx (i := 0) Tryz.underlying9 (by omega) (by ((have hp := List.length_pos_iff.2 (And.left (by assumption : ¬x0 = [] ∧ _)); omega))))) ?_)
   have a6 := bq3 (x0 := (ix x0 0))  
   refine io rfl rfl (qt rfl rfl (aj rfl bb) a6) (ak rfl rfl (gu rfl) ?_)
   exact gK rfl rfl rfl rfl rfl k
  ·exact gN 4 rfl rfl rfl rfl rfl rfl
 refine nS ?_
 refine cv hres rfl ?_ ?_ <;> clear hres <;> intro a0 hres <;> have a2 := a0 <;> try simp only [qa] at a2
 ·refine sR (mB rfl (nS ?_))
  exact rR hres rfl rfl rfl
 ·refine ax (ai (af (sR (mI rfl (nS (bc ?_))))))
  refine wC (vh a0 ?_  rfl (by omega) hres) rfl
  ·intro  hres
   refine dv (ai (sR (mB rfl (nS ?_))))
   exact rR hres rfl rfl rfl

def RF62 (res : Int) (r : PV) : Prop := r = vi res
theorem cm1 {x0 : ab} {x1 : cp} {v0 v1 : PV} (r0 : ab.t.R x0 v0) (r1 : cp.t.R x1 v1) : FnR Tryz.prog 62 [v0, v1] (vi (iv x0 x1)) := by
 refine fnS (R := RF62) dv0 (fun _ h => h) rfl fun res hres => ?_
 unfold iv at hres
 refine sR (ae (di rfl (TR.cnt ab.t r0)) (ae (di rfl (TR.cnt cp.t r1)) (mI rfl (nR ?_))))
 obtain ⟨c8, c0, a7⟩ := ab.g_Metadata r0
 refine fA rfl c0 (lD a7 rfl rfl rfl (mV rfl (nS (af (sR (fL rfl (cp.g_Header r1) rfl rfl (bN se rfl rfl (nS ?_))))))))
 obtain ⟨b9, b2, hres⟩ := cw hres
 refine wh (F := fun b S Q => ∀ (a0 : List ck) (a2 : PV) (a1 : (tSl ck.t).R a0 a2), b9 a0 = res → RC Tryz.prog b S Q [(5, a2), (3, .fp v1)] ⟨0, []⟩) ?_ ?_
 ·intro a0 a2 a1  hres
  rw [← b2] at hres
  refine af (sR (fL rfl (cp.g_Header r1) rfl rfl (bN (cj (b := -1)) rfl rfl (mV rfl ?_))))
  refine bw 4 (d := 31) (v := vb ((decide (x1.Header < (-1))) || (decide (x1.Field < 0)))) ?_ ?_
  ·intro S Q r
   cases a9 : (decide (x1.Header < (-1)))
   ·intro k
    have a6 := a9
    try simp only [qa] at a6
    refine ak rfl rfl (bz rfl (cp.g_Field r1)) (ak rfl rfl (br rfl rfl rfl) (ak rfl rfl (ay rfl rfl cj) ?_))
    exact gK rfl rfl rfl rfl rfl k
   ·exact gN 3 rfl rfl rfl rfl rfl rfl
  refine mV rfl ?_
  refine bw 6 (d := 38) (v := vb (((decide (x1.Header < (-1))) || (decide (x1.Field < 0))) || (decide ((a0.length : Int) ≤ x1.Field)))) ?_ ?_
  ·intro S Q r
   cases b0 : ((decide (x1.Header < (-1))) || (decide (x1.Field < 0)))
   ·intro k
    have a5 := b0
    try simp only [qa] at a5
    refine ak rfl rfl (bz rfl (cp.g_Field r1)) (ak rfl rfl (br rfl rfl rfl) (ak rfl rfl (aq rfl) (ak rfl rfl (cg rfl (bq a1 Tryz.underlying23 _)) (ak rfl rfl (ay rfl rfl se) ?_))))
    exact gK rfl rfl rfl rfl rfl k
   ·exact gN 5 rfl rfl rfl rfl rfl rfl
  refine mV rfl ?_
  refine bw 8 (d := 47) (v := vb ((((decide (x1.Header < (-1))) || (decide (x1.Field < 0))) || (decide ((a0.length : Int) ≤ x1.Field))) || (decide (((ix a0 x1.Field).Width) < 1)))) ?_ ?_
  ·intro S Q r
   cases a8 : (((decide (x1.Header < (-1))) || (decide (x1.Field < 0))) || (decide ((a0.length : Int) ≤ x1.Field)))
   ·intro k
    have a4 := a8
    try simp only [qa] at a4
    refine ak rfl rfl (aq rfl) (ak rfl rfl (bz rfl (cp.g_Field r1)) (ak rfl rfl (br rfl rfl rfl) ?_))
    obtain ⟨c6, b3, c5⟩ := ct (i := x1.Field) a1 (by omega) (by omega)
    refine ak rfl rfl (bg rfl rfl b3) (ak rfl rfl (bz rfl (ck.g_Width c5)) (ak rfl rfl (br rfl rfl rfl) (ak rfl rfl (ay rfl rfl cj) ?_)))
    exact gK rfl rfl rfl rfl rfl k
   ·exact gN 7 rfl rfl rfl rfl rfl rfl
  refine mV rfl ?_
  refine bw 8 (d := 56) (v := vb (((((decide (x1.Header < (-1))) || (decide (x1.Field < 0))) || (decide ((a0.length : Int) ≤ x1.Field))) || (decide (((ix a0 x1.Field).Width) < 1))) || (decide (32 < ((ix a0 x1.Field).Width))))) ?_ ?_
  ·intro S Q r
   cases b1 : ((((decide (x1.Header < (-1))) || (decide (x1.Field < 0))) || (decide ((a0.length : Int) ≤ x1.Field))) || (decide (((ix a0 x1.Field).Width) < 1)))
   ·intro k
    have a3 := b1
    try simp only [qa] at a3
    refine ak rfl rfl (aq rfl) (ak rfl rfl (bz rfl (cp.g_Field r1)) (ak rfl rfl (br rfl rfl rfl) ?_))
    obtain ⟨d0, b4, c1⟩ := ct (i := x1.Field) a1 (by omega) (by omega)
    refine ak rfl rfl (bg rfl rfl b4) (ak rfl rfl (bz rfl (ck.g_Width c1)) (ak rfl rfl (br rfl rfl rfl) (ak rfl rfl (ay rfl rfl gh) ?_)))
    exact gK rfl rfl rfl rfl rfl k
   ·exact gN 7 rfl rfl rfl rfl rfl rfl
  refine nS ?_
  refine cv hres rfl ?_ ?_ <;> clear hres <;> intro c hres <;> try simp only [qa] at c
  ·refine sR (mI rfl (nS ?_))
   exact rR hres rfl rfl rfl
  ·refine ax (ai (sR (mV rfl (fL rfl (cp.g_Field r1) rfl rfl ?_))))
   obtain ⟨d1, c2, b6⟩ := ct (i := x1.Field) a1 (by omega) (by omega)
   refine ae (bg rfl rfl c2) (fL rfl (ck.g_Width b6) rfl rfl (mV rfl (nS ?_)))
   exact rR hres rfl rfl rfl
 ·intro J
  refine cv hres rfl ?_ ?_ <;> clear hres <;> intro c hres <;> try simp only [qa] at c
  ·refine af (sR (fL rfl (cp.g_Header r1) rfl rfl (gL (ab.g_Headers r0) rfl rfl rfl fun d3 b8 => (ae (cg rfl (bq b8 Tryz.underlying22 _)) (bN se rfl rfl (nS ?_))))))
   refine cv hres rfl ?_ ?_ <;> clear hres <;> intro c hres <;> try simp only [qa] at c
   ·refine sR (mI rfl (nS ?_))
    exact rR hres rfl rfl rfl
   ·refine ax (ai (ah (gL (ab.g_Headers r0) rfl rfl rfl fun c9 c3 => (fL rfl (cp.g_Header r1) rfl rfl ?_))))
    obtain ⟨c7, b5, b7⟩ := ct (i := x1.Header) c3 (by omega) (by omega)
    refine ae (bg rfl rfl b5) (gL (cy.g_Fields b7) rfl rfl rfl fun d2 c4 => (mV rfl (aw ?_)))
    refine ai (wC (J _ _ c4  hres) rfl)
  ·refine ax ?_
   refine ai (wC (J _ _ a7  hres) rfl)

def RF89 (res : Int × Int) (r : PV) : Prop := r = .tup [vi res.1, vi res.2]
theorem ae6 {S : List Fr} {res : Int × Int} {x0 : ab} {x1 : az} {v0 v1 : PV} (r0 : ab.t.R x0 v0) (r1 : az.t.R x1 v1) {K0 : Int → Int → (Int × Int)}
  (c1 : ∀ {a1 a4 : Int}, K0 a1 a4 = res → PX Tryz.prog 0 S (QR Tryz.prog [(4, none), (5, none)] (RF89 res)) [(6, vi a1), (7, vi a4)] ⟨0, []⟩) :
  ∀ {m : Nat} {a1 a4 a0 : Int} (b9 : m = Int.toNat ((x1.Keys.length : Int) - a0)) (a8 : 0 ≤ a0), jz x0 x1 K0 m a1 a4 a0 = res → RC Tryz.prog (.loop db1) S (QR Tryz.prog [(4, none), (5, none)] (RF89 res)) [(8, vi a0), (7, vi a4), (6, vi a1), (3, .fp v1), (2, .fp v0)] ⟨0, []⟩ := by
 intro m
 induction m with
 | zero =>
  intro a1 a4 a0 b9 a8 hres
  rw [jz] at hres
  refine bp (af (sR (mV rfl (gL (az.g_Keys r1) rfl rfl rfl fun c0 b2 => (ae (cg rfl (bq b2 Tryz.underlying85 _)) (bN cj rfl rfl (nS ?_)))))))
  refine bf rfl ?_ ?_ <;> intro c <;> try simp only [qa] at c
  ·omega
  refine db (dn (cq ?_))
  exact wP (c1  hres) rfl
 | succ m ih =>
  intro a1 a4 a0 b9 a8 hres
  rw [jz] at hres
  refine bp (af (sR (mV rfl (gL (az.g_Keys r1) rfl rfl rfl fun c4 a5 => (ae (cg rfl (bq a5 Tryz.underlying85 _)) (bN cj rfl rfl (nS ?_)))))))
  refine bf rfl ?_ ?_ <;> intro c <;> try simp only [qa] at c
  rotate_left
  ·omega
  refine ax (ai (af (bc (sR (lD r0 rfl rfl rfl (gL (az.g_Keys r1) rfl rfl rfl fun c2 b7 => (mV rfl ?_)))))))
  obtain ⟨c7, b6, b5⟩ := ct (i := a0) b7 (by omega) (by omega)
  refine ae (bg rfl rfl b6) (gL (bn.g_Field b5) rfl rfl rfl fun c3 a9 => ?_)
  obtain ⟨c8, a7, hres⟩ := cw hres
  have b1 := cm1  r0 a9 
  rw [a7] at b1
  refine cL b1 rfl rfl (aj (TR.clo ab.t r0) (aj (TR.clo cp.t a9) bb)) (mV rfl (nR (gL (az.g_Keys r1) rfl rfl rfl fun c5 b4 => (mV rfl ?_))))
  obtain ⟨c6, b8, b3⟩ := ct (i := a0) b4 (by omega) (by omega)
  refine ae (bg rfl rfl b8) (fL rfl (bn.g_Kind b3) rfl rfl (mV rfl (nS (af (bc (sR (mV rfl (bN md rfl rfl ?_))))))))
  refine mV rfl (nS ?_)
  refine cv hres rfl ?_ ?_ <;> clear hres <;> intro c hres <;> try simp only [qa] at c
  ·refine sR (mV rfl (mV rfl (mI rfl (nS ?_))))
   exact rT hres rfl rfl rfl rfl rfl
  ·refine sR (mV rfl (bN jq rfl rfl (mV rfl ?_)))
   refine bw 3 (d := 42) (v := vb ((!decide (((ix x1.Keys a0).Kind) = 1)) && (!decide (((ix x1.Keys a0).Kind) = 2)))) ?_ ?_
   ·intro S Q r
    cases a6 : (!decide (((ix x1.Keys a0).Kind) = 1))
    ·exact gN 2 rfl rfl rfl rfl rfl rfl
    ·intro k
     have a2 := a6
     try simp only [qa] at a2
     refine ak rfl rfl (aq rfl) (ak rfl rfl (ay rfl rfl jq) ?_)
     exact gK rfl rfl rfl rfl rfl k
   refine mV rfl ?_
   refine bw 3 (d := 46) (v := vb (((!decide (((ix x1.Keys a0).Kind) = 1)) && (!decide (((ix x1.Keys a0).Kind) = 2))) && (!decide (((ix x1.Keys a0).Kind) = 3)))) ?_ ?_
   ·intro S Q r
    cases b0 : ((!decide (((ix x1.Keys a0).Kind) = 1)) && (!decide (((ix x1.Keys a0).Kind) = 2)))
    ·exact gN 2 rfl rfl rfl rfl rfl rfl
    ·intro k
     have a3 := b0
     try simp only [qa] at a3
     refine ak rfl rfl (aq rfl) (ak rfl rfl (ay rfl rfl jq) ?_)
     exact gK rfl rfl rfl rfl rfl k
   refine mV rfl (nS ?_)
   refine cv hres rfl ?_ ?_ <;> clear hres <;> intro c hres <;> try simp only [qa] at c
   ·refine sR (mV rfl (mV rfl (mI rfl (nS ?_))))
    exact rT hres rfl rfl rfl rfl rfl
   ·refine sR (mV rfl (bN md rfl rfl (mV rfl (nS ?_))))
    refine cv hres rfl ?_ ?_ <;> clear hres <;> intro c hres <;> try simp only [qa] at c
    ·refine ah (mV rfl (bN dp rfl rfl (mV rfl (aw (da (ai (ah (mV rfl ?_))))))))
     refine mV rfl (bN dp rfl rfl (mV rfl (aw (da (ai (ah (mV rfl (bN dp rfl rfl ?_))))))))
     refine mV rfl (aw (cf ?_))
     have hbd := df a5
     have hinc : wr (a0 + 1) = a0 + 1 := dg (by omega) (by omega)
     erw [hinc]
     exact wC (ih   (by omega) (by omega) hres) rfl
    ·refine ax (da (ai (ah (mV rfl (mV rfl (bN dp rfl rfl (mV rfl (aw ?_))))))))
     refine da (ai (ah (mV rfl (bN dp rfl rfl (mV rfl (aw (cf ?_)))))))
     have hbd := df a5
     have hinc : wr (a0 + 1) = a0 + 1 := dg (by omega) (by omega)
     erw [hinc]
     exact wC (ih   (by omega) (by omega) hres) rfl

theorem ec3 {x0 : ab} {x1 : az} {v0 v1 : PV} (r0 : ab.t.R x0 v0) (r1 : az.t.R x1 v1) : FnR Tryz.prog 89 [v0, v1] (.tup [vi ((rn x0 x1).1), vi ((rn x0 x1).2)]) := by
 refine fnS (R := RF89) dr3 (fun _ h => h) rfl fun res hres => ?_
 unfold rn at hres
 refine sR (ae (di rfl (TR.cnt ab.t r0)) (ae (di rfl (TR.cnt az.t r1)) (mI rfl (mI rfl (nR (mI rfl (nR (mI rfl ?_))))))))
 refine nS (af (sR (mI rfl (nS (bc ?_)))))
 refine wC (ae6 r0 r1 ?_  rfl (by omega) hres) rfl
 ·intro a0 a1 hres
  refine dv (ai (af (bc (sR (mV rfl (bN gh rfl rfl (mV rfl (nS ?_))))))))
  refine cv hres rfl ?_ ?_ <;> clear hres <;> intro c hres <;> try simp only [qa] at c
  ·refine sR (mI rfl (mI rfl (nS ?_)))
   exact rT hres rfl rfl rfl rfl rfl
  ·refine sR (mV rfl (bN gh rfl rfl (mV rfl (nS ?_))))
   refine cv hres rfl ?_ ?_ <;> clear hres <;> intro c hres <;> try simp only [qa] at c
   ·refine sR (mI rfl (mI rfl (nS ?_)))
    exact rT hres rfl rfl rfl rfl rfl
   ·refine ax (da (ai (sR (mI rfl (mI rfl (nS ?_))))))
    exact rT hres rfl rfl rfl rfl rfl

def RF120 (res : Int) (r : PV) : Prop := r = vi res
theorem ab6 {S : List Fr} {res : Int} {x0 : List Int} {x1 : Int} {v0 : PV} (r0 : (tSl tI).R x0 v0) {K0 : Unit → Int}
  (a3 : K0 () = res → PX Tryz.prog 0 S (QR Tryz.prog [(4, none)] (RF120 res)) [] ⟨0, []⟩) :
  ∀ {m : Nat} {a0 : Int} (a2 : m = Int.toNat ((x0.length : Int) - a0)) (a1 : 0 ≤ a0), ir x0 x1 K0 m a0 = res → RC Tryz.prog (.loop cf8) S (QR Tryz.prog [(4, none)] (RF120 res)) [(5, vi a0), (1, vi x1), (0, v0)] ⟨0, []⟩ := by
 intro m
 induction m with
 | zero =>
  intro a0 a2 a1 hres
  rw [ir] at hres
  refine bp (af (sR (mV rfl (mV rfl (ae (cg rfl (bq r0 Tryz.underlying29 _)) (bN cj rfl rfl (nS ?_)))))))
  refine bf rfl ?_ ?_ <;> intro c <;> try simp only [qa] at c
  ·omega
  refine db (dn (cq ?_))
  exact wP (a3  hres) rfl
 | succ m ih =>
  intro a0 a2 a1 hres
  rw [ir] at hres
  refine bp (af (sR (mV rfl (mV rfl (ae (cg rfl (bq r0 Tryz.underlying29 _)) (bN cj rfl rfl (nS ?_)))))))
  refine bf rfl ?_ ?_ <;> intro c <;> try simp only [qa] at c
  rotate_left
  ·omega
  refine ax (ai (af (bc (sR (mV rfl (mV rfl (ae (bg rfl rfl (slI r0 (by omega) (by omega))) (lR rfl rfl rfl ?_))))))))
  refine mV rfl (bN md rfl rfl (nS ?_))
  refine cv hres rfl ?_ ?_ <;> clear hres <;> intro c hres <;> try simp only [qa] at c
  ·refine sR (mV rfl (mV rfl (nS ?_)))
   exact rR hres rfl rfl rfl
  ·refine ax (da (ai (ah (mV rfl (bN dp rfl rfl (mV rfl (aw (cf ?_))))))))
   have hbd := df r0
   have hinc : wr (a0 + 1) = a0 + 1 := dg (by omega) (by omega)
   erw [hinc]
   exact wC (ih   (by omega) (by omega) hres) rfl

theorem as9 {x0 : List Int} {x1 : Int} {v0 : PV} (r0 : (tSl tI).R x0 v0) : FnR Tryz.prog 120 [v0, vi x1] (vi (gn x0 x1)) := by
 refine fnS (R := RF120) da3 (fun _ h => h) rfl fun res hres => ?_
 unfold gn at hres
 refine sR (mI rfl (nS (af (sR (mI rfl (nS (bc ?_)))))))
 refine wC (ab6 r0 ?_  rfl (by omega) hres) rfl
 ·intro  hres
  refine dv (ai (sR (mI rfl (nS ?_))))
  exact rR hres rfl rfl rfl

def RF145 (res : Bool) (r : PV) : Prop := r = vb res
theorem ac4 {x0 : Int} : FnR Tryz.prog 145 [vi x0] (vb (fu x0)) := by
 refine fnS (R := RF145) cy6 (fun _ h => h) rfl fun res hres => ?_
 unfold fu at hres
 refine sR (mB rfl (nR (mV rfl (bN se rfl rfl (mV rfl ?_)))))
 refine bw 3 (d := 8) (v := vb ((decide (1 ≤ x0)) && (decide (x0 ≤ 32)))) ?_ ?_
 ·intro S Q r
  cases a1 : (decide (1 ≤ x0))
  ·exact gN 2 rfl rfl rfl rfl rfl rfl
  ·intro k
   have a0 := a1
   try simp only [qa] at a0
   refine ak rfl rfl (aq rfl) (ak rfl rfl (ay rfl rfl bb9) ?_)
   exact gK rfl rfl rfl rfl rfl k
 refine mV rfl (nS ?_)
 exact rR hres rfl rfl rfl

def RF147 (res : (BitVec 64)) (r : PV) : Prop := r = bd res
theorem aa9 {S : List Fr} {res : (BitVec 64)} {x0 : Int} (hn : x0 ≤ 64) {K0 : (BitVec 64) → (BitVec 64)}
  (a4 : ∀ {a0 : BitVec 64}, K0 a0 = res → PX Tryz.prog 0 S (QR Tryz.prog [(2, none)] (RF147 res)) [(3, bd a0)] ⟨0, []⟩) :
  ∀ {m : Nat} {a0 : BitVec 64} {a1 : Int} (a3 : m = Int.toNat (x0 - a1)) (a2 : 0 ≤ a1), qn K0 m a0 a1 = res → RC Tryz.prog (.loop ck2) S (QR Tryz.prog [(2, none)] (RF147 res)) [(4, vi a1), (3, bd a0), (0, vi x0)] ⟨0, []⟩ := by
 intro m
 induction m with
 | zero =>
  intro a0 a1 a3 a2 hres
  rw [qn] at hres
  refine bp (af (sR (mV rfl (mV rfl (bN cj rfl rfl (nS ?_))))))
  refine bf rfl ?_ ?_ <;> intro c <;> try simp only [qa] at c
  ·omega
  refine db (dn (cq ?_))
  exact wP (a4  hres) rfl
 | succ m ih =>
  intro a0 a1 a3 a2 hres
  rw [qn] at hres
  refine bp (af (sR (mV rfl (mV rfl (bN cj rfl rfl (nS ?_))))))
  refine bf rfl ?_ ?_ <;> intro c <;> try simp only [qa] at c
  rotate_left
  ·omega
  refine ax (ai (af (bc (ah (mV rfl (ae (ay (a := bd 2#64) (b := bd a0) rfl rfl cd3) (mV rfl (aw ?_))))))))
  refine da (ai (ah (mV rfl (bN dp rfl rfl (mV rfl (aw (cf ?_)))))))
  have hinc : wr (a1 + 1) = a1 + 1 := dg (by omega) (by omega)
  erw [hinc]
  exact wC (ih   (by omega) (by omega) hres) rfl

theorem ai2 {x0 : Int} (hn : x0 ≤ 64) : FnR Tryz.prog 147 [vi x0] (bd (mn x0)) := by
 refine fnS (R := RF147) ct5 (fun _ h => h) rfl fun res hres => ?_
 unfold mn at hres
 refine sR (ae (v := bd 0#64) (aq rfl) (nR (ae (v := bd 1#64) (aq rfl) (nS (af (sR (mI rfl (nS ?_))))))))
 refine bc ?_
 refine wC (aa9 hn ?_  rfl (by omega) hres) rfl
 ·intro a0 hres
  refine dv (ai (sR (mV rfl (mV rfl (nS ?_)))))
  exact rR hres rfl rfl rfl

def RF122 (res : Bool) (r : PV) : Prop := r = vb res
theorem aw9 {x0 : BitVec 32} {x1 : Int} : FnR Tryz.prog 122 [dx x0, vi x1] (vb (oq x0 x1)) := by
 refine fnS (R := RF122) cp6 (fun _ h => h) rfl fun res hres => ?_
 unfold oq at hres
 refine sR (mB rfl (nR (mV rfl ?_)))
 obtain ⟨a3, a1, hres⟩ := cw hres
 have a2 := ac4 (x0 := x1)  
 rw [a1] at a2
 refine cL a2 rfl rfl (aj rfl bb) (mV rfl ?_)
 refine bw 6 (d := 13) (v := vb (a3 && (decide ((BitVec.setWidth 64 x0) < (mn x1))))) ?_ ?_
 ·intro S Q r
  cases a4 : a3
  ·exact gN 5 rfl rfl rfl rfl rfl rfl
  ·intro k
   have a0 := a4
   try simp only [qa] at a0
   refine ak rfl rfl (aq rfl) (ak rfl rfl (qw (a := dx x0) rfl (c_wd Tryz.underlying64 Tryz.underlying97)) (ak rfl rfl (aq rfl) ?_))
   have a5 := ai2 (x0 := x1)  (by ((have := rv (by assumption) (by assumption); omega)))
   refine io rfl rfl (qt rfl rfl (aj rfl bb) a5) (ak rfl rfl (ay (a := bd (BitVec.setWidth 64 x0)) (b := bd (mn x1)) rfl rfl er3) ?_)
   exact gK rfl rfl rfl rfl rfl k
 refine mV rfl (nS ?_)
 exact rR hres rfl rfl rfl

def RF94 (res : Int) (r : PV) : Prop := r = vi res
theorem xk {S : List Fr} {res : Int} {x0 : ab} {x1 : bh} {v1 a8 : PV} (r1 : bh.t.R x1 v1) (a9 : ((decide (x1.Action < 0)) || (decide ((x0.Actions.length : Int) ≤ x1.Action))) = false) (a1 : (tSl ck.t).R ((ix x0.Actions x1.Action).Params) a8) (a6 : (!decide ((x1.Args.length : Int) = (((ix x0.Actions x1.Action).Params).length : Int))) = false) {K0 : Unit → Int}
  (b7 : K0 () = res → PX Tryz.prog 0 S (QR Tryz.prog [(4, none)] (RF94 res)) [] ⟨0, []⟩) :
  ∀ {m : Nat} {a0 : Int} (b3 : m = Int.toNat ((((ix x0.Actions x1.Action).Params).length : Int) - a0)) (a5 : 0 ≤ a0), jt x0 x1 K0 m a0 = res → RC Tryz.prog (.loop cv6) S (QR Tryz.prog [(4, none)] (RF94 res)) [(6, vi a0), (5, a8), (3, .fp v1)] ⟨0, []⟩ := by
 have a3 := a9
 try simp only [qa] at a3
 have a2 := a6
 try simp only [qa] at a2
 intro m
 induction m with
 | zero =>
  intro a0 b3 a5 hres
  rw [jt] at hres
  refine bp (af (sR (mV rfl (mV rfl (ae (cg rfl (bq a1 Tryz.underlying23 _)) (bN cj rfl rfl (nS ?_)))))))
  refine bf rfl ?_ ?_ <;> intro c <;> try simp only [qa] at c
  ·omega
  refine db (dn (cq ?_))
  exact wP (b7  hres) rfl
 | succ m ih =>
  intro a0 b3 a5 hres
  rw [jt] at hres
  refine bp (af (sR (mV rfl (mV rfl (ae (cg rfl (bq a1 Tryz.underlying23 _)) (bN cj rfl rfl (nS ?_)))))))
  refine bf rfl ?_ ?_ <;> intro c <;> try simp only [qa] at c
  rotate_left
  ·omega
  refine ax (ai (af (bc (sR (gL (bh.g_Args r1) rfl rfl rfl fun b6 b1 => (mV rfl (ae (bg rfl rfl (dl9 b1 (by omega) (by omega))) (lR rfl rfl rfl ?_))))))))
  refine mV rfl (mV rfl ?_)
  obtain ⟨b4, b0, b2⟩ := ct (i := a0) a1 (by omega) (by omega)
  refine ae (bg rfl rfl b0) (fL rfl (ck.g_Width b2) rfl rfl ?_)
  obtain ⟨b5, a7, hres⟩ := cw hres
  have a4 := aw9 (x0 := (ix x1.Args a0)) (x1 := (ix ((ix x0.Actions x1.Action).Params) a0).Width)  
  rw [a7] at a4
  refine cL a4 rfl rfl (aj rfl (aj rfl bb)) (ae (gu rfl) (nS ?_))
  refine cv hres rfl ?_ ?_ <;> clear hres <;> intro c hres <;> try simp only [qa] at c
  ·refine sR (mI rfl (nS ?_))
   exact rR hres rfl rfl rfl
  ·refine ax (da (ai (ah (mV rfl (bN dp rfl rfl (mV rfl (aw (cf ?_))))))))
   have hbd := df a1
   have hinc : wr (a0 + 1) = a0 + 1 := dg (by omega) (by omega)
   erw [hinc]
   exact wC (ih   (by omega) (by omega) hres) rfl

theorem ce7 {x0 : ab} {x1 : bh} {v0 v1 : PV} (r0 : ab.t.R x0 v0) (r1 : bh.t.R x1 v1) : FnR Tryz.prog 94 [v0, v1] (vi (nm x0 x1)) := by
 refine fnS (R := RF94) ec2 (fun _ h => h) rfl fun res hres => ?_
 unfold nm at hres
 refine sR (ae (di rfl (TR.cnt ab.t r0)) (ae (di rfl (TR.cnt bh.t r1)) (mI rfl (nS (af (sR (fL rfl (bh.g_Action r1) rfl rfl (bN cj rfl rfl ?_))))))))
 refine mV rfl ?_
 refine bw 7 (d := 17) (v := vb ((decide (x1.Action < 0)) || (decide ((x0.Actions.length : Int) ≤ x1.Action)))) ?_ ?_
 ·intro S Q r
  cases a7 : (decide (x1.Action < 0))
  ·intro k
   have a4 := a7
   try simp only [qa] at a4
   refine ak rfl rfl (bz rfl (bh.g_Action r1)) (ak rfl rfl (br rfl rfl rfl) ?_)
   obtain ⟨b3, b2, a2⟩ := ab.g_Actions r0
   refine ak rfl rfl (bz rfl b2) (ak rfl rfl (br rfl (TR.cnt (tSl dc.t) a2) (TR.agg (tSl dc.t) a2)) (ak rfl rfl (cg rfl (bq a2 Tryz.underlying25 _)) (ak rfl rfl (ay rfl rfl se) ?_)))
   exact gK rfl rfl rfl rfl rfl k
  ·exact gN 6 rfl rfl rfl rfl rfl rfl
 refine nS ?_
 refine cv hres rfl ?_ ?_ <;> clear hres <;> intro a1 hres <;> have a5 := a1 <;> try simp only [qa] at a5
 ·refine sR (mI rfl (nS ?_))
  exact rR hres rfl rfl rfl
 ·refine ax (ai (sR (gL (ab.g_Actions r0) rfl rfl rfl fun b6 a9 => (fL rfl (bh.g_Action r1) rfl rfl ?_))))
  obtain ⟨b4, b0, b1⟩ := ct (i := x1.Action) a9 (by omega) (by omega)
  refine ae (bg rfl rfl b0) (gL (dc.g_Params b1) rfl rfl rfl fun b7 a6 => (mV rfl (nS (af (sR (gL (bh.g_Args r1) rfl rfl rfl fun b5 a8 => (ae (cg rfl (bq a8 Tryz.underlying33 _)) (mV rfl ?_))))))))
  refine ae (cg rfl (bq a6 Tryz.underlying23 _)) (bN jq rfl rfl (nS ?_))
  refine cv hres rfl ?_ ?_ <;> clear hres <;> intro a0 hres <;> have a3 := a0 <;> try simp only [qa] at a3
  ·refine sR (mI rfl (nS ?_))
   exact rR hres rfl rfl rfl
  ·refine ax (ai (af (sR (mI rfl (nS (bc ?_))))))
   refine wC (xk r1 a1 a6 a0 ?_  rfl (by omega) hres) rfl
   ·intro  hres
    refine dv (ai (sR (mI rfl (nS ?_))))
    exact rR hres rfl rfl rfl

end Go.Proofs.YthdnpgpnodgicaaGreat
