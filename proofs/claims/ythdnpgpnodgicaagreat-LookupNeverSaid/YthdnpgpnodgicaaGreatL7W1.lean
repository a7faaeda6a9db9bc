/-
 The code of each function does what its plain program says.
-/
import Derived.Test.YthdnpgpnodgicaaGreatL7W0
set_option linter.all false
set_option maxRecDepth 100000
namespace Go.Proofs.YthdnpgpnodgicaaGreat
open Go Go.Pb Go.RowKit
def RF10 (res : Bool) (r : PV) : Prop := r = vb res
theorem yq {S : List Fr} {res : Bool} {x0 : bm} {a8 : Bool} {v0 : PV} (r0 : bm.t.R x0 v0) (c7 : nz x0.Program = a8) (a6 : ((a8 || (decide (30 < (x0.Rows.length : Int)))) || (decide (20 < (x0.Key.length : Int)))) = false) {K0 : Unit → Bool}
  (d5 : K0 () = res → PX Tryz.prog 0 S (QR Tryz.prog [(2, none)] (RF10 res)) [] ⟨0, []⟩) :
  ∀ {m : Nat} {a0 : Int} (c6 : m = Int.toNat ((x0.Rows.length : Int) - a0)) (a9 : 0 ≤ a0), ke x0 K0 m a0 = res → RC Tryz.prog (.loop cx7) S (QR Tryz.prog [(2, none)] (RF10 res)) [(3, vi a0), (1, .fp v0)] ⟨0, []⟩ := by
 have a1 := a6
 try simp only [qa] at a1
 intro m
 induction m with
 | zero =>
  intro a0 c6 a9 hres
  rw [ke] at hres
  refine bt (ah (sR (mV rfl (gL (bm.g_Rows r0) rfl rfl rfl fun c9 b5 => (ab (cw rfl (cf b5 Tryz.underlying32 _)) (bN cy rfl rfl (nS ?_)))))))
  refine bc rfl ?_ ?_ <;> intro c <;> try simp only [qa] at c
  ·omega
  refine dm (fb (df ?_))
  exact wP (d5  hres) rfl
 | succ m ih =>
  intro a0 c6 a9 hres
  rw [ke] at hres
  refine bt (ah (sR (mV rfl (gL (bm.g_Rows r0) rfl rfl rfl fun d1 a5 => (ab (cw rfl (cf a5 Tryz.underlying32 _)) (bN cy rfl rfl (nS ?_)))))))
  refine bc rfl ?_ ?_ <;> intro c <;> try simp only [qa] at c
  rotate_left
  ·omega
  refine ay (ai (ah (bd (sR (gL (bm.g_Rows r0) rfl rfl rfl fun d0 c0 => (mV rfl ?_))))))
  obtain ⟨d3, c5, c3⟩ := dl (i := a0) c0 (by first | omega | (have hk := bn (by assumption) (by assumption); omega) | (have hk := tck (by assumption) (by assumption); omega) | (have hk := rtck (by assumption) (by assumption); omega) | (have hk := eck (by assumption) (by assumption) (by assumption); omega) | (have hk := tv (by assumption) (by assumption); omega) | (have hk := rtv (by assumption) (by assumption); omega)) (by first | omega | (have hk := bn (by assumption) (by assumption); omega) | (have hk := tck (by assumption) (by assumption); omega) | (have hk := rtck (by assumption) (by assumption); omega) | (have hk := eck (by assumption) (by assumption) (by assumption); omega) | (have hk := tv (by assumption) (by assumption); omega) | (have hk := rtv (by assumption) (by assumption); omega))
  refine ab (bq rfl rfl c5) ?_
  obtain ⟨d2, b8, b7⟩ := ak.g_Entry c3
  refine fA rfl b8 (gL (av.g_Keys b7) rfl rfl rfl fun d9 b3 => (ab (cw rfl (cf b3 Tryz.underlying38 _)) (bN ij rfl rfl (mV rfl ?_))))
  refine cn 11 (d := 46) (v := vb ((decide (20 < ((((ix x0.Rows a0).Entry).Keys).length : Int))) || (decide (20 < (((((ix x0.Rows a0).Entry).Call).Args).length : Int))))) ?_ ?_
  ·intro S Q r
   cases a7 : (decide (20 < ((((ix x0.Rows a0).Entry).Keys).length : Int)))
   ·intro k
    have a2 := a7
    try simp only [qa] at a2
    obtain ⟨d4, b2, a4⟩ := bm.g_Rows r0
    refine am rfl rfl (bz rfl b2) (am rfl rfl (br rfl (TR.cnt (tSl ak.t) a4) (TR.agg (tSl ak.t) a4)) (am rfl rfl (au rfl) ?_))
    obtain ⟨d6, b9, b4⟩ := dl (i := a0) a4 (by first | omega | (have hk := bn (by assumption) (by assumption); omega) | (have hk := tck (by assumption) (by assumption); omega) | (have hk := rtck (by assumption) (by assumption); omega) | (have hk := eck (by assumption) (by assumption) (by assumption); omega) | (have hk := tv (by assumption) (by assumption); omega) | (have hk := rtv (by assumption) (by assumption); omega)) (by first | omega | (have hk := bn (by assumption) (by assumption); omega) | (have hk := tck (by assumption) (by assumption); omega) | (have hk := rtck (by assumption) (by assumption); omega) | (have hk := eck (by assumption) (by assumption) (by assumption); omega) | (have hk := tv (by assumption) (by assumption); omega) | (have hk := rtv (by assumption) (by assumption); omega))
    refine am rfl rfl (bq rfl rfl b9) ?_
    obtain ⟨c8, b0, c1⟩ := ak.g_Entry b4
    refine am rfl rfl (bz rfl b0) ?_
    obtain ⟨d8, c4, b6⟩ := av.g_Call c1
    refine am rfl rfl (bz rfl c4) ?_
    obtain ⟨d7, b1, a3⟩ := ax.g_Args b6
    refine am rfl rfl (bz rfl b1) (am rfl rfl (br rfl (TR.cnt (tSl lr) a3) (TR.agg (tSl lr) a3)) (am rfl rfl (cw rfl (cf a3 Tryz.underlying33 _)) (am rfl rfl (ba rfl rfl ij) ?_)))
    exact gK rfl rfl rfl rfl rfl k
   ·exact gN 10 rfl rfl rfl rfl rfl rfl
  refine nS ?_
  refine di hres rfl ?_ ?_ <;> clear hres <;> intro c hres <;> try simp only [qa] at c
  ·refine sR (mB rfl (nS ?_))
   exact rR hres rfl rfl rfl
  ·refine ay (dj (ai (af (mV rfl (bN ep rfl rfl (mV rfl (aw (cx ?_))))))))
   have hbd := dv a5
   have hinc : wr (a0 + 1) = a0 + 1 := du (by omega) (by omega)
   erw [hinc]
   exact wC (ih   (by omega) (by omega) hres) rfl

theorem dj2 {x0 : bm} {v0 : PV} (r0 : bm.t.R x0 v0) : FnR Tryz.prog 10 [v0] (vb (im x0)) := by
 refine fnS (R := RF10) dp6 (fun _ h => h) rfl fun res hres => ?_
 unfold im at hres
 refine sR (ab (dt rfl (TR.cnt bm.t r0)) (mB rfl (nS (ah (sR ?_)))))
 obtain ⟨b5, b4, a8⟩ := bm.g_Program r0
 refine fA rfl b4 (lD a8 rfl rfl rfl ?_)
 obtain ⟨a0, a2, hres⟩ := dq hres
 have a9 := dq4  a8 
 rw [a2] at a9
 refine cL a9 rfl rfl (aq (TR.clo aa.t a8) bg) (mV rfl ?_)
 refine cn 5 (d := 12) (v := vb (a0 || (decide (30 < (x0.Rows.length : Int))))) ?_ ?_
 ·intro S Q r
  cases b1 : a0
  ·intro k
   have a3 := b1
   try simp only [qa] at a3
   obtain ⟨b7, b2, a7⟩ := bm.g_Rows r0
   refine am rfl rfl (bz rfl b2) (am rfl rfl (br rfl (TR.cnt (tSl ak.t) a7) (TR.agg (tSl ak.t) a7)) (am rfl rfl (cw rfl (cf a7 Tryz.underlying32 _)) (am rfl rfl (ba rfl rfl ij) ?_)))
   exact gK rfl rfl rfl rfl rfl k
  ·exact gN 4 rfl rfl rfl rfl rfl rfl
 refine mV rfl ?_
 refine cn 5 (d := 18) (v := vb ((a0 || (decide (30 < (x0.Rows.length : Int)))) || (decide (20 < (x0.Key.length : Int))))) ?_ ?_
 ·intro S Q r
  cases b0 : (a0 || (decide (30 < (x0.Rows.length : Int))))
  ·intro k
   have a5 := b0
   try simp only [qa] at a5
   obtain ⟨b6, b3, a6⟩ := bm.g_Key r0
   refine am rfl rfl (bz rfl b3) (am rfl rfl (br rfl (TR.cnt (tSl lr) a6) (TR.agg (tSl lr) a6)) (am rfl rfl (cw rfl (cf a6 Tryz.underlying33 _)) (am rfl rfl (ba rfl rfl ij) ?_)))
   exact gK rfl rfl rfl rfl rfl k
  ·exact gN 4 rfl rfl rfl rfl rfl rfl
 refine nS ?_
 refine di hres rfl ?_ ?_ <;> clear hres <;> intro a1 hres <;> have a4 := a1 <;> try simp only [qa] at a4
 ·refine sR (mB rfl (nS ?_))
  exact rR hres rfl rfl rfl
 ·refine ay (ai (ah (sR (mI rfl (nS (bd ?_))))))
  refine wC (yq r0 a2 a1 ?_  rfl (by omega) hres) rfl
  ·intro  hres
   refine fe (ai (sR (mB rfl (nS ?_))))
   exact rR hres rfl rfl rfl

theorem bd9 : FnR Tryz.prog 11 [] (vb lb) := eb9

def RF118 (res : Bool) (r : PV) : Prop := r = vb res
theorem bj5 {x0 : UInt8} : FnR Tryz.prog 118 [vu8 x0] (vb (nd x0)) := by
 refine fnS (R := RF118) cq3 (fun _ h => h) rfl fun res hres => ?_
 unfold nd at hres
 refine sR (mB rfl (nR (mV rfl (ab (ba (a := vu8 x0) (b := vu8 (97 : UInt8)) rfl rfl aq5) (mV rfl ?_)))))
 refine cn 3 (d := 8) (v := vb ((decide ((97 : UInt8) ≤ x0)) && (decide (x0 ≤ (122 : UInt8))))) ?_ ?_
 ·intro S Q r
  cases a5 : (decide ((97 : UInt8) ≤ x0))
  ·exact gN 2 rfl rfl rfl rfl rfl rfl
  ·intro k
   have a2 := a5
   try simp only [qa] at a2
   refine am rfl rfl (au rfl) (am rfl rfl (ba (a := vu8 x0) (b := vu8 (122 : UInt8)) rfl rfl aq6) ?_)
   exact gK rfl rfl rfl rfl rfl k
 refine mV rfl ?_
 refine cn 7 (d := 16) (v := vb (((decide ((97 : UInt8) ≤ x0)) && (decide (x0 ≤ (122 : UInt8)))) || ((decide ((65 : UInt8) ≤ x0)) && (decide (x0 ≤ (90 : UInt8)))))) ?_ ?_
 ·intro S Q r
  cases a3 : ((decide ((97 : UInt8) ≤ x0)) && (decide (x0 ≤ (122 : UInt8))))
  ·intro k
   have a0 := a3
   try simp only [qa] at a0
   refine am rfl rfl (au rfl) (am rfl rfl (ba (a := vu8 x0) (b := vu8 (65 : UInt8)) rfl rfl aq5) (am rfl rfl (au rfl) ?_))
   refine cn 3 (d := 15) (v := vb ((decide ((65 : UInt8) ≤ x0)) && (decide (x0 ≤ (90 : UInt8))))) ?_ ?_
   ·intro S Q r
    cases a4 : (decide ((65 : UInt8) ≤ x0))
    ·intro k
     refine sx rfl rfl (sx rfl rfl (am (v := vb false) rfl rfl (vc rfl rfl rfl rfl) ?_))
     exact wD k rfl
    ·intro k
     have a1 := a4
     try simp only [qa] at a1
     refine am rfl rfl (au rfl) (am rfl rfl (ba (a := vu8 x0) (b := vu8 (90 : UInt8)) rfl rfl aq6) (am (v := vb (decide (x0 ≤ (90 : UInt8)))) rfl rfl (vc rfl rfl rfl rfl) ?_))
     exact wD k rfl
   exact gK rfl rfl rfl rfl rfl k
  ·exact gN 6 rfl rfl rfl rfl rfl rfl
 refine mV rfl (nS ?_)
 exact rR hres rfl rfl rfl

def RF119 (res : Bool) (r : PV) : Prop := r = vb res
theorem cp2 {x0 : UInt8} : FnR Tryz.prog 119 [vu8 x0] (vb (qf x0)) := by
 refine fnS (R := RF119) cp3 (fun _ h => h) rfl fun res hres => ?_
 unfold qf at hres
 refine sR (mB rfl (nR (mV rfl (ab (ba (a := vu8 x0) (b := vu8 (48 : UInt8)) rfl rfl aq5) (mV rfl ?_)))))
 refine cn 3 (d := 8) (v := vb ((decide ((48 : UInt8) ≤ x0)) && (decide (x0 ≤ (57 : UInt8))))) ?_ ?_
 ·intro S Q r
  cases a1 : (decide ((48 : UInt8) ≤ x0))
  ·exact gN 2 rfl rfl rfl rfl rfl rfl
  ·intro k
   have a0 := a1
   try simp only [qa] at a0
   refine am rfl rfl (au rfl) (am rfl rfl (ba (a := vu8 x0) (b := vu8 (57 : UInt8)) rfl rfl aq6) ?_)
   exact gK rfl rfl rfl rfl rfl k
 refine mV rfl (nS ?_)
 exact rR hres rfl rfl rfl

def RF88 (res : Bool) (r : PV) : Prop := r = vb res
theorem vy {S : List Fr} {res : Bool} {x0 : List UInt8} (a7 : (((decide (x0 = ([] : List UInt8))) || (decide (16 < (x0.length : Int)))) || (!(nd (ix x0 0)))) = false) {K0 : Unit → Bool}
  (b3 : K0 () = res → PX Tryz.prog 0 S (QR Tryz.prog [(2, none)] (RF88 res)) [] ⟨0, []⟩) :
  ∀ {m : Nat} {a0 : Int} (b2 : m = Int.toNat ((x0.length : Int) - a0)) (a8 : 0 ≤ a0), gz x0 K0 m a0 = res → RC Tryz.prog (.loop cz4) S (QR Tryz.prog [(2, none)] (RF88 res)) [(3, vi a0), (0, vs x0)] ⟨0, []⟩ := by
 have a2 := a7
 try simp only [qa] at a2
 intro m
 induction m with
 | zero =>
  intro a0 b2 a8 hres
  rw [gz] at hres
  refine bt (ah (sR (mV rfl (mV rfl (ab (cw rfl (pp Tryz.underlying9)) (bN cy rfl rfl (nS ?_)))))))
  refine bc rfl ?_ ?_ <;> intro c <;> try simp only [qa] at c
  ·omega
  refine dm (fb (df ?_))
  exact wP (b3  hres) rfl
 | succ m ih =>
  intro a0 b2 a8 hres
  rw [gz] at hres
  refine bt (ah (sR (mV rfl (mV rfl (ab (cw rfl (pp Tryz.underlying9)) (bN cy rfl rfl (nS ?_)))))))
  refine bc rfl ?_ ?_ <;> intro c <;> try simp only [qa] at c
  rotate_left
  ·omega
  refine ay (ai (ah (bd (sR (mV rfl (mV rfl (ab (rb rfl rfl (xm Tryz.underlying9 (by first | omega | (have hp := List.length_pos_iff.2 (And.left (by assumption : ¬x0 = [] ∧ _)); omega)) (by first | omega | (have hp := List.length_pos_iff.2 (And.left (by assumption : ¬x0 = [] ∧ _)); omega)))) ?_)))))))
  obtain ⟨a1, b0, hres⟩ := dq hres
  have a5 := bj5 (x0 := (ix x0 a0))  
  rw [b0] at a5
  refine cL a5 rfl rfl (aq rfl bg) (ab (io rfl) (mV rfl ?_))
  refine cn 6 (d := 34) (v := vb ((!a1) && (!(qf (ix x0 a0))))) ?_ ?_
  ·intro S Q r
   cases a9 : (!a1)
   ·exact gN 5 rfl rfl rfl rfl rfl rfl
   ·intro k
    have a4 := a9
    try simp only [qa] at a4
    refine am rfl rfl (au rfl) (am rfl rfl (au rfl) (am rfl rfl (rb rfl rfl (xm Tryz.underlying9 (by first | omega | (have hp := List.length_pos_iff.2 (And.left (by assumption : ¬x0 = [] ∧ _)); omega)) (by first | omega | (have hp := List.length_pos_iff.2 (And.left (by assumption : ¬x0 = [] ∧ _)); omega)))) ?_))
    have b1 := cp2 (x0 := (ix x0 a0))  
    refine kp rfl rfl (sj rfl rfl (aq rfl bg) b1) (am rfl rfl (io rfl) ?_)
    exact gK rfl rfl rfl rfl rfl k
  refine mV rfl ?_
  refine cn 5 (d := 40) (v := vb (((!a1) && (!(qf (ix x0 a0)))) && (!decide ((ix x0 a0) = (95 : UInt8))))) ?_ ?_
  ·intro S Q r
   cases a6 : ((!a1) && (!(qf (ix x0 a0))))
   ·exact gN 4 rfl rfl rfl rfl rfl rfl
   ·intro k
    have a3 := a6
    try simp only [qa] at a3
    refine am rfl rfl (au rfl) (am rfl rfl (au rfl) (am rfl rfl (rb rfl rfl (xm Tryz.underlying9 (by first | omega | (have hp := List.length_pos_iff.2 (And.left (by assumption : ¬x0 = [] ∧ _)); omega)) (by first | omega | (have hp := List.length_pos_iff.2 (And.left (by assumption : ¬x0 = [] ∧ _)); omega)))) (am rfl rfl (ba (a := vu8 (ix x0 a0)) (b := vu8 (95 : UInt8)) rfl rfl ef9) ?_)))
    exact gK rfl rfl rfl rfl rfl k
  refine nS ?_
  refine di hres rfl ?_ ?_ <;> clear hres <;> intro c hres <;> try simp only [qa] at c
  ·refine sR (mB rfl (nS ?_))
   exact rR hres rfl rfl rfl
  ·refine ay (dj (ai (af (mV rfl (bN ep rfl rfl (mV rfl (aw (cx ?_))))))))
   have hinc : wr (a0 + 1) = a0 + 1 := du (by omega) (by omega)
   erw [hinc]
   exact wC (ih   (by omega) (by omega) hres) rfl

theorem dp3 {x0 : List UInt8} : FnR Tryz.prog 88 [vs x0] (vb (mg x0)) := by
 refine fnS (R := RF88) dn5 (fun _ h => h) rfl fun res hres => ?_
 unfold mg at hres
 refine sR (mB rfl (nS (ah (sR (mV rfl (ab (ba (a := vs x0) (b := vs ([] : List UInt8)) rfl rfl cy2) (mV rfl ?_)))))))
 refine cn 4 (d := 10) (v := vb ((decide (x0 = ([] : List UInt8))) || (decide (16 < (x0.length : Int))))) ?_ ?_
 ·intro S Q r
  cases a5 : (decide (x0 = ([] : List UInt8)))
  ·intro k
   have a3 := a5
   try simp only [qa] at a3
   refine am rfl rfl (au rfl) (am rfl rfl (cw rfl (pp Tryz.underlying9)) (am rfl rfl (ba rfl rfl ij) ?_))
   exact gK rfl rfl rfl rfl rfl k
  ·exact gN 3 rfl rfl rfl rfl rfl rfl
 refine mV rfl ?_
 refine cn 5 (d := 16) (v := vb (((decide (x0 = ([] : List UInt8))) || (decide (16 < (x0.length : Int)))) || (!(nd (ix x0 0))))) ?_ ?_
 ·intro S Q r
  cases a4 : ((decide (x0 = ([] : List UInt8))) || (decide (16 < (x0.length : Int))))
  ·intro k
   have a2 := a4
   try simp only [qa] at a2
   refine am rfl rfl (au rfl) (am rfl rfl (rb rfl rfl (xm (i := 0) Tryz.underlying9 (by first | omega | (have hp := List.length_pos_iff.2 (And.left (by assumption : ¬x0 = [] ∧ _)); omega)) (by first | omega | (have hp := List.length_pos_iff.2 (And.left (by assumption : ¬x0 = [] ∧ _)); omega)))) ?_)
   have a6 := bj5 (x0 := (ix x0 0))  
   refine kp rfl rfl (sj rfl rfl (aq rfl bg) a6) (am rfl rfl (io rfl) ?_)
   exact gK rfl rfl rfl rfl rfl k
  ·exact gN 4 rfl rfl rfl rfl rfl rfl
 refine nS ?_
 refine di hres rfl ?_ ?_ <;> clear hres <;> intro a0 hres <;> have a1 := a0 <;> try simp only [qa] at a1
 ·refine sR (mB rfl (nS ?_))
  exact rR hres rfl rfl rfl
 ·refine ay (ai (ah (sR (mI rfl (nS (bd ?_))))))
  refine wC (vy a0 ?_  rfl (by omega) hres) rfl
  ·intro  hres
   refine fe (ai (sR (mB rfl (nS ?_))))
   exact rR hres rfl rfl rfl

def RF62 (res : Int) (r : PV) : Prop := r = vi res
theorem cb4 {x0 : aa} {x1 : cm} {v0 v1 : PV} (r0 : aa.t.R x0 v0) (r1 : cm.t.R x1 v1) : FnR Tryz.prog 62 [v0, v1] (vi (iq x0 x1)) := by
 refine fnS (R := RF62) ds6 (fun _ h => h) rfl fun res hres => ?_
 unfold iq at hres
 refine sR (ab (dt rfl (TR.cnt aa.t r0)) (ab (dt rfl (TR.cnt cm.t r1)) (mI rfl (nR ?_))))
 obtain ⟨c9, c6, b1⟩ := aa.g_Metadata r0
 refine fA rfl c6 (lD b1 rfl rfl rfl (mV rfl (nS (ah (sR (fL rfl (cm.g_Header r1) rfl rfl (bN tn rfl rfl (nS ?_))))))))
 obtain ⟨c0, a8, hres⟩ := dq hres
 refine vv (F := fun b S Q => ∀ (a0 : List cd) (a2 : PV) (a1 : (tSl cd.t).R a0 a2), c0 a0 = res → RC Tryz.prog b S Q [(5, a2), (3, .fp v1)] ⟨0, []⟩) ?_ ?_
 ·intro a0 a2 a1  hres
  rw [← a8] at hres
  refine ah (sR (fL rfl (cm.g_Header r1) rfl rfl (bN (cy (b := -1)) rfl rfl (mV rfl ?_))))
  refine cn 4 (d := 31) (v := vb ((decide (x1.Header < (-1))) || (decide (x1.Field < 0)))) ?_ ?_
  ·intro S Q r
   cases a9 : (decide (x1.Header < (-1)))
   ·intro k
    have a6 := a9
    try simp only [qa] at a6
    refine am rfl rfl (bz rfl (cm.g_Field r1)) (am rfl rfl (br rfl rfl rfl) (am rfl rfl (ba rfl rfl cy) ?_))
    exact gK rfl rfl rfl rfl rfl k
   ·exact gN 3 rfl rfl rfl rfl rfl rfl
  refine mV rfl ?_
  refine cn 6 (d := 38) (v := vb (((decide (x1.Header < (-1))) || (decide (x1.Field < 0))) || (decide ((a0.length : Int) ≤ x1.Field)))) ?_ ?_
  ·intro S Q r
   cases a7 : ((decide (x1.Header < (-1))) || (decide (x1.Field < 0)))
   ·intro k
    have a4 := a7
    try simp only [qa] at a4
    refine am rfl rfl (bz rfl (cm.g_Field r1)) (am rfl rfl (br rfl rfl rfl) (am rfl rfl (au rfl) (am rfl rfl (cw rfl (cf a1 Tryz.underlying23 _)) (am rfl rfl (ba rfl rfl tn) ?_))))
    exact gK rfl rfl rfl rfl rfl k
   ·exact gN 5 rfl rfl rfl rfl rfl rfl
  refine mV rfl ?_
  refine cn 8 (d := 47) (v := vb ((((decide (x1.Header < (-1))) || (decide (x1.Field < 0))) || (decide ((a0.length : Int) ≤ x1.Field))) || (decide (((ix a0 x1.Field).Width) < 1)))) ?_ ?_
  ·intro S Q r
   cases b2 : (((decide (x1.Header < (-1))) || (decide (x1.Field < 0))) || (decide ((a0.length : Int) ≤ x1.Field)))
   ·intro k
    have a3 := b2
    try simp only [qa] at a3
    refine am rfl rfl (au rfl) (am rfl rfl (bz rfl (cm.g_Field r1)) (am rfl rfl (br rfl rfl rfl) ?_))
    obtain ⟨c8, c5, b9⟩ := dl (i := x1.Field) a1 (by first | omega | (have hk := bn (by assumption) (by assumption); omega) | (have hk := tck (by assumption) (by assumption); omega) | (have hk := rtck (by assumption) (by assumption); omega) | (have hk := eck (by assumption) (by assumption) (by assumption); omega) | (have hk := tv (by assumption) (by assumption); omega) | (have hk := rtv (by assumption) (by assumption); omega)) (by first | omega | (have hk := bn (by assumption) (by assumption); omega) | (have hk := tck (by assumption) (by assumption); omega) | (have hk := rtck (by assumption) (by assumption); omega) | (have hk := eck (by assumption) (by assumption) (by assumption); omega) | (have hk := tv (by assumption) (by assumption); omega) | (have hk := rtv (by assumption) (by assumption); omega))
    refine am rfl rfl (bq rfl rfl c5) (am rfl rfl (bz rfl (cd.g_Width b9)) (am rfl rfl (br rfl rfl rfl) (am rfl rfl (ba rfl rfl cy) ?_)))
    exact gK rfl rfl rfl rfl rfl k
   ·exact gN 7 rfl rfl rfl rfl rfl rfl
  refine mV rfl ?_
  refine cn 8 (d := 56) (v := vb (((((decide (x1.Header < (-1))) || (decide (x1.Field < 0))) || (decide ((a0.length : Int) ≤ x1.Field))) || (decide (((ix a0 x1.Field).Width) < 1))) || (decide (32 < ((ix a0 x1.Field).Width))))) ?_ ?_
  ·intro S Q r
   cases b0 : ((((decide (x1.Header < (-1))) || (decide (x1.Field < 0))) || (decide ((a0.length : Int) ≤ x1.Field))) || (decide (((ix a0 x1.Field).Width) < 1)))
   ·intro k
    have a5 := b0
    try simp only [qa] at a5
    refine am rfl rfl (au rfl) (am rfl rfl (bz rfl (cm.g_Field r1)) (am rfl rfl (br rfl rfl rfl) ?_))
    obtain ⟨d4, b8, b7⟩ := dl (i := x1.Field) a1 (by first | omega | (have hk := bn (by assumption) (by assumption); omega) | (have hk := tck (by assumption) (by assumption); omega) | (have hk := rtck (by assumption) (by assumption); omega) | (have hk := eck (by assumption) (by assumption) (by assumption); omega) | (have hk := tv (by assumption) (by assumption); omega) | (have hk := rtv (by assumption) (by assumption); omega)) (by first | omega | (have hk := bn (by assumption) (by assumption); omega) | (have hk := tck (by assumption) (by assumption); omega) | (have hk := rtck (by assumption) (by assumption); omega) | (have hk := eck (by assumption) (by assumption) (by assumption); omega) | (have hk := tv (by assumption) (by assumption); omega) | (have hk := rtv (by assumption) (by assumption); omega))
    refine am rfl rfl (bq rfl rfl b8) (am rfl rfl (bz rfl (cd.g_Width b7)) (am rfl rfl (br rfl rfl rfl) (am rfl rfl (ba rfl rfl ij) ?_)))
    exact gK rfl rfl rfl rfl rfl k
   ·exact gN 7 rfl rfl rfl rfl rfl rfl
  refine nS ?_
  refine di hres rfl ?_ ?_ <;> clear hres <;> intro c hres <;> try simp only [qa] at c
  ·refine sR (mI rfl (nS ?_))
   exact rR hres rfl rfl rfl
  ·refine ay (ai (sR (mV rfl (fL rfl (cm.g_Field r1) rfl rfl ?_))))
   obtain ⟨c7, b5, c1⟩ := dl (i := x1.Field) a1 (by first | omega | (have hk := bn (by assumption) (by assumption); omega) | (have hk := tck (by assumption) (by assumption); omega) | (have hk := rtck (by assumption) (by assumption); omega) | (have hk := eck (by assumption) (by assumption) (by assumption); omega) | (have hk := tv (by assumption) (by assumption); omega) | (have hk := rtv (by assumption) (by assumption); omega)) (by first | omega | (have hk := bn (by assumption) (by assumption); omega) | (have hk := tck (by assumption) (by assumption); omega) | (have hk := rtck (by assumption) (by assumption); omega) | (have hk := eck (by assumption) (by assumption) (by assumption); omega) | (have hk := tv (by assumption) (by assumption); omega) | (have hk := rtv (by assumption) (by assumption); omega))
   refine ab (bq rfl rfl b5) (fL rfl (cd.g_Width c1) rfl rfl (mV rfl (nS ?_)))
   exact rR hres rfl rfl rfl
 ·intro J
  refine di hres rfl ?_ ?_ <;> clear hres <;> intro c hres <;> try simp only [qa] at c
  ·refine ah (sR (fL rfl (cm.g_Header r1) rfl rfl (gL (aa.g_Headers r0) rfl rfl rfl fun d1 b4 => (ab (cw rfl (cf b4 Tryz.underlying22 _)) (bN tn rfl rfl (nS ?_))))))
   refine di hres rfl ?_ ?_ <;> clear hres <;> intro c hres <;> try simp only [qa] at c
   ·refine sR (mI rfl (nS ?_))
    exact rR hres rfl rfl rfl
   ·refine ay (ai (af (gL (aa.g_Headers r0) rfl rfl rfl fun d3 b6 => (fL rfl (cm.g_Header r1) rfl rfl ?_))))
    obtain ⟨d2, b3, c3⟩ := dl (i := x1.Header) b6 (by first | omega | (have hk := bn (by assumption) (by assumption); omega) | (have hk := tck (by assumption) (by assumption); omega) | (have hk := rtck (by assumption) (by assumption); omega) | (have hk := eck (by assumption) (by assumption) (by assumption); omega) | (have hk := tv (by assumption) (by assumption); omega) | (have hk := rtv (by assumption) (by assumption); omega)) (by first | omega | (have hk := bn (by assumption) (by assumption); omega) | (have hk := tck (by assumption) (by assumption); omega) | (have hk := rtck (by assumption) (by assumption); omega) | (have hk := eck (by assumption) (by assumption) (by assumption); omega) | (have hk := tv (by assumption) (by assumption); omega) | (have hk := rtv (by assumption) (by assumption); omega))
    refine ab (bq rfl rfl b3) (gL (cv.g_Fields c3) rfl rfl rfl fun d0 c4 => (mV rfl (aw ?_)))
    refine ai (wC (J _ _ c4  hres) rfl)
  ·refine ay ?_
   refine ai (wC (J _ _ b1  hres) rfl)

def RF89 (res : Int × Int) (r : PV) : Prop := r = .tup [vi res.1, vi res.2]
theorem af5 {S : List Fr} {res : Int × Int} {x0 : aa} {x1 : az} {v0 v1 : PV} (r0 : aa.t.R x0 v0) (r1 : az.t.R x1 v1) {K0 : Int → Int → (Int × Int)}
  (c6 : ∀ {a2 a5 : Int}, K0 a2 a5 = res → PX Tryz.prog 0 S (QR Tryz.prog [(4, none), (5, none)] (RF89 res)) [(6, vi a2), (7, vi a5)] ⟨0, []⟩) :
  ∀ {m : Nat} {a2 a5 a0 : Int} (b9 : m = Int.toNat ((x1.Keys.length : Int) - a0)) (a9 : 0 ≤ a0), ka x0 x1 K0 m a2 a5 a0 = res → RC Tryz.prog (.loop cr6) S (QR Tryz.prog [(4, none), (5, none)] (RF89 res)) [(8, vi a0), (7, vi a5), (6, vi a2), (3, .fp v1), (2, .fp v0)] ⟨0, []⟩ := by
 intro m
 induction m with
 | zero =>
  intro a2 a5 a0 b9 a9 hres
  rw [ka] at hres
  refine bt (ah (sR (mV rfl (gL (az.g_Keys r1) rfl rfl rfl fun c3 b8 => (ab (cw rfl (cf b8 Tryz.underlying85 _)) (bN cy rfl rfl (nS ?_)))))))
  refine bc rfl ?_ ?_ <;> intro c <;> try simp only [qa] at c
  ·omega
  refine dm (fb (df ?_))
  exact wP (c6  hres) rfl
 | succ m ih =>
  intro a2 a5 a0 b9 a9 hres
  rw [ka] at hres
  refine bt (ah (sR (mV rfl (gL (az.g_Keys r1) rfl rfl rfl fun c7 a1 => (ab (cw rfl (cf a1 Tryz.underlying85 _)) (bN cy rfl rfl (nS ?_)))))))
  refine bc rfl ?_ ?_ <;> intro c <;> try simp only [qa] at c
  rotate_left
  ·omega
  refine ay (ai (ah (bd (sR (lD r0 rfl rfl rfl (gL (az.g_Keys r1) rfl rfl rfl fun c8 b3 => (mV rfl ?_)))))))
  obtain ⟨c5, b5, b4⟩ := dl (i := a0) b3 (by first | omega | (have hk := bn (by assumption) (by assumption); omega) | (have hk := tck (by assumption) (by assumption); omega) | (have hk := rtck (by assumption) (by assumption); omega) | (have hk := eck (by assumption) (by assumption) (by assumption); omega) | (have hk := tv (by assumption) (by assumption); omega) | (have hk := rtv (by assumption) (by assumption); omega)) (by first | omega | (have hk := bn (by assumption) (by assumption); omega) | (have hk := tck (by assumption) (by assumption); omega) | (have hk := rtck (by assumption) (by assumption); omega) | (have hk := eck (by assumption) (by assumption) (by assumption); omega) | (have hk := tv (by assumption) (by assumption); omega) | (have hk := rtv (by assumption) (by assumption); omega))
  refine ab (bq rfl rfl b5) (gL (bh.g_Field b4) rfl rfl rfl fun c9 b0 => ?_)
  obtain ⟨c4, a7, hres⟩ := dq hres
  have b1 := cb4  r0 b0 
  rw [a7] at b1
  refine cL b1 rfl rfl (aq (TR.clo aa.t r0) (aq (TR.clo cm.t b0) bg)) (mV rfl (nR (gL (az.g_Keys r1) rfl rfl rfl fun c0 b7 => (mV rfl ?_))))
  obtain ⟨c1, b6, b2⟩ := dl (i := a0) b7 (by first | omega | (have hk := bn (by assumption) (by assumption); omega) | (have hk := tck (by assumption) (by assumption); omega) | (have hk := rtck (by assumption) (by assumption); omega) | (have hk := eck (by assumption) (by assumption) (by assumption); omega) | (have hk := tv (by assumption) (by assumption); omega) | (have hk := rtv (by assumption) (by assumption); omega)) (by first | omega | (have hk := bn (by assumption) (by assumption); omega) | (have hk := tck (by assumption) (by assumption); omega) | (have hk := rtck (by assumption) (by assumption); omega) | (have hk := eck (by assumption) (by assumption) (by assumption); omega) | (have hk := tv (by assumption) (by assumption); omega) | (have hk := rtv (by assumption) (by assumption); omega))
  refine ab (bq rfl rfl b6) (fL rfl (bh.g_Kind b2) rfl rfl (mV rfl (nS (ah (bd (sR (mV rfl (bN oe rfl rfl ?_))))))))
  refine mV rfl (nS ?_)
  refine di hres rfl ?_ ?_ <;> clear hres <;> intro c hres <;> try simp only [qa] at c
  ·refine sR (mV rfl (mV rfl (mI rfl (nS ?_))))
   exact rT hres rfl rfl rfl rfl rfl
  ·refine sR (mV rfl (bN ma rfl rfl (mV rfl ?_)))
   refine cn 3 (d := 42) (v := vb ((!decide (((ix x1.Keys a0).Kind) = 1)) && (!decide (((ix x1.Keys a0).Kind) = 2)))) ?_ ?_
   ·intro S Q r
    cases a6 : (!decide (((ix x1.Keys a0).Kind) = 1))
    ·exact gN 2 rfl rfl rfl rfl rfl rfl
    ·intro k
     have a4 := a6
     try simp only [qa] at a4
     refine am rfl rfl (au rfl) (am rfl rfl (ba rfl rfl ma) ?_)
     exact gK rfl rfl rfl rfl rfl k
   refine mV rfl ?_
   refine cn 3 (d := 46) (v := vb (((!decide (((ix x1.Keys a0).Kind) = 1)) && (!decide (((ix x1.Keys a0).Kind) = 2))) && (!decide (((ix x1.Keys a0).Kind) = 3)))) ?_ ?_
   ·intro S Q r
    cases a8 : ((!decide (((ix x1.Keys a0).Kind) = 1)) && (!decide (((ix x1.Keys a0).Kind) = 2)))
    ·exact gN 2 rfl rfl rfl rfl rfl rfl
    ·intro k
     have a3 := a8
     try simp only [qa] at a3
     refine am rfl rfl (au rfl) (am rfl rfl (ba rfl rfl ma) ?_)
     exact gK rfl rfl rfl rfl rfl k
   refine mV rfl (nS ?_)
   refine di hres rfl ?_ ?_ <;> clear hres <;> intro c hres <;> try simp only [qa] at c
   ·refine sR (mV rfl (mV rfl (mI rfl (nS ?_))))
    exact rT hres rfl rfl rfl rfl rfl
   ·refine sR (mV rfl (bN oe rfl rfl (mV rfl (nS ?_))))
    refine di hres rfl ?_ ?_ <;> clear hres <;> intro c hres <;> try simp only [qa] at c
    ·refine af (mV rfl (bN ep rfl rfl (mV rfl (aw (dj (ai (af (mV rfl ?_))))))))
     refine mV rfl (bN ep rfl rfl (mV rfl (aw (dj (ai (af (mV rfl (bN ep rfl rfl ?_))))))))
     refine mV rfl (aw (cx ?_))
     have hbd := dv a1
     have hinc : wr (a0 + 1) = a0 + 1 := du (by omega) (by omega)
     erw [hinc]
     exact wC (ih   (by omega) (by omega) hres) rfl
    ·refine ay (dj (ai (af (mV rfl (mV rfl (bN ep rfl rfl (mV rfl (aw ?_))))))))
     refine dj (ai (af (mV rfl (bN ep rfl rfl (mV rfl (aw (cx ?_)))))))
     have hbd := dv a1
     have hinc : wr (a0 + 1) = a0 + 1 := du (by omega) (by omega)
     erw [hinc]
     exact wC (ih   (by omega) (by omega) hres) rfl

theorem ds4 {x0 : aa} {x1 : az} {v0 v1 : PV} (r0 : aa.t.R x0 v0) (r1 : az.t.R x1 v1) : FnR Tryz.prog 89 [v0, v1] (.tup [vi ((qv x0 x1).1), vi ((qv x0 x1).2)]) := by
 refine fnS (R := RF89) du9 (fun _ h => h) rfl fun res hres => ?_
 unfold qv at hres
 refine sR (ab (dt rfl (TR.cnt aa.t r0)) (ab (dt rfl (TR.cnt az.t r1)) (mI rfl (mI rfl (nR (mI rfl (nR (mI rfl ?_))))))))
 refine nS (ah (sR (mI rfl (nS (bd ?_)))))
 refine wC (af5 r0 r1 ?_  rfl (by omega) hres) rfl
 ·intro a0 a1 hres
  refine fe (ai (ah (bd (sR (mV rfl (bN ij rfl rfl (mV rfl (nS ?_))))))))
  refine di hres rfl ?_ ?_ <;> clear hres <;> intro c hres <;> try simp only [qa] at c
  ·refine sR (mI rfl (mI rfl (nS ?_)))
   exact rT hres rfl rfl rfl rfl rfl
  ·refine sR (mV rfl (bN ij rfl rfl (mV rfl (nS ?_))))
   refine di hres rfl ?_ ?_ <;> clear hres <;> intro c hres <;> try simp only [qa] at c
   ·refine sR (mI rfl (mI rfl (nS ?_)))
    exact rT hres rfl rfl rfl rfl rfl
   ·refine ay (dj (ai (sR (mI rfl (mI rfl (nS ?_))))))
    exact rT hres rfl rfl rfl rfl rfl

def RF120 (res : Int) (r : PV) : Prop := r = vi res
theorem ad9 {S : List Fr} {res : Int} {x0 : List Int} {x1 : Int} {v0 : PV} (r0 : (tSl tI).R x0 v0) {K0 : Unit → Int}
  (a3 : K0 () = res → PX Tryz.prog 0 S (QR Tryz.prog [(4, none)] (RF120 res)) [] ⟨0, []⟩) :
  ∀ {m : Nat} {a0 : Int} (a2 : m = Int.toNat ((x0.length : Int) - a0)) (a1 : 0 ≤ a0), ir x0 x1 K0 m a0 = res → RC Tryz.prog (.loop cj0) S (QR Tryz.prog [(4, none)] (RF120 res)) [(5, vi a0), (1, vi x1), (0, v0)] ⟨0, []⟩ := by
 intro m
 induction m with
 | zero =>
  intro a0 a2 a1 hres
  rw [ir] at hres
  refine bt (ah (sR (mV rfl (mV rfl (ab (cw rfl (cf r0 Tryz.underlying29 _)) (bN cy rfl rfl (nS ?_)))))))
  refine bc rfl ?_ ?_ <;> intro c <;> try simp only [qa] at c
  ·omega
  refine dm (fb (df ?_))
  exact wP (a3  hres) rfl
 | succ m ih =>
  intro a0 a2 a1 hres
  rw [ir] at hres
  refine bt (ah (sR (mV rfl (mV rfl (ab (cw rfl (cf r0 Tryz.underlying29 _)) (bN cy rfl rfl (nS ?_)))))))
  refine bc rfl ?_ ?_ <;> intro c <;> try simp only [qa] at c
  rotate_left
  ·omega
  refine ay (ai (ah (bd (sR (mV rfl (mV rfl (ab (bq rfl rfl (slI r0 (by first | omega | (have hk := bn (by assumption) (by assumption); omega) | (have hk := tck (by assumption) (by assumption); omega) | (have hk := rtck (by assumption) (by assumption); omega) | (have hk := eck (by assumption) (by assumption) (by assumption); omega) | (have hk := tv (by assumption) (by assumption); omega) | (have hk := rtv (by assumption) (by assumption); omega)) (by first | omega | (have hk := bn (by assumption) (by assumption); omega) | (have hk := tck (by assumption) (by assumption); omega) | (have hk := rtck (by assumption) (by assumption); omega) | (have hk := eck (by assumption) (by assumption) (by assumption); omega) | (have hk := tv (by assumption) (by assumption); omega) | (have hk := rtv (by assumption) (by assumption); omega)))) (lR rfl rfl rfl ?_))))))))
  refine mV rfl (bN oe rfl rfl (nS ?_))
  refine di hres rfl ?_ ?_ <;> clear hres <;> intro c hres <;> try simp only [qa] at c
  ·refine sR (mV rfl (mV rfl (nS ?_)))
   exact rR hres rfl rfl rfl
  ·refine ay (dj (ai (af (mV rfl (bN ep rfl rfl (mV rfl (aw (cx ?_))))))))
   have hbd := dv r0
   have hinc : wr (a0 + 1) = a0 + 1 := du (by omega) (by omega)
   erw [hinc]
   exact wC (ih   (by omega) (by omega) hres) rfl

theorem bo3 {x0 : List Int} {x1 : Int} {v0 : PV} (r0 : (tSl tI).R x0 v0) : FnR Tryz.prog 120 [v0, vi x1] (vi (gw x0 x1)) := by
 refine fnS (R := RF120) cx1 (fun _ h => h) rfl fun res hres => ?_
 unfold gw at hres
 refine sR (mI rfl (nS (ah (sR (mI rfl (nS (bd ?_)))))))
 refine wC (ad9 r0 ?_  rfl (by omega) hres) rfl
 ·intro  hres
  refine fe (ai (sR (mI rfl (nS ?_))))
  exact rR hres rfl rfl rfl

def RF145 (res : Bool) (r : PV) : Prop := r = vb res
theorem cz3 {x0 : Int} : FnR Tryz.prog 145 [vi x0] (vb (gm x0)) := by
 refine fnS (R := RF145) cq7 (fun _ h => h) rfl fun res hres => ?_
 unfold gm at hres
 refine sR (mB rfl (nR (mV rfl (bN tn rfl rfl (mV rfl ?_)))))
 refine cn 3 (d := 8) (v := vb ((decide (1 ≤ x0)) && (decide (x0 ≤ 32)))) ?_ ?_
 ·intro S Q r
  cases a1 : (decide (1 ≤ x0))
  ·exact gN 2 rfl rfl rfl rfl rfl rfl
  ·intro k
   have a0 := a1
   try simp only [qa] at a0
   refine am rfl rfl (au rfl) (am rfl rfl (ba rfl rfl bz2) ?_)
   exact gK rfl rfl rfl rfl rfl k
 refine mV rfl (nS ?_)
 exact rR hres rfl rfl rfl

def RF147 (res : (BitVec 64)) (r : PV) : Prop := r = cg res
theorem aa7 {S : List Fr} {res : (BitVec 64)} {x0 : Int} (hn : x0 ≤ 64) {K0 : (BitVec 64) → (BitVec 64)}
  (a4 : ∀ {a1 : BitVec 64}, K0 a1 = res → PX Tryz.prog 0 S (QR Tryz.prog [(2, none)] (RF147 res)) [(3, cg a1)] ⟨0, []⟩) :
  ∀ {m : Nat} {a1 : BitVec 64} {a0 : Int} (a3 : m = Int.toNat (x0 - a0)) (a2 : 0 ≤ a0), qe K0 m a1 a0 = res → RC Tryz.prog (.loop cc8) S (QR Tryz.prog [(2, none)] (RF147 res)) [(4, vi a0), (3, cg a1), (0, vi x0)] ⟨0, []⟩ := by
 intro m
 induction m with
 | zero =>
  intro a1 a0 a3 a2 hres
  rw [qe] at hres
  refine bt (ah (sR (mV rfl (mV rfl (bN cy rfl rfl (nS ?_))))))
  refine bc rfl ?_ ?_ <;> intro c <;> try simp only [qa] at c
  ·omega
  refine dm (fb (df ?_))
  exact wP (a4  hres) rfl
 | succ m ih =>
  intro a1 a0 a3 a2 hres
  rw [qe] at hres
  refine bt (ah (sR (mV rfl (mV rfl (bN cy rfl rfl (nS ?_))))))
  refine bc rfl ?_ ?_ <;> intro c <;> try simp only [qa] at c
  rotate_left
  ·omega
  refine ay (ai (ah (bd (af (mV rfl (ab (ba (a := cg 2#64) (b := cg a1) rfl rfl di3) (mV rfl (aw ?_))))))))
  refine dj (ai (af (mV rfl (bN ep rfl rfl (mV rfl (aw (cx ?_)))))))
  have hinc : wr (a0 + 1) = a0 + 1 := du (by omega) (by omega)
  erw [hinc]
  exact wC (ih   (by omega) (by omega) hres) rfl

theorem db2 {x0 : Int} (hn : x0 ≤ 64) : FnR Tryz.prog 147 [vi x0] (cg (lz x0)) := by
 refine fnS (R := RF147) cu3 (fun _ h => h) rfl fun res hres => ?_
 unfold lz at hres
 refine sR (ab (v := cg 0#64) (au rfl) (nR (ab (v := cg 1#64) (au rfl) (nS (ah (sR (mI rfl (nS ?_))))))))
 refine bd ?_
 refine wC (aa7 hn ?_  rfl (by omega) hres) rfl
 ·intro a0 hres
  refine fe (ai (sR (mV rfl (mV rfl (nS ?_)))))
  exact rR hres rfl rfl rfl

def RF122 (res : Bool) (r : PV) : Prop := r = vb res
theorem de6 {x0 : BitVec 32} {x1 : Int} : FnR Tryz.prog 122 [dx x0, vi x1] (vb (mh x0 x1)) := by
 refine fnS (R := RF122) cp9 (fun _ h => h) rfl fun res hres => ?_
 unfold mh at hres
 refine sR (mB rfl (nR (mV rfl ?_)))
 obtain ⟨a4, a3, hres⟩ := dq hres
 have a2 := cz3 (x0 := x1)  
 rw [a3] at a2
 refine cL a2 rfl rfl (aq rfl bg) (mV rfl ?_)
 refine cn 6 (d := 13) (v := vb (a4 && (decide ((BitVec.setWidth 64 x0) < (lz x1))))) ?_ ?_
 ·intro S Q r
  cases a1 : a4
  ·exact gN 5 rfl rfl rfl rfl rfl rfl
  ·intro k
   have a0 := a1
   try simp only [qa] at a0
   refine am rfl rfl (au rfl) (am rfl rfl (xk (a := dx x0) rfl (c_wd Tryz.underlying64 Tryz.underlying97)) (am rfl rfl (au rfl) ?_))
   have a5 := db2 (x0 := x1)  (by first | assumption | omega | (have := rv (by assumption) (by assumption); omega) | (rw [du (by omega) (by omega)]; omega) | (simp only [List.length_cons, List.length_nil]; omega))
   refine kp rfl rfl (sj rfl rfl (aq rfl bg) a5) (am rfl rfl (ba (a := cg (BitVec.setWidth 64 x0)) (b := cg (lz x1)) rfl rfl di0) ?_)
   exact gK rfl rfl rfl rfl rfl k
 refine mV rfl (nS ?_)
 exact rR hres rfl rfl rfl

def RF94 (res : Int) (r : PV) : Prop := r = vi res
theorem xx {S : List Fr} {res : Int} {x0 : aa} {x1 : ax} {v1 a6 : PV} (r1 : ax.t.R x1 v1) (a4 : ((decide (x1.Action < 0)) || (decide ((x0.Actions.length : Int) ≤ x1.Action))) = false) (a1 : (tSl cd.t).R ((ix x0.Actions x1.Action).Params) a6) (a8 : (!decide ((x1.Args.length : Int) = (((ix x0.Actions x1.Action).Params).length : Int))) = false) {K0 : Unit → Int}
  (b7 : K0 () = res → PX Tryz.prog 0 S (QR Tryz.prog [(4, none)] (RF94 res)) [] ⟨0, []⟩) :
  ∀ {m : Nat} {a0 : Int} (b3 : m = Int.toNat ((((ix x0.Actions x1.Action).Params).length : Int) - a0)) (a5 : 0 ≤ a0), js x0 x1 K0 m a0 = res → RC Tryz.prog (.loop cs3) S (QR Tryz.prog [(4, none)] (RF94 res)) [(6, vi a0), (5, a6), (3, .fp v1)] ⟨0, []⟩ := by
 have a3 := a4
 try simp only [qa] at a3
 have a2 := a8
 try simp only [qa] at a2
 intro m
 induction m with
 | zero =>
  intro a0 b3 a5 hres
  rw [js] at hres
  refine bt (ah (sR (mV rfl (mV rfl (ab (cw rfl (cf a1 Tryz.underlying23 _)) (bN cy rfl rfl (nS ?_)))))))
  refine bc rfl ?_ ?_ <;> intro c <;> try simp only [qa] at c
  ·omega
  refine dm (fb (df ?_))
  exact wP (b7  hres) rfl
 | succ m ih =>
  intro a0 b3 a5 hres
  rw [js] at hres
  refine bt (ah (sR (mV rfl (mV rfl (ab (cw rfl (cf a1 Tryz.underlying23 _)) (bN cy rfl rfl (nS ?_)))))))
  refine bc rfl ?_ ?_ <;> intro c <;> try simp only [qa] at c
  rotate_left
  ·omega
  refine ay (ai (ah (bd (sR (gL (ax.g_Args r1) rfl rfl rfl fun b6 b1 => (mV rfl (ab (bq rfl rfl (ap0 b1 (by first | omega | (have hk := bn (by assumption) (by assumption); omega) | (have hk := tck (by assumption) (by assumption); omega) | (have hk := rtck (by assumption) (by assumption); omega) | (have hk := eck (by assumption) (by assumption) (by assumption); omega) | (have hk := tv (by assumption) (by assumption); omega) | (have hk := rtv (by assumption) (by assumption); omega)) (by first | omega | (have hk := bn (by assumption) (by assumption); omega) | (have hk := tck (by assumption) (by assumption); omega) | (have hk := rtck (by assumption) (by assumption); omega) | (have hk := eck (by assumption) (by assumption) (by assumption); omega) | (have hk := tv (by assumption) (by assumption); omega) | (have hk := rtv (by assumption) (by assumption); omega)))) (lR rfl rfl rfl ?_))))))))
  refine mV rfl (mV rfl ?_)
  obtain ⟨b4, b2, b0⟩ := dl (i := a0) a1 (by first | omega | (have hk := bn (by assumption) (by assumption); omega) | (have hk := tck (by assumption) (by assumption); omega) | (have hk := rtck (by assumption) (by assumption); omega) | (have hk := eck (by assumption) (by assumption) (by assumption); omega) | (have hk := tv (by assumption) (by assumption); omega) | (have hk := rtv (by assumption) (by assumption); omega)) (by first | omega | (have hk := bn (by assumption) (by assumption); omega) | (have hk := tck (by assumption) (by assumption); omega) | (have hk := rtck (by assumption) (by assumption); omega) | (have hk := eck (by assumption) (by assumption) (by assumption); omega) | (have hk := tv (by assumption) (by assumption); omega) | (have hk := rtv (by assumption) (by assumption); omega))
  refine ab (bq rfl rfl b2) (fL rfl (cd.g_Width b0) rfl rfl ?_)
  obtain ⟨b5, a7, hres⟩ := dq hres
  have a9 := de6 (x0 := (ix x1.Args a0)) (x1 := (ix ((ix x0.Actions x1.Action).Params) a0).Width)  
  rw [a7] at a9
  refine cL a9 rfl rfl (aq rfl (aq rfl bg)) (ab (io rfl) (nS ?_))
  refine di hres rfl ?_ ?_ <;> clear hres <;> intro c hres <;> try simp only [qa] at c
  ·refine sR (mI rfl (nS ?_))
   exact rR hres rfl rfl rfl
  ·refine ay (dj (ai (af (mV rfl (bN ep rfl rfl (mV rfl (aw (cx ?_))))))))
   have hbd := dv a1
   have hinc : wr (a0 + 1) = a0 + 1 := du (by omega) (by omega)
   erw [hinc]
   exact wC (ih   (by omega) (by omega) hres) rfl

theorem dq1 {x0 : aa} {x1 : ax} {v0 v1 : PV} (r0 : aa.t.R x0 v0) (r1 : ax.t.R x1 v1) : FnR Tryz.prog 94 [v0, v1] (vi (mz x0 x1)) := by
 refine fnS (R := RF94) dr8 (fun _ h => h) rfl fun res hres => ?_
 unfold mz at hres
 refine sR (ab (dt rfl (TR.cnt aa.t r0)) (ab (dt rfl (TR.cnt ax.t r1)) (mI rfl (nS (ah (sR (fL rfl (ax.g_Action r1) rfl rfl (bN cy rfl rfl ?_))))))))
 refine mV rfl ?_
 refine cn 7 (d := 17) (v := vb ((decide (x1.Action < 0)) || (decide ((x0.Actions.length : Int) ≤ x1.Action)))) ?_ ?_
 ·intro S Q r
  cases a6 : (decide (x1.Action < 0))
  ·intro k
   have a5 := a6
   try simp only [qa] at a5
   refine am rfl rfl (bz rfl (ax.g_Action r1)) (am rfl rfl (br rfl rfl rfl) ?_)
   obtain ⟨b3, b0, a3⟩ := aa.g_Actions r0
   refine am rfl rfl (bz rfl b0) (am rfl rfl (br rfl (TR.cnt (tSl cz.t) a3) (TR.agg (tSl cz.t) a3)) (am rfl rfl (cw rfl (cf a3 Tryz.underlying25 _)) (am rfl rfl (ba rfl rfl tn) ?_)))
   exact gK rfl rfl rfl rfl rfl k
  ·exact gN 6 rfl rfl rfl rfl rfl rfl
 refine nS ?_
 refine di hres rfl ?_ ?_ <;> clear hres <;> intro a0 hres <;> have a4 := a0 <;> try simp only [qa] at a4
 ·refine sR (mI rfl (nS ?_))
  exact rR hres rfl rfl rfl
 ·refine ay (ai (sR (gL (aa.g_Actions r0) rfl rfl rfl fun b5 b2 => (fL rfl (ax.g_Action r1) rfl rfl ?_))))
  obtain ⟨b6, a9, a8⟩ := dl (i := x1.Action) b2 (by first | omega | (have hk := bn (by assumption) (by assumption); omega) | (have hk := tck (by assumption) (by assumption); omega) | (have hk := rtck (by assumption) (by assumption); omega) | (have hk := eck (by assumption) (by assumption) (by assumption); omega) | (have hk := tv (by assumption) (by assumption); omega) | (have hk := rtv (by assumption) (by assumption); omega)) (by first | omega | (have hk := bn (by assumption) (by assumption); omega) | (have hk := tck (by assumption) (by assumption); omega) | (have hk := rtck (by assumption) (by assumption); omega) | (have hk := eck (by assumption) (by assumption) (by assumption); omega) | (have hk := tv (by assumption) (by assumption); omega) | (have hk := rtv (by assumption) (by assumption); omega))
  refine ab (bq rfl rfl a9) (gL (cz.g_Params a8) rfl rfl rfl fun b4 a7 => (mV rfl (nS (ah (sR (gL (ax.g_Args r1) rfl rfl rfl fun b7 b1 => (ab (cw rfl (cf b1 Tryz.underlying33 _)) (mV rfl ?_))))))))
  refine ab (cw rfl (cf a7 Tryz.underlying23 _)) (bN ma rfl rfl (nS ?_))
  refine di hres rfl ?_ ?_ <;> clear hres <;> intro a1 hres <;> have a2 := a1 <;> try simp only [qa] at a2
  ·refine sR (mI rfl (nS ?_))
   exact rR hres rfl rfl rfl
  ·refine ay (ai (ah (sR (mI rfl (nS (bd ?_))))))
   refine wC (xx r1 a0 a7 a1 ?_  rfl (by omega) hres) rfl
   ·intro  hres
    refine fe (ai (sR (mI rfl (nS ?_))))
    exact rR hres rfl rfl rfl

end Go.Proofs.YthdnpgpnodgicaaGreat
