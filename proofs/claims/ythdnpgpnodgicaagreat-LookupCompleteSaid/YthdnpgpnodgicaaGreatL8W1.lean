/-
 The code of each function does what its plain program says.
-/
import Derived.Test.YthdnpgpnodgicaaGreatL8W0
set_option linter.unusedVariables false
set_option linter.unusedSimpArgs false
set_option maxRecDepth 100000
namespace Go.Proofs.YthdnpgpnodgicaaGreat
open Go Go.Pb Go.RowKit
def RF10 (res : Bool) (r : PV) : Prop := r = vb res
theorem yk {S : List Fr} {res : Bool} {x0 : bm} {a5 : Bool} {v0 : PV} (r0 : bm.t.R x0 v0) (c6 : nj x0.Program = a5) (a8 : ((a5 || (decide (30 < (x0.Rows.length : Int)))) || (decide (20 < (x0.Key.length : Int)))) = false) {K0 : Unit → Bool}
  (d6 : K0 () = res → PX Tryz.prog 0 S (QR Tryz.prog [(2, none)] (RF10 res)) [] ⟨0, []⟩) :
  ∀ {m : Nat} {a0 : Int} (c7 : m = Int.toNat ((x0.Rows.length : Int) - a0)) (a6 : 0 ≤ a0), ka x0 K0 m a0 = res → RC Tryz.prog (.loop dc4) S (QR Tryz.prog [(2, none)] (RF10 res)) [(3, vi a0), (1, .fp v0)] ⟨0, []⟩ := by
 have a4 := a8
 try simp only [qa] at a4
 intro m
 induction m with
 | zero =>
  intro a0 c7 a6 hres
  rw [ka] at hres
  refine bw (ah (sR (mV rfl (gL (bm.g_Rows r0) rfl rfl rfl fun c8 b0 => (ab (cw rfl (cg b0 Tryz.underlying32 _)) (bN cy rfl rfl (nS ?_)))))))
  refine bc rfl ?_ ?_ <;> intro c <;> try simp only [qa] at c
  ·omega
  refine dt (fj (df ?_))
  exact wP (d6  hres) rfl
 | succ m ih =>
  intro a0 c7 a6 hres
  rw [ka] at hres
  refine bw (ah (sR (mV rfl (gL (bm.g_Rows r0) rfl rfl rfl fun d5 a7 => (ab (cw rfl (cg a7 Tryz.underlying32 _)) (bN cy rfl rfl (nS ?_)))))))
  refine bc rfl ?_ ?_ <;> intro c <;> try simp only [qa] at c
  rotate_left
  ·omega
  refine ay (ai (ah (bf (sR (gL (bm.g_Rows r0) rfl rfl rfl fun c9 c5 => (mV rfl ?_))))))
  obtain ⟨d1, b4, b9⟩ := dk (i := a0) c5 (by first | omega | (have hk := bn (by assumption) (by assumption); omega) | (have hk := tck (by assumption) (by assumption); omega) | (have hk := rtck (by assumption) (by assumption); omega) | (have hk := eck (by assumption) (by assumption) (by assumption); omega) | (have hk := tv (by assumption) (by assumption); omega) | (have hk := rtv (by assumption) (by assumption); omega)) (by first | omega | (have hk := bn (by assumption) (by assumption); omega) | (have hk := tck (by assumption) (by assumption); omega) | (have hk := rtck (by assumption) (by assumption); omega) | (have hk := eck (by assumption) (by assumption) (by assumption); omega) | (have hk := tv (by assumption) (by assumption); omega) | (have hk := rtv (by assumption) (by assumption); omega))
  refine ab (bp rfl rfl b4) ?_
  obtain ⟨d8, b2, b3⟩ := am.g_Entry b9
  refine fA rfl b2 (gL (aw.g_Keys b3) rfl rfl rfl fun d3 b5 => (ab (cw rfl (cg b5 Tryz.underlying38 _)) (bN ig rfl rfl (mV rfl ?_))))
  refine cp 11 (d := 46) (v := vb ((decide (20 < ((((ix x0.Rows a0).Entry).Keys).length : Int))) || (decide (20 < (((((ix x0.Rows a0).Entry).Call).Args).length : Int))))) ?_ ?_
  ·intro S Q r
   cases a9 : (decide (20 < ((((ix x0.Rows a0).Entry).Keys).length : Int)))
   ·intro k
    have a3 := a9
    try simp only [qa] at a3
    obtain ⟨d0, c1, a2⟩ := bm.g_Rows r0
    refine ak rfl rfl (ck rfl c1) (ak rfl rfl (bt rfl (TR.cnt (tSl am.t) a2) (TR.agg (tSl am.t) a2)) (ak rfl rfl (au rfl) ?_))
    obtain ⟨d7, c0, b7⟩ := dk (i := a0) a2 (by first | omega | (have hk := bn (by assumption) (by assumption); omega) | (have hk := tck (by assumption) (by assumption); omega) | (have hk := rtck (by assumption) (by assumption); omega) | (have hk := eck (by assumption) (by assumption) (by assumption); omega) | (have hk := tv (by assumption) (by assumption); omega) | (have hk := rtv (by assumption) (by assumption); omega)) (by first | omega | (have hk := bn (by assumption) (by assumption); omega) | (have hk := tck (by assumption) (by assumption); omega) | (have hk := rtck (by assumption) (by assumption); omega) | (have hk := eck (by assumption) (by assumption) (by assumption); omega) | (have hk := tv (by assumption) (by assumption); omega) | (have hk := rtv (by assumption) (by assumption); omega))
    refine ak rfl rfl (bp rfl rfl c0) ?_
    obtain ⟨d9, b6, c3⟩ := am.g_Entry b7
    refine ak rfl rfl (ck rfl b6) ?_
    obtain ⟨d2, b8, c4⟩ := aw.g_Call c3
    refine ak rfl rfl (ck rfl b8) ?_
    obtain ⟨d4, b1, a1⟩ := bb.g_Args c4
    refine ak rfl rfl (ck rfl b1) (ak rfl rfl (bt rfl (TR.cnt (tSl nq) a1) (TR.agg (tSl nq) a1)) (ak rfl rfl (cw rfl (cg a1 Tryz.underlying33 _)) (ak rfl rfl (az rfl rfl ig) ?_)))
    exact gK rfl rfl rfl rfl rfl k
   ·exact gN 10 rfl rfl rfl rfl rfl rfl
  refine nS ?_
  refine dg hres rfl ?_ ?_ <;> clear hres <;> intro c hres <;> try simp only [qa] at c
  ·refine sR (mB rfl (nS ?_))
   exact rR hres rfl rfl rfl
  ·refine ay (dh (ai (af (mV rfl (bN fa rfl rfl (mV rfl (av (cx ?_))))))))
   have hbd := ee a7
   have hinc : wr (a0 + 1) = a0 + 1 := dm (by omega) (by omega)
   erw [hinc]
   exact wC (ih   (by omega) (by omega) hres) rfl

theorem dt4 {x0 : bm} {v0 : PV} (r0 : bm.t.R x0 v0) : FnR Tryz.prog 10 [v0] (vb (gc x0)) := by
 refine fnS (R := RF10) do2 (fun _ h => h) rfl fun res hres => ?_
 unfold gc at hres
 refine sR (ab (dz rfl (TR.cnt bm.t r0)) (mB rfl (nS (ah (sR ?_)))))
 obtain ⟨b7, b4, a8⟩ := bm.g_Program r0
 refine fA rfl b4 (lD a8 rfl rfl rfl ?_)
 obtain ⟨a0, a1, hres⟩ := dl hres
 have b0 := dq0  a8 
 rw [a1] at b0
 refine cL b0 rfl rfl (aq (TR.clo aa.t a8) bh) (mV rfl ?_)
 refine cp 5 (d := 12) (v := vb (a0 || (decide (30 < (x0.Rows.length : Int))))) ?_ ?_
 ·intro S Q r
  cases b1 : a0
  ·intro k
   have a3 := b1
   try simp only [qa] at a3
   obtain ⟨b6, b2, a4⟩ := bm.g_Rows r0
   refine ak rfl rfl (ck rfl b2) (ak rfl rfl (bt rfl (TR.cnt (tSl am.t) a4) (TR.agg (tSl am.t) a4)) (ak rfl rfl (cw rfl (cg a4 Tryz.underlying32 _)) (ak rfl rfl (az rfl rfl ig) ?_)))
   exact gK rfl rfl rfl rfl rfl k
  ·exact gN 4 rfl rfl rfl rfl rfl rfl
 refine mV rfl ?_
 refine cp 5 (d := 18) (v := vb ((a0 || (decide (30 < (x0.Rows.length : Int)))) || (decide (20 < (x0.Key.length : Int))))) ?_ ?_
 ·intro S Q r
  cases a9 : (a0 || (decide (30 < (x0.Rows.length : Int))))
  ·intro k
   have a6 := a9
   try simp only [qa] at a6
   obtain ⟨b5, b3, a7⟩ := bm.g_Key r0
   refine ak rfl rfl (ck rfl b3) (ak rfl rfl (bt rfl (TR.cnt (tSl nq) a7) (TR.agg (tSl nq) a7)) (ak rfl rfl (cw rfl (cg a7 Tryz.underlying33 _)) (ak rfl rfl (az rfl rfl ig) ?_)))
   exact gK rfl rfl rfl rfl rfl k
  ·exact gN 4 rfl rfl rfl rfl rfl rfl
 refine nS ?_
 refine dg hres rfl ?_ ?_ <;> clear hres <;> intro a2 hres <;> have a5 := a2 <;> try simp only [qa] at a5
 ·refine sR (mB rfl (nS ?_))
  exact rR hres rfl rfl rfl
 ·refine ay (ai (ah (sR (mI rfl (nS (bf ?_))))))
  refine wC (yk r0 a1 a2 ?_  rfl (by omega) hres) rfl
  ·intro  hres
   refine ft (ai (sR (mB rfl (nS ?_))))
   exact rR hres rfl rfl rfl

theorem bd9 : FnR Tryz.prog 11 [] (vb kj) := ec0

def RF118 (res : Bool) (r : PV) : Prop := r = vb res
theorem bl0 {x0 : UInt8} : FnR Tryz.prog 118 [vu8 x0] (vb (mu x0)) := by
 refine fnS (R := RF118) de4 (fun _ h => h) rfl fun res hres => ?_
 unfold mu at hres
 refine sR (mB rfl (nR (mV rfl (ab (az (a := vu8 x0) (b := vu8 (97 : UInt8)) rfl rfl as0) (mV rfl ?_)))))
 refine cp 3 (d := 8) (v := vb ((decide ((97 : UInt8) ≤ x0)) && (decide (x0 ≤ (122 : UInt8))))) ?_ ?_
 ·intro S Q r
  cases a4 : (decide ((97 : UInt8) ≤ x0))
  ·exact gN 2 rfl rfl rfl rfl rfl rfl
  ·intro k
   have a1 := a4
   try simp only [qa] at a1
   refine ak rfl rfl (au rfl) (ak rfl rfl (az (a := vu8 x0) (b := vu8 (122 : UInt8)) rfl rfl aq2) ?_)
   exact gK rfl rfl rfl rfl rfl k
 refine mV rfl ?_
 refine cp 7 (d := 16) (v := vb (((decide ((97 : UInt8) ≤ x0)) && (decide (x0 ≤ (122 : UInt8)))) || ((decide ((65 : UInt8) ≤ x0)) && (decide (x0 ≤ (90 : UInt8)))))) ?_ ?_
 ·intro S Q r
  cases a3 : ((decide ((97 : UInt8) ≤ x0)) && (decide (x0 ≤ (122 : UInt8))))
  ·intro k
   have a2 := a3
   try simp only [qa] at a2
   refine ak rfl rfl (au rfl) (ak rfl rfl (az (a := vu8 x0) (b := vu8 (65 : UInt8)) rfl rfl as0) (ak rfl rfl (au rfl) ?_))
   refine cp 3 (d := 15) (v := vb ((decide ((65 : UInt8) ≤ x0)) && (decide (x0 ≤ (90 : UInt8))))) ?_ ?_
   ·intro S Q r
    cases a5 : (decide ((65 : UInt8) ≤ x0))
    ·intro k
     refine aa9 rfl rfl (aa9 rfl rfl (ak (v := vb false) rfl rfl (yq rfl rfl rfl rfl) ?_))
     exact wD k rfl
    ·intro k
     have a0 := a5
     try simp only [qa] at a0
     refine ak rfl rfl (au rfl) (ak rfl rfl (az (a := vu8 x0) (b := vu8 (90 : UInt8)) rfl rfl aq2) (ak (v := vb (decide (x0 ≤ (90 : UInt8)))) rfl rfl (yq rfl rfl rfl rfl) ?_))
     exact wD k rfl
   exact gK rfl rfl rfl rfl rfl k
  ·exact gN 6 rfl rfl rfl rfl rfl rfl
 refine mV rfl (nS ?_)
 exact rR hres rfl rfl rfl

def RF119 (res : Bool) (r : PV) : Prop := r = vb res
theorem cx7 {x0 : UInt8} : FnR Tryz.prog 119 [vu8 x0] (vb (pw x0)) := by
 refine fnS (R := RF119) cy6 (fun _ h => h) rfl fun res hres => ?_
 unfold pw at hres
 refine sR (mB rfl (nR (mV rfl (ab (az (a := vu8 x0) (b := vu8 (48 : UInt8)) rfl rfl as0) (mV rfl ?_)))))
 refine cp 3 (d := 8) (v := vb ((decide ((48 : UInt8) ≤ x0)) && (decide (x0 ≤ (57 : UInt8))))) ?_ ?_
 ·intro S Q r
  cases a1 : (decide ((48 : UInt8) ≤ x0))
  ·exact gN 2 rfl rfl rfl rfl rfl rfl
  ·intro k
   have a0 := a1
   try simp only [qa] at a0
   refine ak rfl rfl (au rfl) (ak rfl rfl (az (a := vu8 x0) (b := vu8 (57 : UInt8)) rfl rfl aq2) ?_)
   exact gK rfl rfl rfl rfl rfl k
 refine mV rfl (nS ?_)
 exact rR hres rfl rfl rfl

def RF88 (res : Bool) (r : PV) : Prop := r = vb res
theorem vw {S : List Fr} {res : Bool} {x0 : List UInt8} (b0 : (((decide (x0 = ([] : List UInt8))) || (decide (16 < (x0.length : Int)))) || (!(mu (ix x0 0)))) = false) {K0 : Unit → Bool}
  (b3 : K0 () = res → PX Tryz.prog 0 S (QR Tryz.prog [(2, none)] (RF88 res)) [] ⟨0, []⟩) :
  ∀ {m : Nat} {a0 : Int} (b2 : m = Int.toNat ((x0.length : Int) - a0)) (a8 : 0 ≤ a0), im x0 K0 m a0 = res → RC Tryz.prog (.loop cv3) S (QR Tryz.prog [(2, none)] (RF88 res)) [(3, vi a0), (0, vs x0)] ⟨0, []⟩ := by
 have a2 := b0
 try simp only [qa] at a2
 intro m
 induction m with
 | zero =>
  intro a0 b2 a8 hres
  rw [im] at hres
  refine bw (ah (sR (mV rfl (mV rfl (ab (cw rfl (pf Tryz.underlying9)) (bN cy rfl rfl (nS ?_)))))))
  refine bc rfl ?_ ?_ <;> intro c <;> try simp only [qa] at c
  ·omega
  refine dt (fj (df ?_))
  exact wP (b3  hres) rfl
 | succ m ih =>
  intro a0 b2 a8 hres
  rw [im] at hres
  refine bw (ah (sR (mV rfl (mV rfl (ab (cw rfl (pf Tryz.underlying9)) (bN cy rfl rfl (nS ?_)))))))
  refine bc rfl ?_ ?_ <;> intro c <;> try simp only [qa] at c
  rotate_left
  ·omega
  refine ay (ai (ah (bf (sR (mV rfl (mV rfl (ab (qw rfl rfl (xd Tryz.underlying9 (by first | omega | (have hp := List.length_pos_iff.2 (And.left (by assumption : ¬x0 = [] ∧ _)); omega)) (by first | omega | (have hp := List.length_pos_iff.2 (And.left (by assumption : ¬x0 = [] ∧ _)); omega)))) ?_)))))))
  obtain ⟨a1, a5, hres⟩ := dl hres
  have a6 := bl0 (x0 := (ix x0 a0))  
  rw [a5] at a6
  refine cL a6 rfl rfl (aq rfl bh) (ab (jy rfl) (mV rfl ?_))
  refine cp 6 (d := 34) (v := vb ((!a1) && (!(pw (ix x0 a0))))) ?_ ?_
  ·intro S Q r
   cases a7 : (!a1)
   ·exact gN 5 rfl rfl rfl rfl rfl rfl
   ·intro k
    have a4 := a7
    try simp only [qa] at a4
    refine ak rfl rfl (au rfl) (ak rfl rfl (au rfl) (ak rfl rfl (qw rfl rfl (xd Tryz.underlying9 (by first | omega | (have hp := List.length_pos_iff.2 (And.left (by assumption : ¬x0 = [] ∧ _)); omega)) (by first | omega | (have hp := List.length_pos_iff.2 (And.left (by assumption : ¬x0 = [] ∧ _)); omega)))) ?_))
    have b1 := cx7 (x0 := (ix x0 a0))  
    refine mq rfl rfl (vd rfl rfl (aq rfl bh) b1) (ak rfl rfl (jy rfl) ?_)
    exact gK rfl rfl rfl rfl rfl k
  refine mV rfl ?_
  refine cp 5 (d := 40) (v := vb (((!a1) && (!(pw (ix x0 a0)))) && (!decide ((ix x0 a0) = (95 : UInt8))))) ?_ ?_
  ·intro S Q r
   cases a9 : ((!a1) && (!(pw (ix x0 a0))))
   ·exact gN 4 rfl rfl rfl rfl rfl rfl
   ·intro k
    have a3 := a9
    try simp only [qa] at a3
    refine ak rfl rfl (au rfl) (ak rfl rfl (au rfl) (ak rfl rfl (qw rfl rfl (xd Tryz.underlying9 (by first | omega | (have hp := List.length_pos_iff.2 (And.left (by assumption : ¬x0 = [] ∧ _)); omega)) (by first | omega | (have hp := List.length_pos_iff.2 (And.left (by assumption : ¬x0 = [] ∧ _)); omega)))) (ak rfl rfl (az (a := vu8 (ix x0 a0)) (b := vu8 (95 : UInt8)) rfl rfl ef7) ?_)))
    exact gK rfl rfl rfl rfl rfl k
  refine nS ?_
  refine dg hres rfl ?_ ?_ <;> clear hres <;> intro c hres <;> try simp only [qa] at c
  ·refine sR (mB rfl (nS ?_))
   exact rR hres rfl rfl rfl
  ·refine ay (dh (ai (af (mV rfl (bN fa rfl rfl (mV rfl (av (cx ?_))))))))
   have hinc : wr (a0 + 1) = a0 + 1 := dm (by omega) (by omega)
   erw [hinc]
   exact wC (ih   (by omega) (by omega) hres) rfl

theorem dq8 {x0 : List UInt8} : FnR Tryz.prog 88 [vs x0] (vb (mf x0)) := by
 refine fnS (R := RF88) dj6 (fun _ h => h) rfl fun res hres => ?_
 unfold mf at hres
 refine sR (mB rfl (nS (ah (sR (mV rfl (ab (az (a := vs x0) (b := vs ([] : List UInt8)) rfl rfl df2) (mV rfl ?_)))))))
 refine cp 4 (d := 10) (v := vb ((decide (x0 = ([] : List UInt8))) || (decide (16 < (x0.length : Int))))) ?_ ?_
 ·intro S Q r
  cases a5 : (decide (x0 = ([] : List UInt8)))
  ·intro k
   have a3 := a5
   try simp only [qa] at a3
   refine ak rfl rfl (au rfl) (ak rfl rfl (cw rfl (pf Tryz.underlying9)) (ak rfl rfl (az rfl rfl ig) ?_))
   exact gK rfl rfl rfl rfl rfl k
  ·exact gN 3 rfl rfl rfl rfl rfl rfl
 refine mV rfl ?_
 refine cp 5 (d := 16) (v := vb (((decide (x0 = ([] : List UInt8))) || (decide (16 < (x0.length : Int)))) || (!(mu (ix x0 0))))) ?_ ?_
 ·intro S Q r
  cases a4 : ((decide (x0 = ([] : List UInt8))) || (decide (16 < (x0.length : Int))))
  ·intro k
   have a1 := a4
   try simp only [qa] at a1
   refine ak rfl rfl (au rfl) (ak rfl rfl (qw rfl rfl (xd (i := 0) Tryz.underlying9 (by first | omega | (have hp := List.length_pos_iff.2 (And.left (by assumption : ¬x0 = [] ∧ _)); omega)) (by first | omega | (have hp := List.length_pos_iff.2 (And.left (by assumption : ¬x0 = [] ∧ _)); omega)))) ?_)
   have a6 := bl0 (x0 := (ix x0 0))  
   refine mq rfl rfl (vd rfl rfl (aq rfl bh) a6) (ak rfl rfl (jy rfl) ?_)
   exact gK rfl rfl rfl rfl rfl k
  ·exact gN 4 rfl rfl rfl rfl rfl rfl
 refine nS ?_
 refine dg hres rfl ?_ ?_ <;> clear hres <;> intro a0 hres <;> have a2 := a0 <;> try simp only [qa] at a2
 ·refine sR (mB rfl (nS ?_))
  exact rR hres rfl rfl rfl
 ·refine ay (ai (ah (sR (mI rfl (nS (bf ?_))))))
  refine wC (vw a0 ?_  rfl (by omega) hres) rfl
  ·intro  hres
   refine ft (ai (sR (mB rfl (nS ?_))))
   exact rR hres rfl rfl rfl

def RF62 (res : Int) (r : PV) : Prop := r = vi res
theorem co2 {x0 : aa} {x1 : cm} {v0 v1 : PV} (r0 : aa.t.R x0 v0) (r1 : cm.t.R x1 v1) : FnR Tryz.prog 62 [v0, v1] (vi (iv x0 x1)) := by
 refine fnS (R := RF62) dx2 (fun _ h => h) rfl fun res hres => ?_
 unfold iv at hres
 refine sR (ab (dz rfl (TR.cnt aa.t r0)) (ab (dz rfl (TR.cnt cm.t r1)) (mI rfl (nR ?_))))
 obtain ⟨d2, c4, b2⟩ := aa.g_Metadata r0
 refine fA rfl c4 (lD b2 rfl rfl rfl (mV rfl (nS (ah (sR (fL rfl (cm.g_Header r1) rfl rfl (bN sw rfl rfl (nS ?_))))))))
 obtain ⟨b6, a9, hres⟩ := dl hres
 refine vc (F := fun b S Q => ∀ (a0 : List bz) (a2 : PV) (a1 : (tSl bz.t).R a0 a2), b6 a0 = res → RC Tryz.prog b S Q [(5, a2), (3, .fp v1)] ⟨0, []⟩) ?_ ?_
 ·intro a0 a2 a1  hres
  rw [← a9] at hres
  refine ah (sR (fL rfl (cm.g_Header r1) rfl rfl (bN (cy (b := -1)) rfl rfl (mV rfl ?_))))
  refine cp 4 (d := 31) (v := vb ((decide (x1.Header < (-1))) || (decide (x1.Field < 0)))) ?_ ?_
  ·intro S Q r
   cases a7 : (decide (x1.Header < (-1)))
   ·intro k
    have a5 := a7
    try simp only [qa] at a5
    refine ak rfl rfl (ck rfl (cm.g_Field r1)) (ak rfl rfl (bt rfl rfl rfl) (ak rfl rfl (az rfl rfl cy) ?_))
    exact gK rfl rfl rfl rfl rfl k
   ·exact gN 3 rfl rfl rfl rfl rfl rfl
  refine mV rfl ?_
  refine cp 6 (d := 38) (v := vb (((decide (x1.Header < (-1))) || (decide (x1.Field < 0))) || (decide ((a0.length : Int) ≤ x1.Field)))) ?_ ?_
  ·intro S Q r
   cases b0 : ((decide (x1.Header < (-1))) || (decide (x1.Field < 0)))
   ·intro k
    have a3 := b0
    try simp only [qa] at a3
    refine ak rfl rfl (ck rfl (cm.g_Field r1)) (ak rfl rfl (bt rfl rfl rfl) (ak rfl rfl (au rfl) (ak rfl rfl (cw rfl (cg a1 Tryz.underlying23 _)) (ak rfl rfl (az rfl rfl sw) ?_))))
    exact gK rfl rfl rfl rfl rfl k
   ·exact gN 5 rfl rfl rfl rfl rfl rfl
  refine mV rfl ?_
  refine cp 8 (d := 47) (v := vb ((((decide (x1.Header < (-1))) || (decide (x1.Field < 0))) || (decide ((a0.length : Int) ≤ x1.Field))) || (decide (((ix a0 x1.Field).Width) < 1)))) ?_ ?_
  ·intro S Q r
   cases a8 : (((decide (x1.Header < (-1))) || (decide (x1.Field < 0))) || (decide ((a0.length : Int) ≤ x1.Field)))
   ·intro k
    have a6 := a8
    try simp only [qa] at a6
    refine ak rfl rfl (au rfl) (ak rfl rfl (ck rfl (cm.g_Field r1)) (ak rfl rfl (bt rfl rfl rfl) ?_))
    obtain ⟨c7, c0, c6⟩ := dk (i := x1.Field) a1 (by first | omega | (have hk := bn (by assumption) (by assumption); omega) | (have hk := tck (by assumption) (by assumption); omega) | (have hk := rtck (by assumption) (by assumption); omega) | (have hk := eck (by assumption) (by assumption) (by assumption); omega) | (have hk := tv (by assumption) (by assumption); omega) | (have hk := rtv (by assumption) (by assumption); omega)) (by first | omega | (have hk := bn (by assumption) (by assumption); omega) | (have hk := tck (by assumption) (by assumption); omega) | (have hk := rtck (by assumption) (by assumption); omega) | (have hk := eck (by assumption) (by assumption) (by assumption); omega) | (have hk := tv (by assumption) (by assumption); omega) | (have hk := rtv (by assumption) (by assumption); omega))
    refine ak rfl rfl (bp rfl rfl c0) (ak rfl rfl (ck rfl (bz.g_Width c6)) (ak rfl rfl (bt rfl rfl rfl) (ak rfl rfl (az rfl rfl cy) ?_)))
    exact gK rfl rfl rfl rfl rfl k
   ·exact gN 7 rfl rfl rfl rfl rfl rfl
  refine mV rfl ?_
  refine cp 8 (d := 56) (v := vb (((((decide (x1.Header < (-1))) || (decide (x1.Field < 0))) || (decide ((a0.length : Int) ≤ x1.Field))) || (decide (((ix a0 x1.Field).Width) < 1))) || (decide (32 < ((ix a0 x1.Field).Width))))) ?_ ?_
  ·intro S Q r
   cases b1 : ((((decide (x1.Header < (-1))) || (decide (x1.Field < 0))) || (decide ((a0.length : Int) ≤ x1.Field))) || (decide (((ix a0 x1.Field).Width) < 1)))
   ·intro k
    have a4 := b1
    try simp only [qa] at a4
    refine ak rfl rfl (au rfl) (ak rfl rfl (ck rfl (cm.g_Field r1)) (ak rfl rfl (bt rfl rfl rfl) ?_))
    obtain ⟨d4, b7, b8⟩ := dk (i := x1.Field) a1 (by first | omega | (have hk := bn (by assumption) (by assumption); omega) | (have hk := tck (by assumption) (by assumption); omega) | (have hk := rtck (by assumption) (by assumption); omega) | (have hk := eck (by assumption) (by assumption) (by assumption); omega) | (have hk := tv (by assumption) (by assumption); omega) | (have hk := rtv (by assumption) (by assumption); omega)) (by first | omega | (have hk := bn (by assumption) (by assumption); omega) | (have hk := tck (by assumption) (by assumption); omega) | (have hk := rtck (by assumption) (by assumption); omega) | (have hk := eck (by assumption) (by assumption) (by assumption); omega) | (have hk := tv (by assumption) (by assumption); omega) | (have hk := rtv (by assumption) (by assumption); omega))
    refine ak rfl rfl (bp rfl rfl b7) (ak rfl rfl (ck rfl (bz.g_Width b8)) (ak rfl rfl (bt rfl rfl rfl) (ak rfl rfl (az rfl rfl ig) ?_)))
    exact gK rfl rfl rfl rfl rfl k
   ·exact gN 7 rfl rfl rfl rfl rfl rfl
  refine nS ?_
  refine dg hres rfl ?_ ?_ <;> clear hres <;> intro c hres <;> try simp only [qa] at c
  ·refine sR (mI rfl (nS ?_))
   exact rR hres rfl rfl rfl
  ·refine ay (ai (sR (mV rfl (fL rfl (cm.g_Field r1) rfl rfl ?_))))
   obtain ⟨c8, c3, b9⟩ := dk (i := x1.Field) a1 (by first | omega | (have hk := bn (by assumption) (by assumption); omega) | (have hk := tck (by assumption) (by assumption); omega) | (have hk := rtck (by assumption) (by assumption); omega) | (have hk := eck (by assumption) (by assumption) (by assumption); omega) | (have hk := tv (by assumption) (by assumption); omega) | (have hk := rtv (by assumption) (by assumption); omega)) (by first | omega | (have hk := bn (by assumption) (by assumption); omega) | (have hk := tck (by assumption) (by assumption); omega) | (have hk := rtck (by assumption) (by assumption); omega) | (have hk := eck (by assumption) (by assumption) (by assumption); omega) | (have hk := tv (by assumption) (by assumption); omega) | (have hk := rtv (by assumption) (by assumption); omega))
   refine ab (bp rfl rfl c3) (fL rfl (bz.g_Width b9) rfl rfl (mV rfl (nS ?_)))
   exact rR hres rfl rfl rfl
 ·intro J
  refine dg hres rfl ?_ ?_ <;> clear hres <;> intro c hres <;> try simp only [qa] at c
  ·refine ah (sR (fL rfl (cm.g_Header r1) rfl rfl (gL (aa.g_Headers r0) rfl rfl rfl fun d3 c1 => (ab (cw rfl (cg c1 Tryz.underlying22 _)) (bN sw rfl rfl (nS ?_))))))
   refine dg hres rfl ?_ ?_ <;> clear hres <;> intro c hres <;> try simp only [qa] at c
   ·refine sR (mI rfl (nS ?_))
    exact rR hres rfl rfl rfl
   ·refine ay (ai (af (gL (aa.g_Headers r0) rfl rfl rfl fun c9 c5 => (fL rfl (cm.g_Header r1) rfl rfl ?_))))
    obtain ⟨d1, b5, b3⟩ := dk (i := x1.Header) c5 (by first | omega | (have hk := bn (by assumption) (by assumption); omega) | (have hk := tck (by assumption) (by assumption); omega) | (have hk := rtck (by assumption) (by assumption); omega) | (have hk := eck (by assumption) (by assumption) (by assumption); omega) | (have hk := tv (by assumption) (by assumption); omega) | (have hk := rtv (by assumption) (by assumption); omega)) (by first | omega | (have hk := bn (by assumption) (by assumption); omega) | (have hk := tck (by assumption) (by assumption); omega) | (have hk := rtck (by assumption) (by assumption); omega) | (have hk := eck (by assumption) (by assumption) (by assumption); omega) | (have hk := tv (by assumption) (by assumption); omega) | (have hk := rtv (by assumption) (by assumption); omega))
    refine ab (bp rfl rfl b5) (gL (ct.g_Fields b3) rfl rfl rfl fun d0 b4 => (mV rfl (av ?_)))
    refine ai (wC (J _ _ b4  hres) rfl)
  ·refine ay ?_
   refine ai (wC (J _ _ b2  hres) rfl)

def RF89 (res : Int × Int) (r : PV) : Prop := r = .tup [vi res.1, vi res.2]
theorem ae7 {S : List Fr} {res : Int × Int} {x0 : aa} {x1 : ax} {v0 v1 : PV} (r0 : aa.t.R x0 v0) (r1 : ax.t.R x1 v1) {K0 : Int → Int → (Int × Int)}
  (c8 : ∀ {a4 a1 : Int}, K0 a4 a1 = res → PX Tryz.prog 0 S (QR Tryz.prog [(4, none), (5, none)] (RF89 res)) [(6, vi a4), (7, vi a1)] ⟨0, []⟩) :
  ∀ {m : Nat} {a4 a1 a0 : Int} (b9 : m = Int.toNat ((x1.Keys.length : Int) - a0)) (a9 : 0 ≤ a0), jz x0 x1 K0 m a4 a1 a0 = res → RC Tryz.prog (.loop da1) S (QR Tryz.prog [(4, none), (5, none)] (RF89 res)) [(8, vi a0), (7, vi a1), (6, vi a4), (3, .fp v1), (2, .fp v0)] ⟨0, []⟩ := by
 intro m
 induction m with
 | zero =>
  intro a4 a1 a0 b9 a9 hres
  rw [jz] at hres
  refine bw (ah (sR (mV rfl (gL (ax.g_Keys r1) rfl rfl rfl fun c6 b8 => (ab (cw rfl (cg b8 Tryz.underlying85 _)) (bN cy rfl rfl (nS ?_)))))))
  refine bc rfl ?_ ?_ <;> intro c <;> try simp only [qa] at c
  ·omega
  refine dt (fj (df ?_))
  exact wP (c8  hres) rfl
 | succ m ih =>
  intro a4 a1 a0 b9 a9 hres
  rw [jz] at hres
  refine bw (ah (sR (mV rfl (gL (ax.g_Keys r1) rfl rfl rfl fun c1 a5 => (ab (cw rfl (cg a5 Tryz.underlying85 _)) (bN cy rfl rfl (nS ?_)))))))
  refine bc rfl ?_ ?_ <;> intro c <;> try simp only [qa] at c
  rotate_left
  ·omega
  refine ay (ai (ah (bf (sR (lD r0 rfl rfl rfl (gL (ax.g_Keys r1) rfl rfl rfl fun c5 b6 => (mV rfl ?_)))))))
  obtain ⟨c3, b4, b7⟩ := dk (i := a0) b6 (by first | omega | (have hk := bn (by assumption) (by assumption); omega) | (have hk := tck (by assumption) (by assumption); omega) | (have hk := rtck (by assumption) (by assumption); omega) | (have hk := eck (by assumption) (by assumption) (by assumption); omega) | (have hk := tv (by assumption) (by assumption); omega) | (have hk := rtv (by assumption) (by assumption); omega)) (by first | omega | (have hk := bn (by assumption) (by assumption); omega) | (have hk := tck (by assumption) (by assumption); omega) | (have hk := rtck (by assumption) (by assumption); omega) | (have hk := eck (by assumption) (by assumption) (by assumption); omega) | (have hk := tv (by assumption) (by assumption); omega) | (have hk := rtv (by assumption) (by assumption); omega))
  refine ab (bp rfl rfl b4) (gL (bg.g_Field b7) rfl rfl rfl fun c4 a6 => ?_)
  obtain ⟨c0, a8, hres⟩ := dl hres
  have b1 := co2  r0 a6 
  rw [a8] at b1
  refine cL b1 rfl rfl (aq (TR.clo aa.t r0) (aq (TR.clo cm.t a6) bh)) (mV rfl (nR (gL (ax.g_Keys r1) rfl rfl rfl fun c9 b3 => (mV rfl ?_))))
  obtain ⟨c7, b2, b5⟩ := dk (i := a0) b3 (by first | omega | (have hk := bn (by assumption) (by assumption); omega) | (have hk := tck (by assumption) (by assumption); omega) | (have hk := rtck (by assumption) (by assumption); omega) | (have hk := eck (by assumption) (by assumption) (by assumption); omega) | (have hk := tv (by assumption) (by assumption); omega) | (have hk := rtv (by assumption) (by assumption); omega)) (by first | omega | (have hk := bn (by assumption) (by assumption); omega) | (have hk := tck (by assumption) (by assumption); omega) | (have hk := rtck (by assumption) (by assumption); omega) | (have hk := eck (by assumption) (by assumption) (by assumption); omega) | (have hk := tv (by assumption) (by assumption); omega) | (have hk := rtv (by assumption) (by assumption); omega))
  refine ab (bp rfl rfl b2) (fL rfl (bg.g_Kind b5) rfl rfl (mV rfl (nS (ah (bf (sR (mV rfl (bN nd rfl rfl ?_))))))))
  refine mV rfl (nS ?_)
  refine dg hres rfl ?_ ?_ <;> clear hres <;> intro c hres <;> try simp only [qa] at c
  ·refine sR (mV rfl (mV rfl (mI rfl (nS ?_))))
   exact rT hres rfl rfl rfl rfl rfl
  ·refine sR (mV rfl (bN nf rfl rfl (mV rfl ?_)))
   refine cp 3 (d := 42) (v := vb ((!decide (((ix x1.Keys a0).Kind) = 1)) && (!decide (((ix x1.Keys a0).Kind) = 2)))) ?_ ?_
   ·intro S Q r
    cases a7 : (!decide (((ix x1.Keys a0).Kind) = 1))
    ·exact gN 2 rfl rfl rfl rfl rfl rfl
    ·intro k
     have a3 := a7
     try simp only [qa] at a3
     refine ak rfl rfl (au rfl) (ak rfl rfl (az rfl rfl nf) ?_)
     exact gK rfl rfl rfl rfl rfl k
   refine mV rfl ?_
   refine cp 3 (d := 46) (v := vb (((!decide (((ix x1.Keys a0).Kind) = 1)) && (!decide (((ix x1.Keys a0).Kind) = 2))) && (!decide (((ix x1.Keys a0).Kind) = 3)))) ?_ ?_
   ·intro S Q r
    cases b0 : ((!decide (((ix x1.Keys a0).Kind) = 1)) && (!decide (((ix x1.Keys a0).Kind) = 2)))
    ·exact gN 2 rfl rfl rfl rfl rfl rfl
    ·intro k
     have a2 := b0
     try simp only [qa] at a2
     refine ak rfl rfl (au rfl) (ak rfl rfl (az rfl rfl nf) ?_)
     exact gK rfl rfl rfl rfl rfl k
   refine mV rfl (nS ?_)
   refine dg hres rfl ?_ ?_ <;> clear hres <;> intro c hres <;> try simp only [qa] at c
   ·refine sR (mV rfl (mV rfl (mI rfl (nS ?_))))
    exact rT hres rfl rfl rfl rfl rfl
   ·refine sR (mV rfl (bN nd rfl rfl (mV rfl (nS ?_))))
    refine dg hres rfl ?_ ?_ <;> clear hres <;> intro c hres <;> try simp only [qa] at c
    ·refine af (mV rfl (bN fa rfl rfl (mV rfl (av (dh (ai (af (mV rfl ?_))))))))
     refine mV rfl (bN fa rfl rfl (mV rfl (av (dh (ai (af (mV rfl (bN fa rfl rfl ?_))))))))
     refine mV rfl (av (cx ?_))
     have hbd := ee a5
     have hinc : wr (a0 + 1) = a0 + 1 := dm (by omega) (by omega)
     erw [hinc]
     exact wC (ih   (by omega) (by omega) hres) rfl
    ·refine ay (dh (ai (af (mV rfl (mV rfl (bN fa rfl rfl (mV rfl (av ?_))))))))
     refine dh (ai (af (mV rfl (bN fa rfl rfl (mV rfl (av (cx ?_)))))))
     have hbd := ee a5
     have hinc : wr (a0 + 1) = a0 + 1 := dm (by omega) (by omega)
     erw [hinc]
     exact wC (ih   (by omega) (by omega) hres) rfl

theorem dl8 {x0 : aa} {x1 : ax} {v0 v1 : PV} (r0 : aa.t.R x0 v0) (r1 : ax.t.R x1 v1) : FnR Tryz.prog 89 [v0, v1] (.tup [vi ((qp x0 x1).1), vi ((qp x0 x1).2)]) := by
 refine fnS (R := RF89) dx0 (fun _ h => h) rfl fun res hres => ?_
 unfold qp at hres
 refine sR (ab (dz rfl (TR.cnt aa.t r0)) (ab (dz rfl (TR.cnt ax.t r1)) (mI rfl (mI rfl (nR (mI rfl (nR (mI rfl ?_))))))))
 refine nS (ah (sR (mI rfl (nS (bf ?_)))))
 refine wC (ae7 r0 r1 ?_  rfl (by omega) hres) rfl
 ·intro a1 a0 hres
  refine ft (ai (ah (bf (sR (mV rfl (bN ig rfl rfl (mV rfl (nS ?_))))))))
  refine dg hres rfl ?_ ?_ <;> clear hres <;> intro c hres <;> try simp only [qa] at c
  ·refine sR (mI rfl (mI rfl (nS ?_)))
   exact rT hres rfl rfl rfl rfl rfl
  ·refine sR (mV rfl (bN ig rfl rfl (mV rfl (nS ?_))))
   refine dg hres rfl ?_ ?_ <;> clear hres <;> intro c hres <;> try simp only [qa] at c
   ·refine sR (mI rfl (mI rfl (nS ?_)))
    exact rT hres rfl rfl rfl rfl rfl
   ·refine ay (dh (ai (sR (mI rfl (mI rfl (nS ?_))))))
    exact rT hres rfl rfl rfl rfl rfl

def RF120 (res : Int) (r : PV) : Prop := r = vi res
theorem ac1 {S : List Fr} {res : Int} {x0 : List Int} {x1 : Int} {v0 : PV} (r0 : (tSl tI).R x0 v0) {K0 : Unit → Int}
  (a3 : K0 () = res → PX Tryz.prog 0 S (QR Tryz.prog [(4, none)] (RF120 res)) [] ⟨0, []⟩) :
  ∀ {m : Nat} {a0 : Int} (a2 : m = Int.toNat ((x0.length : Int) - a0)) (a1 : 0 ≤ a0), iw x0 x1 K0 m a0 = res → RC Tryz.prog (.loop bx8) S (QR Tryz.prog [(4, none)] (RF120 res)) [(5, vi a0), (1, vi x1), (0, v0)] ⟨0, []⟩ := by
 intro m
 induction m with
 | zero =>
  intro a0 a2 a1 hres
  rw [iw] at hres
  refine bw (ah (sR (mV rfl (mV rfl (ab (cw rfl (cg r0 Tryz.underlying29 _)) (bN cy rfl rfl (nS ?_)))))))
  refine bc rfl ?_ ?_ <;> intro c <;> try simp only [qa] at c
  ·omega
  refine dt (fj (df ?_))
  exact wP (a3  hres) rfl
 | succ m ih =>
  intro a0 a2 a1 hres
  rw [iw] at hres
  refine bw (ah (sR (mV rfl (mV rfl (ab (cw rfl (cg r0 Tryz.underlying29 _)) (bN cy rfl rfl (nS ?_)))))))
  refine bc rfl ?_ ?_ <;> intro c <;> try simp only [qa] at c
  rotate_left
  ·omega
  refine ay (ai (ah (bf (sR (mV rfl (mV rfl (ab (bp rfl rfl (slI r0 (by first | omega | (have hk := bn (by assumption) (by assumption); omega) | (have hk := tck (by assumption) (by assumption); omega) | (have hk := rtck (by assumption) (by assumption); omega) | (have hk := eck (by assumption) (by assumption) (by assumption); omega) | (have hk := tv (by assumption) (by assumption); omega) | (have hk := rtv (by assumption) (by assumption); omega)) (by first | omega | (have hk := bn (by assumption) (by assumption); omega) | (have hk := tck (by assumption) (by assumption); omega) | (have hk := rtck (by assumption) (by assumption); omega) | (have hk := eck (by assumption) (by assumption) (by assumption); omega) | (have hk := tv (by assumption) (by assumption); omega) | (have hk := rtv (by assumption) (by assumption); omega)))) (lR rfl rfl rfl ?_))))))))
  refine mV rfl (bN nd rfl rfl (nS ?_))
  refine dg hres rfl ?_ ?_ <;> clear hres <;> intro c hres <;> try simp only [qa] at c
  ·refine sR (mV rfl (mV rfl (nS ?_)))
   exact rR hres rfl rfl rfl
  ·refine ay (dh (ai (af (mV rfl (bN fa rfl rfl (mV rfl (av (cx ?_))))))))
   have hbd := ee r0
   have hinc : wr (a0 + 1) = a0 + 1 := dm (by omega) (by omega)
   erw [hinc]
   exact wC (ih   (by omega) (by omega) hres) rfl

theorem bk1 {x0 : List Int} {x1 : Int} {v0 : PV} (r0 : (tSl tI).R x0 v0) : FnR Tryz.prog 120 [v0, vi x1] (vi (ik x0 x1)) := by
 refine fnS (R := RF120) cs4 (fun _ h => h) rfl fun res hres => ?_
 unfold ik at hres
 refine sR (mI rfl (nS (ah (sR (mI rfl (nS (bf ?_)))))))
 refine wC (ac1 r0 ?_  rfl (by omega) hres) rfl
 ·intro  hres
  refine ft (ai (sR (mI rfl (nS ?_))))
  exact rR hres rfl rfl rfl

def RF145 (res : Bool) (r : PV) : Prop := r = vb res
theorem db5 {x0 : Int} : FnR Tryz.prog 145 [vi x0] (vb (ie x0)) := by
 refine fnS (R := RF145) cr8 (fun _ h => h) rfl fun res hres => ?_
 unfold ie at hres
 refine sR (mB rfl (nR (mV rfl (bN sw rfl rfl (mV rfl ?_)))))
 refine cp 3 (d := 8) (v := vb ((decide (1 ≤ x0)) && (decide (x0 ≤ 32)))) ?_ ?_
 ·intro S Q r
  cases a1 : (decide (1 ≤ x0))
  ·exact gN 2 rfl rfl rfl rfl rfl rfl
  ·intro k
   have a0 := a1
   try simp only [qa] at a0
   refine ak rfl rfl (au rfl) (ak rfl rfl (az rfl rfl cc8) ?_)
   exact gK rfl rfl rfl rfl rfl k
 refine mV rfl (nS ?_)
 exact rR hres rfl rfl rfl

def RF147 (res : (BitVec 64)) (r : PV) : Prop := r = cj res
theorem ac7 {S : List Fr} {res : (BitVec 64)} {x0 : Int} (hn : x0 ≤ 64) {K0 : (BitVec 64) → (BitVec 64)}
  (a4 : ∀ {a0 : BitVec 64}, K0 a0 = res → PX Tryz.prog 0 S (QR Tryz.prog [(2, none)] (RF147 res)) [(3, cj a0)] ⟨0, []⟩) :
  ∀ {m : Nat} {a0 : BitVec 64} {a1 : Int} (a3 : m = Int.toNat (x0 - a1)) (a2 : 0 ≤ a1), pj K0 m a0 a1 = res → RC Tryz.prog (.loop ca9) S (QR Tryz.prog [(2, none)] (RF147 res)) [(4, vi a1), (3, cj a0), (0, vi x0)] ⟨0, []⟩ := by
 intro m
 induction m with
 | zero =>
  intro a0 a1 a3 a2 hres
  rw [pj] at hres
  refine bw (ah (sR (mV rfl (mV rfl (bN cy rfl rfl (nS ?_))))))
  refine bc rfl ?_ ?_ <;> intro c <;> try simp only [qa] at c
  ·omega
  refine dt (fj (df ?_))
  exact wP (a4  hres) rfl
 | succ m ih =>
  intro a0 a1 a3 a2 hres
  rw [pj] at hres
  refine bw (ah (sR (mV rfl (mV rfl (bN cy rfl rfl (nS ?_))))))
  refine bc rfl ?_ ?_ <;> intro c <;> try simp only [qa] at c
  rotate_left
  ·omega
  refine ay (ai (ah (bf (af (mV rfl (ab (az (a := cj 2#64) (b := cj a0) rfl rfl ek8) (mV rfl (av ?_))))))))
  refine dh (ai (af (mV rfl (bN fa rfl rfl (mV rfl (av (cx ?_)))))))
  have hinc : wr (a1 + 1) = a1 + 1 := dm (by omega) (by omega)
  erw [hinc]
  exact wC (ih   (by omega) (by omega) hres) rfl

theorem cz7 {x0 : Int} (hn : x0 ≤ 64) : FnR Tryz.prog 147 [vi x0] (cj (ll x0)) := by
 refine fnS (R := RF147) cv5 (fun _ h => h) rfl fun res hres => ?_
 unfold ll at hres
 refine sR (ab (v := cj 0#64) (au rfl) (nR (ab (v := cj 1#64) (au rfl) (nS (ah (sR (mI rfl (nS ?_))))))))
 refine bf ?_
 refine wC (ac7 hn ?_  rfl (by omega) hres) rfl
 ·intro a0 hres
  refine ft (ai (sR (mV rfl (mV rfl (nS ?_)))))
  exact rR hres rfl rfl rfl

def RF122 (res : Bool) (r : PV) : Prop := r = vb res
theorem db0 {x0 : BitVec 32} {x1 : Int} : FnR Tryz.prog 122 [fb x0, vi x1] (vb (md x0 x1)) := by
 refine fnS (R := RF122) da6 (fun _ h => h) rfl fun res hres => ?_
 unfold md at hres
 refine sR (mB rfl (nR (mV rfl ?_)))
 obtain ⟨a4, a3, hres⟩ := dl hres
 have a2 := db5 (x0 := x1)  
 rw [a3] at a2
 refine cL a2 rfl rfl (aq rfl bh) (mV rfl ?_)
 refine cp 6 (d := 13) (v := vb (a4 && (decide ((BitVec.setWidth 64 x0) < (ll x1))))) ?_ ?_
 ·intro S Q r
  cases a1 : a4
  ·exact gN 5 rfl rfl rfl rfl rfl rfl
  ·intro k
   have a0 := a1
   try simp only [qa] at a0
   refine ak rfl rfl (au rfl) (ak rfl rfl (tf (a := fb x0) rfl (c_wd Tryz.underlying64 Tryz.underlying97)) (ak rfl rfl (au rfl) ?_))
   have a5 := cz7 (x0 := x1)  (by first | assumption | omega | (have := rv (by assumption) (by assumption); omega) | (rw [dm (by omega) (by omega)]; omega) | (simp only [List.length_cons, List.length_nil]; omega))
   refine mq rfl rfl (vd rfl rfl (aq rfl bh) a5) (ak rfl rfl (az (a := cj (BitVec.setWidth 64 x0)) (b := cj (ll x1)) rfl rfl eg2) ?_)
   exact gK rfl rfl rfl rfl rfl k
 refine mV rfl (nS ?_)
 exact rR hres rfl rfl rfl

def RF94 (res : Int) (r : PV) : Prop := r = vi res
theorem xr {S : List Fr} {res : Int} {x0 : aa} {x1 : bb} {v1 a4 : PV} (r1 : bb.t.R x1 v1) (a6 : ((decide (x1.Action < 0)) || (decide ((x0.Actions.length : Int) ≤ x1.Action))) = false) (a1 : (tSl bz.t).R ((ix x0.Actions x1.Action).Params) a4) (a5 : (!decide ((x1.Args.length : Int) = (((ix x0.Actions x1.Action).Params).length : Int))) = false) {K0 : Unit → Int}
  (b6 : K0 () = res → PX Tryz.prog 0 S (QR Tryz.prog [(4, none)] (RF94 res)) [] ⟨0, []⟩) :
  ∀ {m : Nat} {a0 : Int} (b3 : m = Int.toNat ((((ix x0.Actions x1.Action).Params).length : Int) - a0)) (a7 : 0 ≤ a0), jr x0 x1 K0 m a0 = res → RC Tryz.prog (.loop cs0) S (QR Tryz.prog [(4, none)] (RF94 res)) [(6, vi a0), (5, a4), (3, .fp v1)] ⟨0, []⟩ := by
 have a2 := a6
 try simp only [qa] at a2
 have a3 := a5
 try simp only [qa] at a3
 intro m
 induction m with
 | zero =>
  intro a0 b3 a7 hres
  rw [jr] at hres
  refine bw (ah (sR (mV rfl (mV rfl (ab (cw rfl (cg a1 Tryz.underlying23 _)) (bN cy rfl rfl (nS ?_)))))))
  refine bc rfl ?_ ?_ <;> intro c <;> try simp only [qa] at c
  ·omega
  refine dt (fj (df ?_))
  exact wP (b6  hres) rfl
 | succ m ih =>
  intro a0 b3 a7 hres
  rw [jr] at hres
  refine bw (ah (sR (mV rfl (mV rfl (ab (cw rfl (cg a1 Tryz.underlying23 _)) (bN cy rfl rfl (nS ?_)))))))
  refine bc rfl ?_ ?_ <;> intro c <;> try simp only [qa] at c
  rotate_left
  ·omega
  refine ay (ai (ah (bf (sR (gL (bb.g_Args r1) rfl rfl rfl fun b5 b0 => (mV rfl (ab (bp rfl rfl (cj8 b0 (by first | omega | (have hk := bn (by assumption) (by assumption); omega) | (have hk := tck (by assumption) (by assumption); omega) | (have hk := rtck (by assumption) (by assumption); omega) | (have hk := eck (by assumption) (by assumption) (by assumption); omega) | (have hk := tv (by assumption) (by assumption); omega) | (have hk := rtv (by assumption) (by assumption); omega)) (by first | omega | (have hk := bn (by assumption) (by assumption); omega) | (have hk := tck (by assumption) (by assumption); omega) | (have hk := rtck (by assumption) (by assumption); omega) | (have hk := eck (by assumption) (by assumption) (by assumption); omega) | (have hk := tv (by assumption) (by assumption); omega) | (have hk := rtv (by assumption) (by assumption); omega)))) (lR rfl rfl rfl ?_))))))))
  refine mV rfl (mV rfl ?_)
  obtain ⟨b4, b1, b2⟩ := dk (i := a0) a1 (by first | omega | (have hk := bn (by assumption) (by assumption); omega) | (have hk := tck (by assumption) (by assumption); omega) | (have hk := rtck (by assumption) (by assumption); omega) | (have hk := eck (by assumption) (by assumption) (by assumption); omega) | (have hk := tv (by assumption) (by assumption); omega) | (have hk := rtv (by assumption) (by assumption); omega)) (by first | omega | (have hk := bn (by assumption) (by assumption); omega) | (have hk := tck (by assumption) (by assumption); omega) | (have hk := rtck (by assumption) (by assumption); omega) | (have hk := eck (by assumption) (by assumption) (by assumption); omega) | (have hk := tv (by assumption) (by assumption); omega) | (have hk := rtv (by assumption) (by assumption); omega))
  refine ab (bp rfl rfl b1) (fL rfl (bz.g_Width b2) rfl rfl ?_)
  obtain ⟨b7, a8, hres⟩ := dl hres
  have a9 := db0 (x0 := (ix x1.Args a0)) (x1 := (ix ((ix x0.Actions x1.Action).Params) a0).Width)  
  rw [a8] at a9
  refine cL a9 rfl rfl (aq rfl (aq rfl bh)) (ab (jy rfl) (nS ?_))
  refine dg hres rfl ?_ ?_ <;> clear hres <;> intro c hres <;> try simp only [qa] at c
  ·refine sR (mI rfl (nS ?_))
   exact rR hres rfl rfl rfl
  ·refine ay (dh (ai (af (mV rfl (bN fa rfl rfl (mV rfl (av (cx ?_))))))))
   have hbd := ee a1
   have hinc : wr (a0 + 1) = a0 + 1 := dm (by omega) (by omega)
   erw [hinc]
   exact wC (ih   (by omega) (by omega) hres) rfl

theorem do9 {x0 : aa} {x1 : bb} {v0 v1 : PV} (r0 : aa.t.R x0 v0) (r1 : bb.t.R x1 v1) : FnR Tryz.prog 94 [v0, v1] (vi (mj x0 x1)) := by
 refine fnS (R := RF94) du9 (fun _ h => h) rfl fun res hres => ?_
 unfold mj at hres
 refine sR (ab (dz rfl (TR.cnt aa.t r0)) (ab (dz rfl (TR.cnt bb.t r1)) (mI rfl (nS (ah (sR (fL rfl (bb.g_Action r1) rfl rfl (bN cy rfl rfl ?_))))))))
 refine mV rfl ?_
 refine cp 7 (d := 17) (v := vb ((decide (x1.Action < 0)) || (decide ((x0.Actions.length : Int) ≤ x1.Action)))) ?_ ?_
 ·intro S Q r
  cases a6 : (decide (x1.Action < 0))
  ·intro k
   have a3 := a6
   try simp only [qa] at a3
   refine ak rfl rfl (ck rfl (bb.g_Action r1)) (ak rfl rfl (bt rfl rfl rfl) ?_)
   obtain ⟨b3, b1, a2⟩ := aa.g_Actions r0
   refine ak rfl rfl (ck rfl b1) (ak rfl rfl (bt rfl (TR.cnt (tSl cz.t) a2) (TR.agg (tSl cz.t) a2)) (ak rfl rfl (cw rfl (cg a2 Tryz.underlying25 _)) (ak rfl rfl (az rfl rfl sw) ?_)))
   exact gK rfl rfl rfl rfl rfl k
  ·exact gN 6 rfl rfl rfl rfl rfl rfl
 refine nS ?_
 refine dg hres rfl ?_ ?_ <;> clear hres <;> intro a1 hres <;> have a4 := a1 <;> try simp only [qa] at a4
 ·refine sR (mI rfl (nS ?_))
  exact rR hres rfl rfl rfl
 ·refine ay (ai (sR (gL (aa.g_Actions r0) rfl rfl rfl fun b6 a8 => (fL rfl (bb.g_Action r1) rfl rfl ?_))))
  obtain ⟨b7, b0, b2⟩ := dk (i := x1.Action) a8 (by first | omega | (have hk := bn (by assumption) (by assumption); omega) | (have hk := tck (by assumption) (by assumption); omega) | (have hk := rtck (by assumption) (by assumption); omega) | (have hk := eck (by assumption) (by assumption) (by assumption); omega) | (have hk := tv (by assumption) (by assumption); omega) | (have hk := rtv (by assumption) (by assumption); omega)) (by first | omega | (have hk := bn (by assumption) (by assumption); omega) | (have hk := tck (by assumption) (by assumption); omega) | (have hk := rtck (by assumption) (by assumption); omega) | (have hk := eck (by assumption) (by assumption) (by assumption); omega) | (have hk := tv (by assumption) (by assumption); omega) | (have hk := rtv (by assumption) (by assumption); omega))
  refine ab (bp rfl rfl b0) (gL (cz.g_Params b2) rfl rfl rfl fun b4 a7 => (mV rfl (nS (ah (sR (gL (bb.g_Args r1) rfl rfl rfl fun b5 a9 => (ab (cw rfl (cg a9 Tryz.underlying33 _)) (mV rfl ?_))))))))
  refine ab (cw rfl (cg a7 Tryz.underlying23 _)) (bN nf rfl rfl (nS ?_))
  refine dg hres rfl ?_ ?_ <;> clear hres <;> intro a0 hres <;> have a5 := a0 <;> try simp only [qa] at a5
  ·refine sR (mI rfl (nS ?_))
   exact rR hres rfl rfl rfl
  ·refine ay (ai (ah (sR (mI rfl (nS (bf ?_))))))
   refine wC (xr r1 a1 a7 a0 ?_  rfl (by omega) hres) rfl
   ·intro  hres
    refine ft (ai (sR (mI rfl (nS ?_))))
    exact rR hres rfl rfl rfl

end Go.Proofs.YthdnpgpnodgicaaGreat
