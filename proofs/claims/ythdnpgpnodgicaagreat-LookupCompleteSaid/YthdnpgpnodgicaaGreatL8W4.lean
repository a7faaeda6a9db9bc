/-
 The code of each function does what its plain program says.
-/
import Derived.Test.YthdnpgpnodgicaaGreatL8W3
set_option linter.unusedVariables false
set_option linter.unusedSimpArgs false
set_option maxRecDepth 100000
namespace Go.Proofs.YthdnpgpnodgicaaGreat
open Go Go.Pb Go.RowKit
def RF115 (res : (List bz)) (r : PV) : Prop := (tSl bz.t).R res r
theorem cw0 {x0 : aa} {x1 : Int} {v0 : PV} (r0 : aa.t.R x0 v0) : ∃ r, FnR Tryz.prog 115 [v0, vi x1] r ∧ (tSl bz.t).R (wx x0 x1) r := by
 refine fnT (R := RF115) bk4 rfl fun res hres => ?_
 unfold wx at hres
 refine sR (ab (dz rfl (TR.cnt aa.t r0)) (ab (v := nilS) (au rfl) (nS (ah (sR (mV rfl (bN (nd (b := -1)) rfl rfl (nS ?_))))))))
 refine dg hres rfl ?_ ?_ <;> clear hres <;> intro c hres <;> try simp only [qa] at c
 ·refine sR (gL (aa.g_Metadata r0) rfl rfl rfl fun a7 a0 => (mV rfl (nS ?_)))
  exact rR hres rfl (TR.clo (tSl bz.t) a0) a0
 ·refine ay (ai (sR (gL (aa.g_Headers r0) rfl rfl rfl fun a8 a4 => (mV rfl ?_))))
  obtain ⟨b1, a1, hres⟩ := dl hres
  obtain ⟨b0, a6, a2⟩ := cv2 (x1 := x1) a4 
  rw [a1] at a2
  refine cL a6 rfl rfl (aq (TR.clo (tSl ct.t) a4) (aq rfl bh)) ?_
  obtain ⟨a9, a5, a3⟩ := ct.g_Fields a2
  refine ab (bc9 rfl a5) (mV rfl (nS ?_))
  exact rR hres rfl (TR.clo (tSl bz.t) a3) a3

def RF114 (res : bz) (r : PV) : Prop := bz.t.R res r
theorem db2 {x0 : List bz} {x1 : Int} {v0 : PV} (r0 : (tSl bz.t).R x0 v0) : ∃ r, FnR Tryz.prog 114 [v0, vi x1] r ∧ bz.t.R (lu x0 x1) r := by
 refine fnT (R := RF114) bk5 rfl fun res hres => ?_
 unfold lu at hres
 refine sR ?_
 refine dc (x := .agg [vs [], vi 0]) (Mem.nil ⟨0, []⟩) rfl rfl (fun a6 a5 b2 a4 => ?_)
 refine nR (ab (ad5 (x := .agg [vs [], vi 0]) rfl rfl) (nS (ah (sR (mV rfl (bN cy rfl rfl (mV rfl ?_)))))))
 refine cp 5 (d := 13) (v := vb ((decide (x1 < 0)) || (decide ((x0.length : Int) ≤ x1)))) ?_ ?_
 ·intro S Q r
  cases a8 : (decide (x1 < 0))
  ·intro k
   have a1 := a8
   try simp only [qa] at a1
   refine ak rfl rfl (au rfl) (ak rfl rfl (au rfl) (ak rfl rfl (cw rfl (cg r0 Tryz.underlying23 _)) (ak rfl rfl (az rfl rfl sw) ?_)))
   exact gK rfl rfl rfl rfl rfl k
  ·exact gN 4 rfl rfl rfl rfl rfl rfl
 refine nS ?_
 refine dg hres rfl ?_ ?_ <;> clear hres <;> intro c hres <;> try simp only [qa] at c
 ·refine sR (lR rfl rfl rfl ?_)
  refine db (k := 0) (v := .agg [vs [], vi 0]) a4 rfl rfl rfl rfl (fun a9 a2 => ?_)
  replace a2 : Mem a9 [⟨.op a6 a5 0, 162, 2, [.agg [vs [], vi 0]]⟩] := a2
  refine nS ?_
  subst hres
  exact dw (.cell rfl (ji (k := 0) a2 rfl rfl) .nil) (cf (TR.clo bz.t (show bz.t.R ({ Name := ([] : List UInt8), Width := 0 } : bz) (.agg [vs [], vi 0]) from rfl))) (show bz.t.R ({ Name := ([] : List UInt8), Width := 0 } : bz) (.agg [vs [], vi 0]) from rfl)
 ·refine ay (ai (sR (mV rfl (mV rfl ?_))))
  obtain ⟨a7, b1, a0⟩ := dk (i := x1) r0 (by first | omega | (have hk := bn (by assumption) (by assumption); omega) | (have hk := tck (by assumption) (by assumption); omega) | (have hk := rtck (by assumption) (by assumption); omega) | (have hk := eck (by assumption) (by assumption) (by assumption); omega) | (have hk := tv (by assumption) (by assumption); omega) | (have hk := rtv (by assumption) (by assumption); omega)) (by first | omega | (have hk := bn (by assumption) (by assumption); omega) | (have hk := tck (by assumption) (by assumption); omega) | (have hk := rtck (by assumption) (by assumption); omega) | (have hk := eck (by assumption) (by assumption) (by assumption); omega) | (have hk := tv (by assumption) (by assumption); omega) | (have hk := rtv (by assumption) (by assumption); omega))
  refine ab (bp rfl rfl b1) (lD a0 rfl rfl rfl ?_)
  refine db (k := 0) (v := a7) a4 rfl rfl rfl (TR.cnt bz.t a0) (fun b0 a3 => ?_)
  replace a3 : Mem b0 [⟨.op a6 a5 0, 162, 2, [a7]⟩] := a3
  refine nS ?_
  subst hres
  exact dw (.cell rfl (ji (k := 0) a3 rfl (TR.agg bz.t a0)) .nil) (cf (TR.clo bz.t a0)) a0

def RF116 (res : Bool) (r : PV) : Prop := r = vb res
theorem aa0 {S : List Fr} {res : Bool} {x0 : List Int} {v0 : PV} (r0 : (tSl tI).R x0 v0) {K0 : Unit → Bool}
  (a5 : K0 () = res → PX Tryz.prog 0 S (QR Tryz.prog [(2, none)] (RF116 res)) [] ⟨0, []⟩) :
  ∀ {m : Nat} {a0 : Int} (a4 : m = Int.toNat ((x0.length : Int) - a0)) (a2 : 0 ≤ a0), lh x0 K0 m a0 = res → RC Tryz.prog (.loop cb4) S (QR Tryz.prog [(2, none)] (RF116 res)) [(7, vi a0), (6, vi (x0.length : Int)), (5, v0)] ⟨0, []⟩ := by
 intro m
 induction m with
 | zero =>
  intro a0 a4 a2 hres
  rw [lh] at hres
  refine bw (sR (bN cy rfl rfl (nS (ah ?_))))
  refine bc rfl ?_ ?_ <;> intro c <;> try simp only [qa] at c
  ·omega
  refine dt (fj (df ?_))
  exact wP (a5  hres) rfl
 | succ m ih =>
  intro a0 a4 a2 hres
  rw [lh] at hres
  refine bw (sR (bN cy rfl rfl (nS (ah ?_))))
  refine bc rfl ?_ ?_ <;> intro c <;> try simp only [qa] at c
  rotate_left
  ·omega
  refine ay (ai (ah (bf (sR (ab (bp rfl rfl (slI r0 (by first | omega | (have hk := bn (by assumption) (by assumption); omega) | (have hk := tck (by assumption) (by assumption); omega) | (have hk := rtck (by assumption) (by assumption); omega) | (have hk := eck (by assumption) (by assumption) (by assumption); omega) | (have hk := tv (by assumption) (by assumption); omega) | (have hk := rtv (by assumption) (by assumption); omega)) (by first | omega | (have hk := bn (by assumption) (by assumption); omega) | (have hk := tck (by assumption) (by assumption); omega) | (have hk := rtck (by assumption) (by assumption); omega) | (have hk := eck (by assumption) (by assumption) (by assumption); omega) | (have hk := tv (by assumption) (by assumption); omega) | (have hk := rtv (by assumption) (by assumption); omega)))) (lR rfl rfl rfl (mV rfl (nR ?_))))))))
  refine mV rfl (bN cy rfl rfl (mV rfl ?_))
  refine cp 3 (d := 16) (v := vb ((decide ((ix x0 a0) < 1)) || (decide (32 < (ix x0 a0))))) ?_ ?_
  ·intro S Q r
   cases a3 : (decide ((ix x0 a0) < 1))
   ·intro k
    have a1 := a3
    try simp only [qa] at a1
    refine ak rfl rfl (au rfl) (ak rfl rfl (az rfl rfl ig) ?_)
    exact gK rfl rfl rfl rfl rfl k
   ·exact gN 2 rfl rfl rfl rfl rfl rfl
  refine nS ?_
  refine dg hres rfl ?_ ?_ <;> clear hres <;> intro c hres <;> try simp only [qa] at c
  ·refine sR (mB rfl (nS ?_))
   exact rR hres rfl rfl rfl
  ·refine ay (dh (ai (af (bN fa rfl rfl (mV rfl (av (cx ?_)))))))
   have hbd := ee r0
   have hinc : wr (a0 + 1) = a0 + 1 := dm (by omega) (by omega)
   erw [hinc]
   exact wC (ih   (by omega) (by omega) hres) rfl

theorem ah5 {x0 : List Int} {v0 : PV} (r0 : (tSl tI).R x0 v0) : FnR Tryz.prog 116 [v0] (vb (jc x0)) := by
 refine fnS (R := RF116) bm5 (fun _ h => h) rfl fun res hres => ?_
 unfold jc at hres
 refine sR (mB rfl (nS (ah (sR (mV rfl (ab (cw rfl (cg r0 Tryz.underlying29 _)) (mI rfl (nS ?_))))))))
 refine bf ?_
 refine wC (aa0 r0 ?_  rfl (by omega) hres) rfl
 ·intro  hres
  refine ft (ai (sR (mB rfl (nS ?_))))
  exact rR hres rfl rfl rfl

def RF113 (res : (BitVec 32)) (r : PV) : Prop := r = fb res
theorem yu {x0 : Int} : FnR Tryz.prog 113 [vi x0] (fb (fc x0)) := by
 refine fnS (R := RF113) bl4 (fun _ h => h) rfl fun res hres => ?_
 unfold fc at hres
 refine sR (ab (v := fb 0#32) (au rfl) (nS (ah (sR (mV rfl (ab (v := .fs true [vi x0]) (ir rfl (all_cons rfl lf)) ?_))))))
 have a2 : (tSl tI).R ([x0] : List Int) (.fs true [vi x0]) := sm ⟨rfl, trivial⟩ (by simp)
 obtain ⟨a3, a1, hres⟩ := dl hres
 have a0 := ah5  a2 
 rw [a1] at a0
 refine cL a0 rfl rfl (aq (TR.clo (tSl tI) a2) bh) (ab (jy rfl) (nS ?_))
 refine dg hres rfl ?_ ?_ <;> clear hres <;> intro c hres <;> try simp only [qa] at c
 ·refine sR (ab (v := fb 0#32) (au rfl) (nS ?_))
  exact rR hres rfl rfl rfl
 ·refine ay (ai (sR (mV rfl (bN af6 rfl rfl (ab (az (a := fb 4294967295#32) (b := vi (wr (32 - x0))) rfl rfl (bp1 (by first | omega | exact df5 (by assumption) (by assumption)))) (mV rfl (nS ?_)))))))
  exact rR hres rfl rfl rfl

def RF81 (res : Int) (r : PV) : Prop := r = vi res
theorem bz8 {x0 : aa} {x1 : cm} {v0 v1 : PV} (r0 : aa.t.R x0 v0) (r1 : cm.t.R x1 v1) : FnR Tryz.prog 81 [v0, v1] (vi (qs x0 x1)) := by
 refine fnS (R := RF81) ck1 (fun _ h => h) rfl fun res hres => ?_
 unfold qs at hres
 refine sR (ab (dz rfl (TR.cnt aa.t r0)) (ab (dz rfl (TR.cnt cm.t r1)) (mI rfl (nR (lD r0 rfl rfl rfl (fL rfl (cm.g_Header r1) rfl rfl ?_))))))
 obtain ⟨b1, a3, hres⟩ := dl hres
 obtain ⟨b0, a7, a0⟩ := cw0 (x1 := x1.Header) r0 
 rw [a3] at a0
 refine cL a7 rfl rfl (aq (TR.clo aa.t r0) (aq rfl bh)) (fL rfl (cm.g_Field r1) rfl rfl ?_)
 obtain ⟨a8, a5, hres⟩ := dl hres
 obtain ⟨b2, a6, a2⟩ := db2 (x1 := x1.Field) a0 
 rw [a5] at a2
 refine cL a6 rfl rfl (aq (TR.clo (tSl bz.t) a0) (aq rfl bh)) (ab (bc9 rfl (bz.g_Width a2)) (mV rfl (nS (ah (sR (mV rfl ?_))))))
 obtain ⟨a9, a4, hres⟩ := dl hres
 have a1 := yu (x0 := a8.Width)  
 rw [a4] at a1
 refine cL a1 rfl rfl (aq rfl bh) (ab (az (a := fb a9) (b := fb 0#32) rfl rfl ch1) (nS ?_))
 refine dg hres rfl ?_ ?_ <;> clear hres <;> intro c hres <;> try simp only [qa] at c
 ·refine sR (mI rfl (nS ?_))
  exact rR hres rfl rfl rfl
 ·refine ay (ai (sR (mV rfl (mV rfl (nS ?_)))))
  exact rR hres rfl rfl rfl

def RF74 (res : Int × Int) (r : PV) : Prop := r = .tup [vi res.1, vi res.2]
theorem xq {S : List Fr} {res : Int × Int} {x0 : aa} {x1 : ax} {v0 a7 : PV} (r0 : aa.t.R x0 v0) (a8 : (tSl bg.t).R x1.Keys a7) {K0 : Int → Int → (Int × Int)}
  (c6 : ∀ {a5 a4 : Int} {h : Heap} (M0 : Mem h []), K0 a5 a4 = res → PX Tryz.prog 0 S (QR Tryz.prog [(4, none), (5, none)] (RF74 res)) [(6, vi a5), (7, vi a4)] h) :
  ∀ {m : Nat} {a5 a4 a0 : Int} (c3 : m = Int.toNat ((x1.Keys.length : Int) - a0)) (b2 : 0 ≤ a0) {h : Heap} (M0 : Mem h []), iu x0 x1 K0 m a5 a4 a0 = res → RC Tryz.prog (.loop cx3) S (QR Tryz.prog [(4, none), (5, none)] (RF74 res)) [(14, vi a0), (13, vi (x1.Keys.length : Int)), (12, a7), (7, vi a4), (6, vi a5), (2, .fp v0)] h := by
 intro m
 induction m with
 | zero =>
  intro a5 a4 a0 c3 b2 h M0 hres
  rw [iu] at hres
  refine bw (sR (bN cy rfl rfl (nS (ah ?_))))
  refine bc rfl ?_ ?_ <;> intro c <;> try simp only [qa] at c
  ·omega
  refine dt (fj (df ?_))
  exact wP (c6 (Mem.sub M0 .slnil) hres) rfl
 | succ m ih =>
  intro a5 a4 a0 c3 b2 h M0 hres
  rw [iu] at hres
  refine bw (sR (bN cy rfl rfl (nS (ah ?_))))
  refine bc rfl ?_ ?_ <;> intro c <;> try simp only [qa] at c
  rotate_left
  ·omega
  refine ay (ai (ah (bf (sR (mV rfl ?_)))))
  obtain ⟨b1, b9, a3⟩ := dk (i := a0) a8 (by first | omega | (have hk := bn (by assumption) (by assumption); omega) | (have hk := tck (by assumption) (by assumption); omega) | (have hk := rtck (by assumption) (by assumption); omega) | (have hk := eck (by assumption) (by assumption) (by assumption); omega) | (have hk := tv (by assumption) (by assumption); omega) | (have hk := rtv (by assumption) (by assumption); omega)) (by first | omega | (have hk := bn (by assumption) (by assumption); omega) | (have hk := tck (by assumption) (by assumption); omega) | (have hk := rtck (by assumption) (by assumption); omega) | (have hk := eck (by assumption) (by assumption) (by assumption); omega) | (have hk := tv (by assumption) (by assumption); omega) | (have hk := rtv (by assumption) (by assumption); omega))
  refine ab (bp rfl rfl b9) (lD a3 rfl rfl rfl ?_)
  refine dc (x := .agg [vi 0, vi 0, vi 0]) M0 rfl rfl (fun c1 b6 c5 c0 => ?_)
  refine mV rfl ?_
  refine db (k := 0) (v := b1) c0 rfl rfl rfl (TR.cnt bg.t a3) (fun a6 a2 => ?_)
  replace a2 : Mem a6 [⟨.op c1 b6 0, 112, 3, [b1]⟩] := a2
  refine nR (lD r0 rfl rfl rfl (ab (bd rfl) ?_))
  obtain ⟨c4, b8, a9⟩ := bg.g_Field a3
  refine ab (co (k := 0) a2 rfl rfl b8) ?_
  obtain ⟨b7, b3, hres⟩ := dl hres
  have b0 := bz8  r0 a9 
  rw [b3] at b0
  refine cL b0 rfl rfl (aq (TR.clo aa.t r0) (aq (TR.clo cm.t a9) bh)) (mV rfl (nS (ah (sR (mV rfl (bN nd rfl rfl (nS ?_)))))))
  refine dg hres rfl ?_ ?_ <;> clear hres <;> intro c hres <;> try simp only [qa] at c
  ·refine sR (mV rfl (mV rfl (mI rfl (nS ?_))))
   exact rT hres rfl rfl rfl rfl rfl
  ·refine ay (ai (ah (sR (ab (bd rfl) (ab (co (k := 0) a2 rfl rfl (bg.g_Kind a3)) (nS (bf (sR ?_))))))))
   refine bN nd rfl rfl (mV rfl (nS ?_))
   refine dg hres rfl ?_ ?_ <;> clear hres <;> intro c hres <;> try simp only [qa] at c
   ·refine af (mV rfl (bN fa rfl rfl (mV rfl (av (dh (ai (af (mV rfl ?_))))))))
    refine mV rfl (bN fa rfl rfl (mV rfl (av (dh (ai (af (bN fa rfl rfl (mV rfl ?_))))))))
    refine av (cx ?_)
    have hbd := ee a8
    have hinc : wr (a0 + 1) = a0 + 1 := dm (by omega) (by omega)
    erw [hinc]
    exact wC (ih   (by omega) (by omega) (Mem.sub a2 (.cons _ .slnil)) hres) rfl
   ·refine ah (sR (bN nd rfl rfl (mV rfl (nS ?_))))
    obtain ⟨b5, b4, hres⟩ := dl hres
    refine vc (F := fun b S Q => ∀ (a1 : Bool), b5 a1 = res → RC Tryz.prog b S Q [(33, vb a1), (14, vi a0), (13, vi (x1.Keys.length : Int)), (12, a7), (10, vi b7), (8, vi a0), (7, vi a4), (6, vi a5), (2, .fp v0)] a6) ?_ ?_
    ·intro a1  hres
     rw [← b4] at hres
     refine dg hres rfl ?_ ?_ <;> clear hres <;> intro c hres <;> try simp only [qa] at c
     ·refine ay (dh (ai (af (mV rfl (mV rfl (bN fa rfl rfl (mV rfl (av ?_))))))))
      refine dh (ai (af (bN fa rfl rfl (mV rfl (av (cx ?_))))))
      have hbd := ee a8
      have hinc : wr (a0 + 1) = a0 + 1 := dm (by omega) (by omega)
      erw [hinc]
      exact wC (ih   (by omega) (by omega) (Mem.sub (Mem.nil a6) .slnil) hres) rfl
     ·refine sR (mV rfl (mV rfl (mI rfl (nS ?_))))
      exact rT hres rfl rfl rfl rfl rfl
    ·intro J
     refine dg hres rfl ?_ ?_ <;> clear hres <;> intro c hres <;> try simp only [qa] at c
     ·refine ay ?_
      refine ai (wC (J _  hres) rfl)
     ·refine af (bN nd rfl rfl (mV rfl (av ?_)))
      refine ai (wC (J _  hres) rfl)

theorem dm0 {x0 : aa} {x1 : ax} {v0 v1 : PV} (r0 : aa.t.R x0 v0) (r1 : ax.t.R x1 v1) : FnR Tryz.prog 74 [v0, v1] (.tup [vi ((mh x0 x1).1), vi ((mh x0 x1).2)]) := by
 refine fnS (R := RF74) cn5 (fun _ h => h) rfl fun res hres => ?_
 unfold mh at hres
 refine sR (ab (dz rfl (TR.cnt aa.t r0)) (ab (dz rfl (TR.cnt ax.t r1)) (mI rfl (mI rfl (nR (mI rfl (mI rfl (nS ?_))))))))
 refine ah (sR (gL (ax.g_Keys r1) rfl rfl rfl fun a4 a0 => (ab (cw rfl (cg a0 Tryz.underlying85 _)) (mI rfl (nS (bf ?_))))))
 refine wC (xq r0 a0 ?_  rfl (by omega) (Mem.sub (Mem.nil ⟨0, []⟩) .slnil) hres) rfl
 ·intro a2 a1 a3 a5 hres
  refine ft (ai (ah (sR (mV rfl (bN ig rfl rfl (nS ?_))))))
  refine dg hres rfl ?_ ?_ <;> clear hres <;> intro c hres <;> try simp only [qa] at c
  ·refine sR (mI rfl (mI rfl (nS ?_)))
   exact rT hres rfl rfl rfl rfl rfl
  ·refine ay (ai (ah (sR (mV rfl (bN ig rfl rfl (nS ?_))))))
   refine dg hres rfl ?_ ?_ <;> clear hres <;> intro c hres <;> try simp only [qa] at c
   ·refine sR (mI rfl (mI rfl (nS ?_)))
    exact rT hres rfl rfl rfl rfl rfl
   ·refine ay (ai (sR (mI rfl (mI rfl (nS ?_)))))
    exact rT hres rfl rfl rfl rfl rfl

def RF95 (res : Bool) (r : PV) : Prop := r = vb res
theorem at1 {x0 : BitVec 32} {x1 : Int} : FnR Tryz.prog 95 [fb x0, vi x1] (vb (kf x0 x1)) := by
 refine fnS (R := RF95) ck0 (fun _ h => h) rfl fun res hres => ?_
 unfold kf at hres
 refine sR (mB rfl (nR (mV rfl (ab (v := .fs true [vi x1]) (ir rfl (all_cons rfl lf)) ?_))))
 have a5 : (tSl tI).R ([x1] : List Int) (.fs true [vi x1]) := sm ⟨rfl, trivial⟩ (by simp)
 obtain ⟨a4, a2, hres⟩ := dl hres
 have a1 := ah5  a5 
 rw [a2] at a1
 refine cL a1 rfl rfl (aq (TR.clo (tSl tI) a5) bh) (mV rfl ?_)
 refine cp 5 (d := 13) (v := vb (a4 && (decide (x0 ≤ (fc x1))))) ?_ ?_
 ·intro S Q r
  cases a3 : a4
  ·exact gN 4 rfl rfl rfl rfl rfl rfl
  ·intro k
   have a0 := a3
   try simp only [qa] at a0
   refine ak rfl rfl (au rfl) (ak rfl rfl (au rfl) ?_)
   have a6 := yu (x0 := x1)  
   refine mq rfl rfl (vd rfl rfl (aq rfl bh) a6) (ak rfl rfl (az (a := fb x0) (b := fb (fc x1)) rfl rfl ef4) ?_)
   exact gK rfl rfl rfl rfl rfl k
 refine mV rfl (nS ?_)
 exact rR hres rfl rfl rfl

def RF78 (res : Int) (r : PV) : Prop := r = vi res
theorem wq {S : List Fr} {res : Int} {x0 : aa} {x1 : bb} {a3 b0 : PV} (a5 : ((decide (x1.Action < 0)) || (decide ((x0.Actions.length : Int) ≤ x1.Action))) = false) (b2 : (tSl bz.t).R ((ix x0.Actions x1.Action).Params) a3) (a4 : (!decide ((x1.Args.length : Int) = (((ix x0.Actions x1.Action).Params).length : Int))) = false) (a7 : (tSl nq).R x1.Args b0) {K0 : Unit → Int}
  (b6 : K0 () = res → PX Tryz.prog 0 S (QR Tryz.prog [(4, none)] (RF78 res)) [] ⟨0, []⟩) :
  ∀ {m : Nat} {a0 : Int} (b4 : m = Int.toNat ((x1.Args.length : Int) - a0)) (a6 : 0 ≤ a0), jf x0 x1 K0 m a0 = res → RC Tryz.prog (.loop cu5) S (QR Tryz.prog [(4, none)] (RF78 res)) [(35, vi a0), (34, vi (x1.Args.length : Int)), (33, b0), (5, a3)] ⟨0, []⟩ := by
 have a1 := a5
 try simp only [qa] at a1
 have a2 := a4
 try simp only [qa] at a2
 intro m
 induction m with
 | zero =>
  intro a0 b4 a6 hres
  rw [jf] at hres
  refine bw (sR (bN cy rfl rfl (nS (ah ?_))))
  refine bc rfl ?_ ?_ <;> intro c <;> try simp only [qa] at c
  ·omega
  refine dt (fj (df ?_))
  exact wP (b6  hres) rfl
 | succ m ih =>
  intro a0 b4 a6 hres
  rw [jf] at hres
  refine bw (sR (bN cy rfl rfl (nS (ah ?_))))
  refine bc rfl ?_ ?_ <;> intro c <;> try simp only [qa] at c
  rotate_left
  ·omega
  refine ay (ai (ah (bf (sR (mV rfl (ab (bp rfl rfl (cj8 a7 (by first | omega | (have hk := bn (by assumption) (by assumption); omega) | (have hk := tck (by assumption) (by assumption); omega) | (have hk := rtck (by assumption) (by assumption); omega) | (have hk := eck (by assumption) (by assumption) (by assumption); omega) | (have hk := tv (by assumption) (by assumption); omega) | (have hk := rtv (by assumption) (by assumption); omega)) (by first | omega | (have hk := bn (by assumption) (by assumption); omega) | (have hk := tck (by assumption) (by assumption); omega) | (have hk := rtck (by assumption) (by assumption); omega) | (have hk := eck (by assumption) (by assumption) (by assumption); omega) | (have hk := tv (by assumption) (by assumption); omega) | (have hk := rtv (by assumption) (by assumption); omega)))) (lR rfl rfl rfl (mV rfl ?_))))))))
  refine mV rfl (nR (mV rfl (mV rfl (mV rfl ?_))))
  obtain ⟨b5, b1, b3⟩ := dk (i := a0) b2 (by first | omega | (have hk := bn (by assumption) (by assumption); omega) | (have hk := tck (by assumption) (by assumption); omega) | (have hk := rtck (by assumption) (by assumption); omega) | (have hk := eck (by assumption) (by assumption) (by assumption); omega) | (have hk := tv (by assumption) (by assumption); omega) | (have hk := rtv (by assumption) (by assumption); omega)) (by first | omega | (have hk := bn (by assumption) (by assumption); omega) | (have hk := tck (by assumption) (by assumption); omega) | (have hk := rtck (by assumption) (by assumption); omega) | (have hk := eck (by assumption) (by assumption) (by assumption); omega) | (have hk := tv (by assumption) (by assumption); omega) | (have hk := rtv (by assumption) (by assumption); omega))
  refine ab (bp rfl rfl b1) (fL rfl (bz.g_Width b3) rfl rfl ?_)
  obtain ⟨b7, a8, hres⟩ := dl hres
  have a9 := at1 (x0 := (ix x1.Args a0)) (x1 := (ix ((ix x0.Actions x1.Action).Params) a0).Width)  
  rw [a8] at a9
  refine cL a9 rfl rfl (aq rfl (aq rfl bh)) (ab (jy rfl) (nS ?_))
  refine dg hres rfl ?_ ?_ <;> clear hres <;> intro c hres <;> try simp only [qa] at c
  ·refine sR (mI rfl (nS ?_))
   exact rR hres rfl rfl rfl
  ·refine ay (dh (ai (af (bN fa rfl rfl (mV rfl (av (cx ?_)))))))
   have hbd := ee a7
   have hinc : wr (a0 + 1) = a0 + 1 := dm (by omega) (by omega)
   erw [hinc]
   exact wC (ih   (by omega) (by omega) hres) rfl

theorem co7 {x0 : aa} {x1 : bb} {v0 v1 : PV} (r0 : aa.t.R x0 v0) (r1 : bb.t.R x1 v1) : FnR Tryz.prog 78 [v0, v1] (vi (lr x0 x1)) := by
 refine fnS (R := RF78) ca3 (fun _ h => h) rfl fun res hres => ?_
 unfold lr at hres
 refine sR (ab (dz rfl (TR.cnt aa.t r0)) (ab (dz rfl (TR.cnt bb.t r1)) (mI rfl (nS (ah (sR (fL rfl (bb.g_Action r1) rfl rfl (bN cy rfl rfl ?_))))))))
 refine mV rfl ?_
 refine cp 7 (d := 18) (v := vb ((decide (x1.Action < 0)) || (decide ((x0.Actions.length : Int) ≤ x1.Action)))) ?_ ?_
 ·intro S Q r
  cases a8 : (decide (x1.Action < 0))
  ·intro k
   have a3 := a8
   try simp only [qa] at a3
   refine ak rfl rfl (ck rfl (bb.g_Action r1)) (ak rfl rfl (bt rfl rfl rfl) ?_)
   obtain ⟨b6, b3, a2⟩ := aa.g_Actions r0
   refine ak rfl rfl (ck rfl b3) (ak rfl rfl (bt rfl (TR.cnt (tSl cz.t) a2) (TR.agg (tSl cz.t) a2)) (ak rfl rfl (cw rfl (cg a2 Tryz.underlying25 _)) (ak rfl rfl (az rfl rfl sw) ?_)))
   exact gK rfl rfl rfl rfl rfl k
  ·exact gN 6 rfl rfl rfl rfl rfl rfl
 refine nS ?_
 refine dg hres rfl ?_ ?_ <;> clear hres <;> intro a1 hres <;> have a4 := a1 <;> try simp only [qa] at a4
 ·refine sR (mI rfl (nS ?_))
  exact rR hres rfl rfl rfl
 ·refine ay (ai (sR ?_))
  obtain ⟨b9, b1, a6⟩ := aa.g_Actions r0
  refine fA rfl b1 (lD a6 rfl rfl rfl (fL rfl (bb.g_Action r1) rfl rfl ?_))
  obtain ⟨c0, b2, b4⟩ := dk (i := x1.Action) a6 (by first | omega | (have hk := bn (by assumption) (by assumption); omega) | (have hk := tck (by assumption) (by assumption); omega) | (have hk := rtck (by assumption) (by assumption); omega) | (have hk := eck (by assumption) (by assumption) (by assumption); omega) | (have hk := tv (by assumption) (by assumption); omega) | (have hk := rtv (by assumption) (by assumption); omega)) (by first | omega | (have hk := bn (by assumption) (by assumption); omega) | (have hk := tck (by assumption) (by assumption); omega) | (have hk := rtck (by assumption) (by assumption); omega) | (have hk := eck (by assumption) (by assumption) (by assumption); omega) | (have hk := tv (by assumption) (by assumption); omega) | (have hk := rtv (by assumption) (by assumption); omega))
  refine ab (bp rfl rfl b2) (gL (cz.g_Params b4) rfl rfl rfl fun b7 b0 => (mV rfl (nS (ah (sR ?_)))))
  obtain ⟨b8, b5, a7⟩ := bb.g_Args r1
  refine fA rfl b5 (lD a7 rfl rfl rfl (ab (cw rfl (cg a7 Tryz.underlying33 _)) (mV rfl (ab (cw rfl (cg b0 Tryz.underlying23 _)) (bN nf rfl rfl (nS ?_))))))
  refine dg hres rfl ?_ ?_ <;> clear hres <;> intro a0 hres <;> have a5 := a0 <;> try simp only [qa] at a5
  ·refine sR (mI rfl (nS ?_))
   exact rR hres rfl rfl rfl
  ·refine ay (ai (ah (sR (gL (bb.g_Args r1) rfl rfl rfl fun c1 a9 => (ab (cw rfl (cg a9 Tryz.underlying33 _)) (mI rfl (nS (bf ?_))))))))
   refine wC (wq a1 b0 a0 a9 ?_  rfl (by omega) hres) rfl
   ·intro  hres
    refine ft (ai (sR (mI rfl (nS ?_))))
    exact rR hres rfl rfl rfl

def RF75 (res : Int) (r : PV) : Prop := r = vi res
theorem vq {S : List Fr} {res : Int} {x0 : aa} {x1 : ax} {v0 v1 a9 : PV} {a5 a4 : Nat} (r0 : aa.t.R x0 v0) (b2 : (tSl tI).R x1.Actions a9) {K0 : (List (Int × Bool)) → Int}
  (c0 : ∀ {a1 : List (Int × Bool)} {a0 : List PV} (a3 : All2 (tKV tB).R a1 a0) {h : Heap} (M0 : Mem h [⟨.om a5 a4, 82, 2, a0⟩]), K0 a1 = res → PX Tryz.prog 0 S (QR Tryz.prog [(4, none)] (RF75 res)) [(2, .fp v0), (3, .fp v1), (5, .om a5 a4)] h) :
  ∀ {m : Nat} {a2 : Int} {a1 : List (Int × Bool)} {a0 : List PV} (a3 : All2 (tKV tB).R a1 a0) (b8 : m = Int.toNat ((x1.Actions.length : Int) - a2)) (b1 : 0 ≤ a2) {h : Heap} (M0 : Mem h [⟨.om a5 a4, 82, 2, a0⟩]), gu x0 x1 K0 m a2 a1 = res → RC Tryz.prog (.loop cp4) S (QR Tryz.prog [(4, none)] (RF75 res)) [(12, vi a2), (11, vi (x1.Actions.length : Int)), (10, a9), (5, .om a5 a4), (3, .fp v1), (2, .fp v0)] h := by
 intro m
 induction m with
 | zero =>
  intro a2 a1 a0 a3 b8 b1 h M0 hres
  rw [gu] at hres
  refine bw (sR (bN cy rfl rfl (nS (ah ?_))))
  refine bc rfl ?_ ?_ <;> intro c <;> try simp only [qa] at c
  ·omega
  refine dt (fj (df ?_))
  exact wP (c0 a3 (Mem.sub M0 (.cons_cons _ .slnil)) hres) rfl
 | succ m ih =>
  intro a2 a1 a0 a3 b8 b1 h M0 hres
  rw [gu] at hres
  refine bw (sR (bN cy rfl rfl (nS (ah ?_))))
  refine bc rfl ?_ ?_ <;> intro c <;> try simp only [qa] at c
  rotate_left
  ·omega
  refine ay (ai (ah (bf (sR (ab (bp rfl rfl (slI b2 (by first | omega | (have hk := bn (by assumption) (by assumption); omega) | (have hk := tck (by assumption) (by assumption); omega) | (have hk := rtck (by assumption) (by assumption); omega) | (have hk := eck (by assumption) (by assumption) (by assumption); omega) | (have hk := tv (by assumption) (by assumption); omega) | (have hk := rtv (by assumption) (by assumption); omega)) (by first | omega | (have hk := bn (by assumption) (by assumption); omega) | (have hk := tck (by assumption) (by assumption); omega) | (have hk := rtck (by assumption) (by assumption); omega) | (have hk := eck (by assumption) (by assumption) (by assumption); omega) | (have hk := tv (by assumption) (by assumption); omega) | (have hk := rtv (by assumption) (by assumption); omega)))) (lR rfl rfl rfl (mV rfl (nS ?_))))))))
  refine ah (sR (mV rfl (bN cy rfl rfl (mV rfl ?_))))
  refine cp 6 (d := 24) (v := vb ((decide ((ix x1.Actions a2) < 0)) || (decide ((x0.Actions.length : Int) ≤ (ix x1.Actions a2))))) ?_ ?_
  ·intro S Q r
   cases b0 : (decide ((ix x1.Actions a2) < 0))
   ·intro k
    have a8 := b0
    try simp only [qa] at a8
    refine ak rfl rfl (au rfl) ?_
    obtain ⟨b9, b5, a6⟩ := aa.g_Actions r0
    refine ak rfl rfl (ck rfl b5) (ak rfl rfl (bt rfl (TR.cnt (tSl cz.t) a6) (TR.agg (tSl cz.t) a6)) (ak rfl rfl (cw rfl (cg a6 Tryz.underlying25 _)) (ak rfl rfl (az rfl rfl sw) ?_)))
    exact gK rfl rfl rfl rfl rfl k
   ·exact gN 5 rfl rfl rfl rfl rfl rfl
  refine nS ?_
  refine dg hres rfl ?_ ?_ <;> clear hres <;> intro c hres <;> try simp only [qa] at c
  ·refine sR (mI rfl (nS ?_))
   exact rR hres rfl rfl rfl
  ·refine ay (ai (ah (sR (mV rfl (mV rfl ?_)))))
   refine az9 (k := 0) (t := tB) (zero := false) M0 rfl rfl rfl a3 rfl (fun b6 a7 => ?_)
   have a7 : b6 = vb ((mget a1 (ix x1.Actions a2)).getD false) := a7; subst a7
   refine nS ?_
   refine dg hres rfl ?_ ?_ <;> clear hres <;> intro c hres <;> try simp only [qa] at c
   ·refine sR (mI rfl (nS ?_))
    exact rR hres rfl rfl rfl
   ·refine ay (ai (af (mV rfl (mV rfl ?_))))
    refine bj5 (k := 0) (t := tB) (v := vb true) M0 rfl rfl rfl rfl a3 (show tB.R true (vb true) from rfl) (fun c1 b7 b3 b4 => ?_)
    refine av (dh (ai (af (bN fa rfl rfl (mV rfl (av (cx ?_)))))))
    have hbd := ee b2
    have hinc : wr (a2 + 1) = a2 + 1 := dm (by omega) (by omega)
    erw [hinc]
    exact wC (ih  b4 (by omega) (by omega) (Mem.sub b3 (.cons_cons _ .slnil)) hres) rfl

theorem do8 {x0 : aa} {x1 : ax} {v0 v1 : PV} (r0 : aa.t.R x0 v0) (r1 : ax.t.R x1 v1) : FnR Tryz.prog 75 [v0, v1] (vi (ly x0 x1)) := by
 refine fnS (R := RF75) by2 (fun _ h => h) rfl fun res hres => ?_
 unfold ly at hres
 refine sR (ab (dz rfl (TR.cnt aa.t r0)) (ab (dz rfl (TR.cnt ax.t r1)) (mI rfl (nR ?_))))
 refine ah1 (Mem.nil ⟨0, []⟩) (fun b6 b4 c0 a8 => ?_)
 have a9 : All2 (tKV tB).R ([] : List (Int × Bool)) [] := trivial
 refine mV rfl (nS (ah (sR (gL (ax.g_Actions r1) rfl rfl rfl fun b5 a7 => (ab (cw rfl (cg a7 Tryz.underlying29 _)) (mI rfl (nS (bf ?_))))))))
 refine wC (vq r0 a7 ?_  a9 rfl (by omega) (Mem.sub a8 (.cons_cons _ .slnil)) hres) rfl
 ·intro a0 a3 a1 b9 b2 hres
  refine ft (ai (ah (sR (mV rfl ?_))))
  obtain ⟨b7, b0, b1⟩ := ax.g_Default r1
  refine fA rfl b0 (fL rfl (bb.g_Action b1) rfl rfl ?_)
  refine az9 (k := 0) (t := tB) (zero := false) b2 rfl rfl rfl a1 rfl (fun b3 a2 => ?_)
  have a2 : b3 = vb ((mget a0 x1.Default.Action).getD false) := a2; subst a2
  refine ab (jy rfl) (nS ?_)
  refine dg hres rfl ?_ ?_ <;> clear hres <;> intro c hres <;> try simp only [qa] at c
  ·refine sR (mI rfl (nS ?_))
   exact rR hres rfl rfl rfl
  ·refine ay (ai (sR (lD r0 rfl rfl rfl (gL (ax.g_Default r1) rfl rfl rfl fun c1 a6 => ?_))))
   obtain ⟨b8, a4, hres⟩ := dl hres
   have a5 := co7  r0 a6 
   rw [a4] at a5
   refine cL a5 rfl rfl (aq (TR.clo aa.t r0) (aq (TR.clo bb.t a6) bh)) (mV rfl (nS ?_))
   exact rR hres rfl rfl rfl

def RF39 (res : Int × Int) (r : PV) : Prop := r = .tup [vi res.1, vi res.2]
theorem bg5 {x0 : aa} {x1 : Int} {v0 : PV} (r0 : aa.t.R x0 v0) : FnR Tryz.prog 39 [v0, vi x1] (.tup [vi ((ij x0 x1).1), vi ((ij x0 x1).2)]) := by
 refine fnS (R := RF39) cm0 (fun _ h => h) rfl fun res hres => ?_
 unfold ij at hres
 refine sR (ab (dz rfl (TR.cnt aa.t r0)) (mI rfl (mI rfl (nS (ah (sR (mV rfl (bN cy rfl rfl ?_))))))))
 refine mV rfl ?_
 refine cp 6 (d := 15) (v := vb ((decide (x1 < 0)) || (decide ((x0.Tables.length : Int) ≤ x1)))) ?_ ?_
 ·intro S Q r
  cases b3 : (decide (x1 < 0))
  ·intro k
   have a3 := b3
   try simp only [qa] at a3
   refine ak rfl rfl (au rfl) ?_
   obtain ⟨c9, c6, a2⟩ := aa.g_Tables r0
   refine ak rfl rfl (ck rfl c6) (ak rfl rfl (bt rfl (TR.cnt (tSl ax.t) a2) (TR.agg (tSl ax.t) a2)) (ak rfl rfl (cw rfl (cg a2 Tryz.underlying26 _)) (ak rfl rfl (az rfl rfl sw) ?_)))
   exact gK rfl rfl rfl rfl rfl k
  ·exact gN 5 rfl rfl rfl rfl rfl rfl
 refine nS ?_
 refine dg hres rfl ?_ ?_ <;> clear hres <;> intro c hres <;> try simp only [qa] at c
 ·refine sR (mI rfl (mI rfl (nS ?_)))
  exact rT hres rfl rfl rfl rfl rfl
 ·refine ay (ai (sR ?_))
  obtain ⟨d5, c0, a9⟩ := aa.g_Tables r0
  refine fA rfl c0 (lD a9 rfl rfl rfl (mV rfl ?_))
  obtain ⟨b2, c1, a0⟩ := dk (i := x1) a9 (by first | omega | (have hk := bn (by assumption) (by assumption); omega) | (have hk := tck (by assumption) (by assumption); omega) | (have hk := rtck (by assumption) (by assumption); omega) | (have hk := eck (by assumption) (by assumption) (by assumption); omega) | (have hk := tv (by assumption) (by assumption); omega) | (have hk := rtv (by assumption) (by assumption); omega)) (by first | omega | (have hk := bn (by assumption) (by assumption); omega) | (have hk := tck (by assumption) (by assumption); omega) | (have hk := rtck (by assumption) (by assumption); omega) | (have hk := eck (by assumption) (by assumption) (by assumption); omega) | (have hk := tv (by assumption) (by assumption); omega) | (have hk := rtv (by assumption) (by assumption); omega))
  refine ab (bp rfl rfl c1) (lD a0 rfl rfl rfl ?_)
  refine dc (x := .agg [vs [], nilS, nilS, vi 0, nilS, vi 0]) (Mem.nil ⟨0, []⟩) rfl rfl (fun b7 b9 d0 b8 => ?_)
  refine db (k := 0) (v := b2) b8 rfl rfl rfl (TR.cnt ax.t a0) (fun c5 a1 => ?_)
  replace a1 : Mem c5 [⟨.op b7 b9 0, 87, 6, [b2]⟩] := a1
  refine nS (ah (bf (sR (ab (bd rfl) (ab (co (k := 0) a1 rfl rfl (ax.g_Name a0)) ?_)))))
  obtain ⟨d1, b4, hres⟩ := dl hres
  have b1 := dn0 (x0 := (ix x0.Tables x1).Name)  
  rw [b4] at b1
  refine cL b1 rfl rfl (aq rfl bh) (ab (jy rfl) (mV rfl (nS ?_)))
  refine dg hres rfl ?_ ?_ <;> clear hres <;> intro c hres <;> try simp only [qa] at c
  ·refine sR (mI rfl (mI rfl (nS ?_)))
   exact rT hres rfl rfl rfl rfl rfl
  ·refine sR (ab (bd rfl) ?_)
   obtain ⟨d2, c8, c4⟩ := ax.g_Keys a0
   refine ab (co (k := 0) a1 rfl rfl c8) (ab (cw rfl (cg c4 Tryz.underlying85 _)) (bN ig rfl rfl (mV rfl ?_)))
   refine cp 5 (d := 36) (v := vb ((decide (6 < (((ix x0.Tables x1).Keys).length : Int))) || (decide (16 < (((ix x0.Tables x1).Actions).length : Int))))) ?_ ?_
   ·intro S Q r
    cases b0 : (decide (6 < (((ix x0.Tables x1).Keys).length : Int)))
    ·intro k
     have a4 := b0
     try simp only [qa] at a4
     refine ak rfl rfl (bd rfl) ?_
     obtain ⟨d3, c3, c7⟩ := ax.g_Actions a0
     refine ak rfl rfl (co (k := 0) a1 rfl rfl c3) (ak rfl rfl (cw rfl (cg c7 Tryz.underlying29 _)) (ak rfl rfl (az rfl rfl ig) ?_))
     exact gK rfl rfl rfl rfl rfl k
    ·exact gN 4 rfl rfl rfl rfl rfl rfl
   refine mV rfl (nS ?_)
   refine dg hres rfl ?_ ?_ <;> clear hres <;> intro c hres <;> try simp only [qa] at c
   ·refine sR (mI rfl (mI rfl (nS ?_)))
    exact rT hres rfl rfl rfl rfl rfl
   ·refine sR (ab (bd rfl) (ab (co (k := 0) a1 rfl rfl (ax.g_Size a0)) (bN cy rfl rfl (mV rfl ?_))))
    refine cp 4 (d := 45) (v := vb ((decide (((ix x0.Tables x1).Size) < 1)) || (decide (256 < ((ix x0.Tables x1).Size))))) ?_ ?_
    ·intro S Q r
     cases b5 : (decide (((ix x0.Tables x1).Size) < 1))
     ·intro k
      have a5 := b5
      try simp only [qa] at a5
      refine ak rfl rfl (bd rfl) (ak rfl rfl (co (k := 0) a1 rfl rfl (ax.g_Size a0)) (ak rfl rfl (az rfl rfl ig) ?_))
      exact gK rfl rfl rfl rfl rfl k
     ·exact gN 3 rfl rfl rfl rfl rfl rfl
    refine mV rfl (nS ?_)
    refine dg hres rfl ?_ ?_ <;> clear hres <;> intro c hres <;> try simp only [qa] at c
    ·refine sR (mI rfl (mI rfl (nS ?_)))
     exact rT hres rfl rfl rfl rfl rfl
    ·refine ay (dh (ai (ah (sR (lD r0 rfl rfl rfl (ab (gi (k := 0) a1 rfl rfl (TR.agg ax.t a0)) ?_))))))
     obtain ⟨d4, a6, hres⟩ := dl hres
     have a8 := dm0  r0 a0 
     rw [a6] at a8
     refine cL a8 rfl rfl (aq (TR.clo aa.t r0) (aq (TR.clo ax.t a0) bh)) (mV rfl (xT rfl rfl (xT rfl rfl (mV rfl (mV rfl (nR (mV rfl (bN nf rfl rfl ?_))))))))
     refine nS ?_
     refine dg hres rfl ?_ ?_ <;> clear hres <;> intro c hres <;> try simp only [qa] at c
     ·refine sR (mV rfl (mV rfl (mV rfl (mV rfl (nS ?_)))))
      exact rT hres rfl rfl rfl rfl rfl
     ·refine ay (ai (ah (sR (lD r0 rfl rfl rfl (ab (gi (k := 0) a1 rfl rfl (TR.agg ax.t a0)) ?_)))))
      obtain ⟨d6, b6, hres⟩ := dl hres
      have a7 := do8  r0 a0 
      rw [b6] at a7
      refine cL a7 rfl rfl (aq (TR.clo aa.t r0) (aq (TR.clo ax.t a0) bh)) (mV rfl (nR (mV rfl (bN nf rfl rfl (nS ?_)))))
      refine dg hres rfl ?_ ?_ <;> clear hres <;> intro c hres <;> try simp only [qa] at c
      ·refine sR (mV rfl (mI rfl (mV rfl (nS ?_))))
       exact rT hres rfl rfl rfl rfl rfl
      ·refine ay (ai (sR (mI rfl (mI rfl (nS ?_)))))
       exact rT hres rfl rfl rfl rfl rfl

def RF80 (res : Bool) (r : PV) : Prop := r = vb res
theorem bf5 {x0 : aa} {x1 : Int} {v0 : PV} (r0 : aa.t.R x0 v0) : FnR Tryz.prog 80 [v0, vi x1] (vb (gq x0 x1)) := by
 refine fnS (R := RF80) ci4 (fun _ h => h) rfl fun res hres => ?_
 unfold gq at hres
 refine sR (ab (dz rfl (TR.cnt aa.t r0)) (mB rfl (nR (lD r0 rfl rfl rfl (mV rfl ?_)))))
 obtain ⟨a2, a1, hres⟩ := dl hres
 have a0 := bg5 (x1 := x1) r0 
 rw [a1] at a0
 refine cL a0 rfl rfl (aq (TR.clo aa.t r0) (aq rfl bh)) (mV rfl (xT rfl rfl (xT rfl rfl (mV rfl (mV rfl (nR (mV rfl (bN nd rfl rfl ?_))))))))
 refine mV rfl (nS ?_)
 exact rR hres rfl rfl rfl

def RF45 (res : (List Int)) (r : PV) : Prop := (tSl tI).R res r
theorem zm {S : List Fr} {res : (List Int)} {x0 : aa} {x1 : Int} {b6 : Bool} {v0 c1 : PV} (r0 : aa.t.R x0 v0) (d9 : gq x0 x1 = b6) (b8 : (!b6) = false) (c7 : (tSl bg.t).R ((ix x0.Tables x1).Keys) c1) {K0 : (List Int) → (List Int)}
  (e2 : ∀ {a1 : List Int} {a0 : List PV} {a2 : PV} (a5 : All2 tI.R a1 a0) (a7 : isL a2 = true) (a3 : Wri a2 a0) (a6 : a1.length ≤ 4611686018427387904) {h : Heap} (M0 : Mem h [⟨a2, 3, 1, a0⟩]), K0 a1 = res → PX Tryz.prog 0 S (QR Tryz.prog [(4, none)] (RF45 res)) [(5, a2)] h) :
  ∀ {m : Nat} {a4 : Int} {a1 : List Int} {a0 : List PV} {a2 : PV} (a5 : All2 tI.R a1 a0) (a7 : isL a2 = true) (a3 : Wri a2 a0) (a6 : a1.length ≤ 4611686018427387904) (e0 : m = Int.toNat ((((ix x0.Tables x1).Keys).length : Int) - a4)) (c3 : 0 ≤ a4) (b2 : (a1.length : Int) ≤ a4) {h : Heap} (M0 : Mem h [⟨a2, 3, 1, a0⟩]), kg x0 x1 K0 m a4 a1 = res → RC Tryz.prog (.loop de9) S (QR Tryz.prog [(4, none)] (RF45 res)) [(19, vi a4), (18, vi (((ix x0.Tables x1).Keys).length : Int)), (17, c1), (5, a2), (2, .fp v0)] h := by
 have b4 := b8
 try simp only [qa] at b4
 intro m
 induction m with
 | zero =>
  intro a4 a1 a0 a2 a5 a7 a3 a6 e0 c3 b2 h M0 hres
  rw [kg] at hres
  refine bw (sR (bN cy rfl rfl (nS (ah ?_))))
  refine bc rfl ?_ ?_ <;> intro c <;> try simp only [qa] at c
  ·omega
  refine dt (fj (df ?_))
  exact wP (e2 a5 a7 a3 a6 (Mem.sub M0 (.cons_cons _ .slnil)) hres) rfl
 | succ m ih =>
  intro a4 a1 a0 a2 a5 a7 a3 a6 e0 c3 b2 h M0 hres
  rw [kg] at hres
  refine bw (sR (bN cy rfl rfl (nS (ah ?_))))
  refine bc rfl ?_ ?_ <;> intro c <;> try simp only [qa] at c
  rotate_left
  ·omega
  refine ay (ai (ah (bf (sR ?_))))
  obtain ⟨c6, d4, b3⟩ := dk (i := a4) c7 (by first | omega | (have hk := bn (by assumption) (by assumption); omega) | (have hk := tck (by assumption) (by assumption); omega) | (have hk := rtck (by assumption) (by assumption); omega) | (have hk := eck (by assumption) (by assumption) (by assumption); omega) | (have hk := tv (by assumption) (by assumption); omega) | (have hk := rtv (by assumption) (by assumption); omega)) (by first | omega | (have hk := bn (by assumption) (by assumption); omega) | (have hk := tck (by assumption) (by assumption); omega) | (have hk := rtck (by assumption) (by assumption); omega) | (have hk := eck (by assumption) (by assumption) (by assumption); omega) | (have hk := tv (by assumption) (by assumption); omega) | (have hk := rtv (by assumption) (by assumption); omega))
  refine ab (bp rfl rfl d4) (lD b3 rfl rfl rfl ?_)
  refine dc (x := .agg [vi 0, vi 0, vi 0]) M0 rfl rfl (fun d1 d2 e3 d6 => ?_)
  refine db (k := 0) (v := c6) d6 rfl rfl rfl (TR.cnt bg.t b3) (fun c0 b0 => ?_)
  replace b0 : Mem c0 [⟨.op d1 d2 0, 112, 3, [c6]⟩, ⟨a2, 3, 1, a0⟩] := b0
  refine nS (af (mV rfl (lD r0 rfl rfl rfl (ab (bd rfl) ?_))))
  obtain ⟨e5, d3, b9⟩ := bg.g_Field b3
  refine ab (co (k := 0) b0 rfl rfl d3) ?_
  obtain ⟨a8, c9, hres⟩ := dl hres
  have b7 := bz8  r0 b9 
  rw [c9] at b7
  refine cL b7 rfl rfl (aq (TR.clo aa.t r0) (aq (TR.clo cm.t b9) bh)) (ab (v := .fs true [vi a8]) (ir rfl (all_cons rfl lf)) ?_)
  have d7 : (tSl tI).R ([a8] : List Int) (.fs true [vi a8]) := sm ⟨rfl, trivial⟩ (by simp)
  obtain ⟨a9, c8, b1⟩ := vm (t := tI) (h := c0) d7
  have b5 : fits (a0.length + a9.length) 8 = true := by rw [All2.length_eq a5, All2.length_eq b1]; (try simp only [List.length_cons, List.length_nil]); exact pe (by have hk := tv (by assumption) (by assumption); omega) (by have hk := tv (by assumption) (by assumption); omega)
  refine pz (k := 1) (es := a0) (news := a9) b0 rfl rfl rfl a7 a3 c8 b5 (fun e4 e1 d5 d0 d8 => ?_)
  have c5 : All2 tI.R (a1 ++ ([a8] : List Int)) (a0 ++ a9) := All2.app a5 b1
  have c4 : (a1 ++ ([a8] : List Int)).length ≤ 4611686018427387904 := by rw [← All2.length_eq c5, List.length_append]; exact vz b5
  refine mV rfl (av (dh (ai (af (bN fa rfl rfl (mV rfl (av (cx ?_))))))))
  have hbd := ee c7
  have hinc : wr (a4 + 1) = a4 + 1 := dm (by omega) (by omega)
  erw [hinc]
  exact wC (ih  c5 d5 d0 c4 (by omega) (by omega) (by first | omega | (simp; done) | (simp only [List.length_append, List.length_cons, List.length_nil, List.length_set]; omega)) (Mem.sub d8 (.cons _ (.cons_cons _ .slnil))) hres) rfl

theorem av7 {x0 : aa} {x1 : Int} {v0 : PV} (r0 : aa.t.R x0 v0) : ∃ r, FnR Tryz.prog 45 [v0, vi x1] r ∧ (tSl tI).R (du x0 x1) r := by
 refine fnT (R := RF45) bv9 rfl fun res hres => ?_
 unfold du at hres
 refine sR (ab (dz rfl (TR.cnt aa.t r0)) (ab (v := nilS) (au rfl) (nS (ah (sR (lD r0 rfl rfl rfl (mV rfl ?_)))))))
 obtain ⟨c0, a3, hres⟩ := dl hres
 have b1 := bf5 (x1 := x1) r0 
 rw [a3] at b1
 refine cL b1 rfl rfl (aq (TR.clo aa.t r0) (aq rfl bh)) (ab (jy rfl) (nS ?_))
 refine dg hres rfl ?_ ?_ <;> clear hres <;> intro a4 hres <;> have a5 := a4 <;> try simp only [qa] at a5
 ·refine sR (ab (v := nilS) (au rfl) (nS ?_))
  exact rR hres rfl (TR.clo (tSl tI) ii) ii
 ·refine ay (ai (sR (ab (v := nilS) (au rfl) (nS (ah (sR (gL (aa.g_Tables r0) rfl rfl rfl fun b9 b8 => (mV rfl ?_))))))))
  obtain ⟨c1, b4, b2⟩ := dk (i := x1) b8 (by first | omega | (have hk := bn (by assumption) (by assumption); omega) | (have hk := tck (by assumption) (by assumption); omega) | (have hk := rtck (by assumption) (by assumption); omega) | (have hk := eck (by assumption) (by assumption) (by assumption); omega) | (have hk := tv (by assumption) (by assumption); omega) | (have hk := rtv (by assumption) (by assumption); omega)) (by first | omega | (have hk := bn (by assumption) (by assumption); omega) | (have hk := tck (by assumption) (by assumption); omega) | (have hk := rtck (by assumption) (by assumption); omega) | (have hk := eck (by assumption) (by assumption) (by assumption); omega) | (have hk := tv (by assumption) (by assumption); omega) | (have hk := rtv (by assumption) (by assumption); omega))
  refine ab (bp rfl rfl b4) (gL (ax.g_Keys b2) rfl rfl rfl fun c3 b0 => (ab (cw rfl (cg b0 Tryz.underlying85 _)) (mI rfl (nS (bf ?_)))))
  have b3 := qc (sz := 1) (es := []) (Mem.nil ⟨0, []⟩) 3 (.inl ⟨none, rfl, rfl⟩) (by simp)
  refine wC (zm r0 a3 a4 b0 ?_  aL rfl (.inl rfl) (by first | decide | simp) rfl (by omega) (by first | omega | (simp; done) | (simp only [List.length_append, List.length_cons, List.length_nil, List.length_set]; omega)) (Mem.sub b3 (.cons_cons _ .slnil)) hres) rfl
  ·intro a7 a6 a9 a1 a2 a8 a0 c4 b7 hres
   refine ft (ai (sR (mV rfl (mV rfl (nS ?_)))))
   obtain ⟨c5, b5, b6⟩ := xk (P := Tryz.prog) (k := 0) (t := tI) b7 rfl a2 a1 (Nat.le_trans a0 (by decide))
   subst hres
   exact dw (.tmp rfl .nil) b5 b6

end Go.Proofs.YthdnpgpnodgicaaGreat
