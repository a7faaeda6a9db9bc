/-
 The code of each function does what its plain program says.
-/
import Derived.Test.YthdnpgpnodgicaaGreatL7W3
set_option linter.all false
set_option maxRecDepth 100000
namespace Go.Proofs.YthdnpgpnodgicaaGreat
open Go Go.Pb Go.RowKit
def RF115 (res : (List cd)) (r : PV) : Prop := (tSl cd.t).R res r
theorem cs5 {x0 : aa} {x1 : Int} {v0 : PV} (r0 : aa.t.R x0 v0) : ∃ r, FnR Tryz.prog 115 [v0, vi x1] r ∧ (tSl cd.t).R (ww x0 x1) r := by
 refine fnT (R := RF115) bj7 rfl fun res hres => ?_
 unfold ww at hres
 refine sR (ab (dt rfl (TR.cnt aa.t r0)) (ab (v := nilS) (au rfl) (nS (ah (sR (mV rfl (bN (oe (b := -1)) rfl rfl (nS ?_))))))))
 refine di hres rfl ?_ ?_ <;> clear hres <;> intro c hres <;> try simp only [qa] at c
 ·refine sR (gL (aa.g_Metadata r0) rfl rfl rfl fun a7 a1 => (mV rfl (nS ?_)))
  exact rR hres rfl (TR.clo (tSl cd.t) a1) a1
 ·refine ay (ai (sR (gL (aa.g_Headers r0) rfl rfl rfl fun a9 a4 => (mV rfl ?_))))
  obtain ⟨b1, a2, hres⟩ := dq hres
  obtain ⟨b0, a5, a0⟩ := cu2 (x1 := x1) a4 
  rw [a2] at a0
  refine cL a5 rfl rfl (aq (TR.clo (tSl cv.t) a4) (aq rfl bg)) ?_
  obtain ⟨a8, a6, a3⟩ := cv.g_Fields a0
  refine ab (ay9 rfl a6) (mV rfl (nS ?_))
  exact rR hres rfl (TR.clo (tSl cd.t) a3) a3

def RF114 (res : cd) (r : PV) : Prop := cd.t.R res r
theorem cu9 {x0 : List cd} {x1 : Int} {v0 : PV} (r0 : (tSl cd.t).R x0 v0) : ∃ r, FnR Tryz.prog 114 [v0, vi x1] r ∧ cd.t.R (md x0 x1) r := by
 refine fnT (R := RF114) bo4 rfl fun res hres => ?_
 unfold md at hres
 refine sR ?_
 refine dh (x := .agg [vs [], vi 0]) (Mem.nil ⟨0, []⟩) rfl rfl (fun a6 a8 b2 a4 => ?_)
 refine nR (ab (ae4 (x := .agg [vs [], vi 0]) rfl rfl) (nS (ah (sR (mV rfl (bN cy rfl rfl (mV rfl ?_)))))))
 refine cn 5 (d := 13) (v := vb ((decide (x1 < 0)) || (decide ((x0.length : Int) ≤ x1)))) ?_ ?_
 ·intro S Q r
  cases a7 : (decide (x1 < 0))
  ·intro k
   have a1 := a7
   try simp only [qa] at a1
   refine am rfl rfl (au rfl) (am rfl rfl (au rfl) (am rfl rfl (cw rfl (cf r0 Tryz.underlying23 _)) (am rfl rfl (ba rfl rfl tn) ?_)))
   exact gK rfl rfl rfl rfl rfl k
  ·exact gN 4 rfl rfl rfl rfl rfl rfl
 refine nS ?_
 refine di hres rfl ?_ ?_ <;> clear hres <;> intro c hres <;> try simp only [qa] at c
 ·refine sR (lR rfl rfl rfl ?_)
  refine db (k := 0) (v := .agg [vs [], vi 0]) a4 rfl rfl rfl rfl (fun b1 a2 => ?_)
  replace a2 : Mem b1 [⟨.op a6 a8 0, 162, 2, [.agg [vs [], vi 0]]⟩] := a2
  refine nS ?_
  subst hres
  exact dw (.cell rfl (jk (k := 0) a2 rfl rfl) .nil) (ck (TR.clo cd.t (show cd.t.R ({ Name := ([] : List UInt8), Width := 0 } : cd) (.agg [vs [], vi 0]) from rfl))) (show cd.t.R ({ Name := ([] : List UInt8), Width := 0 } : cd) (.agg [vs [], vi 0]) from rfl)
 ·refine ay (ai (sR (mV rfl (mV rfl ?_))))
  obtain ⟨a5, a9, a0⟩ := dl (i := x1) r0 (by first | omega | (have hk := bn (by assumption) (by assumption); omega) | (have hk := tck (by assumption) (by assumption); omega) | (have hk := rtck (by assumption) (by assumption); omega) | (have hk := eck (by assumption) (by assumption) (by assumption); omega) | (have hk := tv (by assumption) (by assumption); omega) | (have hk := rtv (by assumption) (by assumption); omega)) (by first | omega | (have hk := bn (by assumption) (by assumption); omega) | (have hk := tck (by assumption) (by assumption); omega) | (have hk := rtck (by assumption) (by assumption); omega) | (have hk := eck (by assumption) (by assumption) (by assumption); omega) | (have hk := tv (by assumption) (by assumption); omega) | (have hk := rtv (by assumption) (by assumption); omega))
  refine ab (bq rfl rfl a9) (lD a0 rfl rfl rfl ?_)
  refine db (k := 0) (v := a5) a4 rfl rfl rfl (TR.cnt cd.t a0) (fun b0 a3 => ?_)
  replace a3 : Mem b0 [⟨.op a6 a8 0, 162, 2, [a5]⟩] := a3
  refine nS ?_
  subst hres
  exact dw (.cell rfl (jk (k := 0) a3 rfl (TR.agg cd.t a0)) .nil) (ck (TR.clo cd.t a0)) a0

def RF116 (res : Bool) (r : PV) : Prop := r = vb res
theorem aa3 {S : List Fr} {res : Bool} {x0 : List Int} {v0 : PV} (r0 : (tSl tI).R x0 v0) {K0 : Unit → Bool}
  (a5 : K0 () = res → PX Tryz.prog 0 S (QR Tryz.prog [(2, none)] (RF116 res)) [] ⟨0, []⟩) :
  ∀ {m : Nat} {a0 : Int} (a4 : m = Int.toNat ((x0.length : Int) - a0)) (a2 : 0 ≤ a0), ll x0 K0 m a0 = res → RC Tryz.prog (.loop ck9) S (QR Tryz.prog [(2, none)] (RF116 res)) [(7, vi a0), (6, vi (x0.length : Int)), (5, v0)] ⟨0, []⟩ := by
 intro m
 induction m with
 | zero =>
  intro a0 a4 a2 hres
  rw [ll] at hres
  refine bt (sR (bN cy rfl rfl (nS (ah ?_))))
  refine bc rfl ?_ ?_ <;> intro c <;> try simp only [qa] at c
  ·omega
  refine dm (fb (df ?_))
  exact wP (a5  hres) rfl
 | succ m ih =>
  intro a0 a4 a2 hres
  rw [ll] at hres
  refine bt (sR (bN cy rfl rfl (nS (ah ?_))))
  refine bc rfl ?_ ?_ <;> intro c <;> try simp only [qa] at c
  rotate_left
  ·omega
  refine ay (ai (ah (bd (sR (ab (bq rfl rfl (slI r0 (by first | omega | (have hk := bn (by assumption) (by assumption); omega) | (have hk := tck (by assumption) (by assumption); omega) | (have hk := rtck (by assumption) (by assumption); omega) | (have hk := eck (by assumption) (by assumption) (by assumption); omega) | (have hk := tv (by assumption) (by assumption); omega) | (have hk := rtv (by assumption) (by assumption); omega)) (by first | omega | (have hk := bn (by assumption) (by assumption); omega) | (have hk := tck (by assumption) (by assumption); omega) | (have hk := rtck (by assumption) (by assumption); omega) | (have hk := eck (by assumption) (by assumption) (by assumption); omega) | (have hk := tv (by assumption) (by assumption); omega) | (have hk := rtv (by assumption) (by assumption); omega)))) (lR rfl rfl rfl (mV rfl (nR ?_))))))))
  refine mV rfl (bN cy rfl rfl (mV rfl ?_))
  refine cn 3 (d := 16) (v := vb ((decide ((ix x0 a0) < 1)) || (decide (32 < (ix x0 a0))))) ?_ ?_
  ·intro S Q r
   cases a3 : (decide ((ix x0 a0) < 1))
   ·intro k
    have a1 := a3
    try simp only [qa] at a1
    refine am rfl rfl (au rfl) (am rfl rfl (ba rfl rfl ij) ?_)
    exact gK rfl rfl rfl rfl rfl k
   ·exact gN 2 rfl rfl rfl rfl rfl rfl
  refine nS ?_
  refine di hres rfl ?_ ?_ <;> clear hres <;> intro c hres <;> try simp only [qa] at c
  ·refine sR (mB rfl (nS ?_))
   exact rR hres rfl rfl rfl
  ·refine ay (dj (ai (af (bN ep rfl rfl (mV rfl (aw (cx ?_)))))))
   have hbd := dv r0
   have hinc : wr (a0 + 1) = a0 + 1 := du (by omega) (by omega)
   erw [hinc]
   exact wC (ih   (by omega) (by omega) hres) rfl

theorem ah9 {x0 : List Int} {v0 : PV} (r0 : (tSl tI).R x0 v0) : FnR Tryz.prog 116 [v0] (vb (ja x0)) := by
 refine fnS (R := RF116) bp5 (fun _ h => h) rfl fun res hres => ?_
 unfold ja at hres
 refine sR (mB rfl (nS (ah (sR (mV rfl (ab (cw rfl (cf r0 Tryz.underlying29 _)) (mI rfl (nS ?_))))))))
 refine bd ?_
 refine wC (aa3 r0 ?_  rfl (by omega) hres) rfl
 ·intro  hres
  refine fe (ai (sR (mB rfl (nS ?_))))
  exact rR hres rfl rfl rfl

def RF113 (res : (BitVec 32)) (r : PV) : Prop := r = dx res
theorem yw {x0 : Int} : FnR Tryz.prog 113 [vi x0] (dx (fa x0)) := by
 refine fnS (R := RF113) bj3 (fun _ h => h) rfl fun res hres => ?_
 unfold fa at hres
 refine sR (ab (v := dx 0#32) (au rfl) (nS (ah (sR (mV rfl (ab (v := .fs true [vi x0]) (iw rfl (all_cons rfl lu)) ?_))))))
 have a2 : (tSl tI).R ([x0] : List Int) (.fs true [vi x0]) := tp ⟨rfl, trivial⟩ (by simp)
 obtain ⟨a3, a1, hres⟩ := dq hres
 have a0 := ah9  a2 
 rw [a1] at a0
 refine cL a0 rfl rfl (aq (TR.clo (tSl tI) a2) bg) (ab (io rfl) (nS ?_))
 refine di hres rfl ?_ ?_ <;> clear hres <;> intro c hres <;> try simp only [qa] at c
 ·refine sR (ab (v := dx 0#32) (au rfl) (nS ?_))
  exact rR hres rfl rfl rfl
 ·refine ay (ai (sR (mV rfl (bN af9 rfl rfl (ab (ba (a := dx 4294967295#32) (b := vi (wr (32 - x0))) rfl rfl (bm2 (by first | omega | exact dd1 (by assumption) (by assumption)))) (mV rfl (nS ?_)))))))
  exact rR hres rfl rfl rfl

def RF81 (res : Int) (r : PV) : Prop := r = vi res
theorem cn5 {x0 : aa} {x1 : cm} {v0 v1 : PV} (r0 : aa.t.R x0 v0) (r1 : cm.t.R x1 v1) : FnR Tryz.prog 81 [v0, v1] (vi (qy x0 x1)) := by
 refine fnS (R := RF81) bz7 (fun _ h => h) rfl fun res hres => ?_
 unfold qy at hres
 refine sR (ab (dt rfl (TR.cnt aa.t r0)) (ab (dt rfl (TR.cnt cm.t r1)) (mI rfl (nR (lD r0 rfl rfl rfl (fL rfl (cm.g_Header r1) rfl rfl ?_))))))
 obtain ⟨b0, a3, hres⟩ := dq hres
 obtain ⟨b1, a9, a0⟩ := cs5 (x1 := x1.Header) r0 
 rw [a3] at a0
 refine cL a9 rfl rfl (aq (TR.clo aa.t r0) (aq rfl bg)) (fL rfl (cm.g_Field r1) rfl rfl ?_)
 obtain ⟨a7, a2, hres⟩ := dq hres
 obtain ⟨b2, a8, a5⟩ := cu9 (x1 := x1.Field) a0 
 rw [a2] at a5
 refine cL a8 rfl rfl (aq (TR.clo (tSl cd.t) a0) (aq rfl bg)) (ab (ay9 rfl (cd.g_Width a5)) (mV rfl (nS (ah (sR (mV rfl ?_))))))
 obtain ⟨a6, a4, hres⟩ := dq hres
 have a1 := yw (x0 := a7.Width)  
 rw [a4] at a1
 refine cL a1 rfl rfl (aq rfl bg) (ab (ba (a := dx a6) (b := dx 0#32) rfl rfl cb8) (nS ?_))
 refine di hres rfl ?_ ?_ <;> clear hres <;> intro c hres <;> try simp only [qa] at c
 ·refine sR (mI rfl (nS ?_))
  exact rR hres rfl rfl rfl
 ·refine ay (ai (sR (mV rfl (mV rfl (nS ?_)))))
  exact rR hres rfl rfl rfl

def RF74 (res : Int × Int) (r : PV) : Prop := r = .tup [vi res.1, vi res.2]
theorem xw {S : List Fr} {res : Int × Int} {x0 : aa} {x1 : az} {v0 a6 : PV} (r0 : aa.t.R x0 v0) (a8 : (tSl bh.t).R x1.Keys a6) {K0 : Int → Int → (Int × Int)}
  (c5 : ∀ {a4 a5 : Int} {h : Heap} (M0 : Mem h []), K0 a4 a5 = res → PX Tryz.prog 0 S (QR Tryz.prog [(4, none), (5, none)] (RF74 res)) [(6, vi a4), (7, vi a5)] h) :
  ∀ {m : Nat} {a4 a5 a0 : Int} (c3 : m = Int.toNat ((x1.Keys.length : Int) - a0)) (b1 : 0 ≤ a0) {h : Heap} (M0 : Mem h []), ik x0 x1 K0 m a4 a5 a0 = res → RC Tryz.prog (.loop dd5) S (QR Tryz.prog [(4, none), (5, none)] (RF74 res)) [(14, vi a0), (13, vi (x1.Keys.length : Int)), (12, a6), (7, vi a5), (6, vi a4), (2, .fp v0)] h := by
 intro m
 induction m with
 | zero =>
  intro a4 a5 a0 c3 b1 h M0 hres
  rw [ik] at hres
  refine bt (sR (bN cy rfl rfl (nS (ah ?_))))
  refine bc rfl ?_ ?_ <;> intro c <;> try simp only [qa] at c
  ·omega
  refine dm (fb (df ?_))
  exact wP (c5 (Mem.sub M0 .slnil) hres) rfl
 | succ m ih =>
  intro a4 a5 a0 c3 b1 h M0 hres
  rw [ik] at hres
  refine bt (sR (bN cy rfl rfl (nS (ah ?_))))
  refine bc rfl ?_ ?_ <;> intro c <;> try simp only [qa] at c
  rotate_left
  ·omega
  refine ay (ai (ah (bd (sR (mV rfl ?_)))))
  obtain ⟨b2, c1, a3⟩ := dl (i := a0) a8 (by first | omega | (have hk := bn (by assumption) (by assumption); omega) | (have hk := tck (by assumption) (by assumption); omega) | (have hk := rtck (by assumption) (by assumption); omega) | (have hk := eck (by assumption) (by assumption) (by assumption); omega) | (have hk := tv (by assumption) (by assumption); omega) | (have hk := rtv (by assumption) (by assumption); omega)) (by first | omega | (have hk := bn (by assumption) (by assumption); omega) | (have hk := tck (by assumption) (by assumption); omega) | (have hk := rtck (by assumption) (by assumption); omega) | (have hk := eck (by assumption) (by assumption) (by assumption); omega) | (have hk := tv (by assumption) (by assumption); omega) | (have hk := rtv (by assumption) (by assumption); omega))
  refine ab (bq rfl rfl c1) (lD a3 rfl rfl rfl ?_)
  refine dh (x := .agg [vi 0, vi 0, vi 0]) M0 rfl rfl (fun b8 b7 c6 b5 => ?_)
  refine mV rfl ?_
  refine db (k := 0) (v := b2) b5 rfl rfl rfl (TR.cnt bh.t a3) (fun a7 a2 => ?_)
  replace a2 : Mem a7 [⟨.op b8 b7 0, 112, 3, [b2]⟩] := a2
  refine nR (lD r0 rfl rfl rfl (ab (bf rfl) ?_))
  obtain ⟨c4, b6, a9⟩ := bh.g_Field a3
  refine ab (cp (k := 0) a2 rfl rfl b6) ?_
  obtain ⟨b9, b3, hres⟩ := dq hres
  have b0 := cn5  r0 a9 
  rw [b3] at b0
  refine cL b0 rfl rfl (aq (TR.clo aa.t r0) (aq (TR.clo cm.t a9) bg)) (mV rfl (nS (ah (sR (mV rfl (bN oe rfl rfl (nS ?_)))))))
  refine di hres rfl ?_ ?_ <;> clear hres <;> intro c hres <;> try simp only [qa] at c
  ·refine sR (mV rfl (mV rfl (mI rfl (nS ?_))))
   exact rT hres rfl rfl rfl rfl rfl
  ·refine ay (ai (ah (sR (ab (bf rfl) (ab (cp (k := 0) a2 rfl rfl (bh.g_Kind a3)) (nS (bd (sR ?_))))))))
   refine bN oe rfl rfl (mV rfl (nS ?_))
   refine di hres rfl ?_ ?_ <;> clear hres <;> intro c hres <;> try simp only [qa] at c
   ·refine af (mV rfl (bN ep rfl rfl (mV rfl (aw (dj (ai (af (mV rfl ?_))))))))
    refine mV rfl (bN ep rfl rfl (mV rfl (aw (dj (ai (af (bN ep rfl rfl (mV rfl ?_))))))))
    refine aw (cx ?_)
    have hbd := dv a8
    have hinc : wr (a0 + 1) = a0 + 1 := du (by omega) (by omega)
    erw [hinc]
    exact wC (ih   (by omega) (by omega) (Mem.sub a2 (.cons _ .slnil)) hres) rfl
   ·refine ah (sR (bN oe rfl rfl (mV rfl (nS ?_))))
    obtain ⟨c0, b4, hres⟩ := dq hres
    refine vv (F := fun b S Q => ∀ (a1 : Bool), c0 a1 = res → RC Tryz.prog b S Q [(33, vb a1), (14, vi a0), (13, vi (x1.Keys.length : Int)), (12, a6), (10, vi b9), (8, vi a0), (7, vi a5), (6, vi a4), (2, .fp v0)] a7) ?_ ?_
    ·intro a1  hres
     rw [← b4] at hres
     refine di hres rfl ?_ ?_ <;> clear hres <;> intro c hres <;> try simp only [qa] at c
     ·refine ay (dj (ai (af (mV rfl (mV rfl (bN ep rfl rfl (mV rfl (aw ?_))))))))
      refine dj (ai (af (bN ep rfl rfl (mV rfl (aw (cx ?_))))))
      have hbd := dv a8
      have hinc : wr (a0 + 1) = a0 + 1 := du (by omega) (by omega)
      erw [hinc]
      exact wC (ih   (by omega) (by omega) (Mem.sub (Mem.nil a7) .slnil) hres) rfl
     ·refine sR (mV rfl (mV rfl (mI rfl (nS ?_))))
      exact rT hres rfl rfl rfl rfl rfl
    ·intro J
     refine di hres rfl ?_ ?_ <;> clear hres <;> intro c hres <;> try simp only [qa] at c
     ·refine ay ?_
      refine ai (wC (J _  hres) rfl)
     ·refine af (bN oe rfl rfl (mV rfl (aw ?_)))
      refine ai (wC (J _  hres) rfl)

theorem dm0 {x0 : aa} {x1 : az} {v0 v1 : PV} (r0 : aa.t.R x0 v0) (r1 : az.t.R x1 v1) : FnR Tryz.prog 74 [v0, v1] (.tup [vi ((mu x0 x1).1), vi ((mu x0 x1).2)]) := by
 refine fnS (R := RF74) bx7 (fun _ h => h) rfl fun res hres => ?_
 unfold mu at hres
 refine sR (ab (dt rfl (TR.cnt aa.t r0)) (ab (dt rfl (TR.cnt az.t r1)) (mI rfl (mI rfl (nR (mI rfl (mI rfl (nS ?_))))))))
 refine ah (sR (gL (az.g_Keys r1) rfl rfl rfl fun a3 a0 => (ab (cw rfl (cf a0 Tryz.underlying85 _)) (mI rfl (nS (bd ?_))))))
 refine wC (xw r0 a0 ?_  rfl (by omega) (Mem.sub (Mem.nil ⟨0, []⟩) .slnil) hres) rfl
 ·intro a1 a2 a4 a5 hres
  refine fe (ai (ah (sR (mV rfl (bN ij rfl rfl (nS ?_))))))
  refine di hres rfl ?_ ?_ <;> clear hres <;> intro c hres <;> try simp only [qa] at c
  ·refine sR (mI rfl (mI rfl (nS ?_)))
   exact rT hres rfl rfl rfl rfl rfl
  ·refine ay (ai (ah (sR (mV rfl (bN ij rfl rfl (nS ?_))))))
   refine di hres rfl ?_ ?_ <;> clear hres <;> intro c hres <;> try simp only [qa] at c
   ·refine sR (mI rfl (mI rfl (nS ?_)))
    exact rT hres rfl rfl rfl rfl rfl
   ·refine ay (ai (sR (mI rfl (mI rfl (nS ?_)))))
    exact rT hres rfl rfl rfl rfl rfl

def RF95 (res : Bool) (r : PV) : Prop := r = vb res
theorem au9 {x0 : BitVec 32} {x1 : Int} : FnR Tryz.prog 95 [dx x0, vi x1] (vb (kh x0 x1)) := by
 refine fnS (R := RF95) by1 (fun _ h => h) rfl fun res hres => ?_
 unfold kh at hres
 refine sR (mB rfl (nR (mV rfl (ab (v := .fs true [vi x1]) (iw rfl (all_cons rfl lu)) ?_))))
 have a5 : (tSl tI).R ([x1] : List Int) (.fs true [vi x1]) := tp ⟨rfl, trivial⟩ (by simp)
 obtain ⟨a2, a4, hres⟩ := dq hres
 have a1 := ah9  a5 
 rw [a4] at a1
 refine cL a1 rfl rfl (aq (TR.clo (tSl tI) a5) bg) (mV rfl ?_)
 refine cn 5 (d := 13) (v := vb (a2 && (decide (x0 ≤ (fa x1))))) ?_ ?_
 ·intro S Q r
  cases a3 : a2
  ·exact gN 4 rfl rfl rfl rfl rfl rfl
  ·intro k
   have a0 := a3
   try simp only [qa] at a0
   refine am rfl rfl (au rfl) (am rfl rfl (au rfl) ?_)
   have a6 := yw (x0 := x1)  
   refine kp rfl rfl (sj rfl rfl (aq rfl bg) a6) (am rfl rfl (ba (a := dx x0) (b := dx (fa x1)) rfl rfl ed0) ?_)
   exact gK rfl rfl rfl rfl rfl k
 refine mV rfl (nS ?_)
 exact rR hres rfl rfl rfl

def RF78 (res : Int) (r : PV) : Prop := r = vi res
theorem xq {S : List Fr} {res : Int} {x0 : aa} {x1 : ax} {a6 a3 : PV} (a4 : ((decide (x1.Action < 0)) || (decide ((x0.Actions.length : Int) ≤ x1.Action))) = false) (b2 : (tSl cd.t).R ((ix x0.Actions x1.Action).Params) a6) (a9 : (!decide ((x1.Args.length : Int) = (((ix x0.Actions x1.Action).Params).length : Int))) = false) (a8 : (tSl lr).R x1.Args a3) {K0 : Unit → Int}
  (b7 : K0 () = res → PX Tryz.prog 0 S (QR Tryz.prog [(4, none)] (RF78 res)) [] ⟨0, []⟩) :
  ∀ {m : Nat} {a0 : Int} (b4 : m = Int.toNat ((x1.Args.length : Int) - a0)) (a5 : 0 ≤ a0), jf x0 x1 K0 m a0 = res → RC Tryz.prog (.loop dc1) S (QR Tryz.prog [(4, none)] (RF78 res)) [(35, vi a0), (34, vi (x1.Args.length : Int)), (33, a3), (5, a6)] ⟨0, []⟩ := by
 have a2 := a4
 try simp only [qa] at a2
 have a1 := a9
 try simp only [qa] at a1
 intro m
 induction m with
 | zero =>
  intro a0 b4 a5 hres
  rw [jf] at hres
  refine bt (sR (bN cy rfl rfl (nS (ah ?_))))
  refine bc rfl ?_ ?_ <;> intro c <;> try simp only [qa] at c
  ·omega
  refine dm (fb (df ?_))
  exact wP (b7  hres) rfl
 | succ m ih =>
  intro a0 b4 a5 hres
  rw [jf] at hres
  refine bt (sR (bN cy rfl rfl (nS (ah ?_))))
  refine bc rfl ?_ ?_ <;> intro c <;> try simp only [qa] at c
  rotate_left
  ·omega
  refine ay (ai (ah (bd (sR (mV rfl (ab (bq rfl rfl (ap0 a8 (by first | omega | (have hk := bn (by assumption) (by assumption); omega) | (have hk := tck (by assumption) (by assumption); omega) | (have hk := rtck (by assumption) (by assumption); omega) | (have hk := eck (by assumption) (by assumption) (by assumption); omega) | (have hk := tv (by assumption) (by assumption); omega) | (have hk := rtv (by assumption) (by assumption); omega)) (by first | omega | (have hk := bn (by assumption) (by assumption); omega) | (have hk := tck (by assumption) (by assumption); omega) | (have hk := rtck (by assumption) (by assumption); omega) | (have hk := eck (by assumption) (by assumption) (by assumption); omega) | (have hk := tv (by assumption) (by assumption); omega) | (have hk := rtv (by assumption) (by assumption); omega)))) (lR rfl rfl rfl (mV rfl ?_))))))))
  refine mV rfl (nR (mV rfl (mV rfl (mV rfl ?_))))
  obtain ⟨b5, b3, b1⟩ := dl (i := a0) b2 (by first | omega | (have hk := bn (by assumption) (by assumption); omega) | (have hk := tck (by assumption) (by assumption); omega) | (have hk := rtck (by assumption) (by assumption); omega) | (have hk := eck (by assumption) (by assumption) (by assumption); omega) | (have hk := tv (by assumption) (by assumption); omega) | (have hk := rtv (by assumption) (by assumption); omega)) (by first | omega | (have hk := bn (by assumption) (by assumption); omega) | (have hk := tck (by assumption) (by assumption); omega) | (have hk := rtck (by assumption) (by assumption); omega) | (have hk := eck (by assumption) (by assumption) (by assumption); omega) | (have hk := tv (by assumption) (by assumption); omega) | (have hk := rtv (by assumption) (by assumption); omega))
  refine ab (bq rfl rfl b3) (fL rfl (cd.g_Width b1) rfl rfl ?_)
  obtain ⟨b6, a7, hres⟩ := dq hres
  have b0 := au9 (x0 := (ix x1.Args a0)) (x1 := (ix ((ix x0.Actions x1.Action).Params) a0).Width)  
  rw [a7] at b0
  refine cL b0 rfl rfl (aq rfl (aq rfl bg)) (ab (io rfl) (nS ?_))
  refine di hres rfl ?_ ?_ <;> clear hres <;> intro c hres <;> try simp only [qa] at c
  ·refine sR (mI rfl (nS ?_))
   exact rR hres rfl rfl rfl
  ·refine ay (dj (ai (af (bN ep rfl rfl (mV rfl (aw (cx ?_)))))))
   have hbd := dv a8
   have hinc : wr (a0 + 1) = a0 + 1 := du (by omega) (by omega)
   erw [hinc]
   exact wC (ih   (by omega) (by omega) hres) rfl

theorem cm3 {x0 : aa} {x1 : ax} {v0 v1 : PV} (r0 : aa.t.R x0 v0) (r1 : ax.t.R x1 v1) : FnR Tryz.prog 78 [v0, v1] (vi (mc x0 x1)) := by
 refine fnS (R := RF78) bx8 (fun _ h => h) rfl fun res hres => ?_
 unfold mc at hres
 refine sR (ab (dt rfl (TR.cnt aa.t r0)) (ab (dt rfl (TR.cnt ax.t r1)) (mI rfl (nS (ah (sR (fL rfl (ax.g_Action r1) rfl rfl (bN cy rfl rfl ?_))))))))
 refine mV rfl ?_
 refine cn 7 (d := 18) (v := vb ((decide (x1.Action < 0)) || (decide ((x0.Actions.length : Int) ≤ x1.Action)))) ?_ ?_
 ·intro S Q r
  cases a6 : (decide (x1.Action < 0))
  ·intro k
   have a5 := a6
   try simp only [qa] at a5
   refine am rfl rfl (bz rfl (ax.g_Action r1)) (am rfl rfl (br rfl rfl rfl) ?_)
   obtain ⟨b7, b4, a3⟩ := aa.g_Actions r0
   refine am rfl rfl (bz rfl b4) (am rfl rfl (br rfl (TR.cnt (tSl cz.t) a3) (TR.agg (tSl cz.t) a3)) (am rfl rfl (cw rfl (cf a3 Tryz.underlying25 _)) (am rfl rfl (ba rfl rfl tn) ?_)))
   exact gK rfl rfl rfl rfl rfl k
  ·exact gN 6 rfl rfl rfl rfl rfl rfl
 refine nS ?_
 refine di hres rfl ?_ ?_ <;> clear hres <;> intro a0 hres <;> have a4 := a0 <;> try simp only [qa] at a4
 ·refine sR (mI rfl (nS ?_))
  exact rR hres rfl rfl rfl
 ·refine ay (ai (sR ?_))
  obtain ⟨b9, b5, b0⟩ := aa.g_Actions r0
  refine fA rfl b5 (lD b0 rfl rfl rfl (fL rfl (ax.g_Action r1) rfl rfl ?_))
  obtain ⟨c0, b3, b1⟩ := dl (i := x1.Action) b0 (by first | omega | (have hk := bn (by assumption) (by assumption); omega) | (have hk := tck (by assumption) (by assumption); omega) | (have hk := rtck (by assumption) (by assumption); omega) | (have hk := eck (by assumption) (by assumption) (by assumption); omega) | (have hk := tv (by assumption) (by assumption); omega) | (have hk := rtv (by assumption) (by assumption); omega)) (by first | omega | (have hk := bn (by assumption) (by assumption); omega) | (have hk := tck (by assumption) (by assumption); omega) | (have hk := rtck (by assumption) (by assumption); omega) | (have hk := eck (by assumption) (by assumption) (by assumption); omega) | (have hk := tv (by assumption) (by assumption); omega) | (have hk := rtv (by assumption) (by assumption); omega))
  refine ab (bq rfl rfl b3) (gL (cz.g_Params b1) rfl rfl rfl fun b8 a7 => (mV rfl (nS (ah (sR ?_)))))
  obtain ⟨c1, b2, a9⟩ := ax.g_Args r1
  refine fA rfl b2 (lD a9 rfl rfl rfl (ab (cw rfl (cf a9 Tryz.underlying33 _)) (mV rfl (ab (cw rfl (cf a7 Tryz.underlying23 _)) (bN ma rfl rfl (nS ?_))))))
  refine di hres rfl ?_ ?_ <;> clear hres <;> intro a1 hres <;> have a2 := a1 <;> try simp only [qa] at a2
  ·refine sR (mI rfl (nS ?_))
   exact rR hres rfl rfl rfl
  ·refine ay (ai (ah (sR (gL (ax.g_Args r1) rfl rfl rfl fun b6 a8 => (ab (cw rfl (cf a8 Tryz.underlying33 _)) (mI rfl (nS (bd ?_))))))))
   refine wC (xq a0 a7 a1 a8 ?_  rfl (by omega) hres) rfl
   ·intro  hres
    refine fe (ai (sR (mI rfl (nS ?_))))
    exact rR hres rfl rfl rfl

def RF75 (res : Int) (r : PV) : Prop := r = vi res
theorem wc {S : List Fr} {res : Int} {x0 : aa} {x1 : az} {v0 v1 b1 : PV} {a4 a5 : Nat} (r0 : aa.t.R x0 v0) (b0 : (tSl tI).R x1.Actions b1) {K0 : (List (Int × Bool)) → Int}
  (c0 : ∀ {a1 : List (Int × Bool)} {a0 : List PV} (a3 : All2 (tKV tB).R a1 a0) {h : Heap} (M0 : Mem h [⟨.om a4 a5, 82, 2, a0⟩]), K0 a1 = res → PX Tryz.prog 0 S (QR Tryz.prog [(4, none)] (RF75 res)) [(2, .fp v0), (3, .fp v1), (5, .om a4 a5)] h) :
  ∀ {m : Nat} {a2 : Int} {a1 : List (Int × Bool)} {a0 : List PV} (a3 : All2 (tKV tB).R a1 a0) (b8 : m = Int.toNat ((x1.Actions.length : Int) - a2)) (a9 : 0 ≤ a2) {h : Heap} (M0 : Mem h [⟨.om a4 a5, 82, 2, a0⟩]), gi x0 x1 K0 m a2 a1 = res → RC Tryz.prog (.loop dc5) S (QR Tryz.prog [(4, none)] (RF75 res)) [(12, vi a2), (11, vi (x1.Actions.length : Int)), (10, b1), (5, .om a4 a5), (3, .fp v1), (2, .fp v0)] h := by
 intro m
 induction m with
 | zero =>
  intro a2 a1 a0 a3 b8 a9 h M0 hres
  rw [gi] at hres
  refine bt (sR (bN cy rfl rfl (nS (ah ?_))))
  refine bc rfl ?_ ?_ <;> intro c <;> try simp only [qa] at c
  ·omega
  refine dm (fb (df ?_))
  exact wP (c0 a3 (Mem.sub M0 (.cons_cons _ .slnil)) hres) rfl
 | succ m ih =>
  intro a2 a1 a0 a3 b8 a9 h M0 hres
  rw [gi] at hres
  refine bt (sR (bN cy rfl rfl (nS (ah ?_))))
  refine bc rfl ?_ ?_ <;> intro c <;> try simp only [qa] at c
  rotate_left
  ·omega
  refine ay (ai (ah (bd (sR (ab (bq rfl rfl (slI b0 (by first | omega | (have hk := bn (by assumption) (by assumption); omega) | (have hk := tck (by assumption) (by assumption); omega) | (have hk := rtck (by assumption) (by assumption); omega) | (have hk := eck (by assumption) (by assumption) (by assumption); omega) | (have hk := tv (by assumption) (by assumption); omega) | (have hk := rtv (by assumption) (by assumption); omega)) (by first | omega | (have hk := bn (by assumption) (by assumption); omega) | (have hk := tck (by assumption) (by assumption); omega) | (have hk := rtck (by assumption) (by assumption); omega) | (have hk := eck (by assumption) (by assumption) (by assumption); omega) | (have hk := tv (by assumption) (by assumption); omega) | (have hk := rtv (by assumption) (by assumption); omega)))) (lR rfl rfl rfl (mV rfl (nS ?_))))))))
  refine ah (sR (mV rfl (bN cy rfl rfl (mV rfl ?_))))
  refine cn 6 (d := 24) (v := vb ((decide ((ix x1.Actions a2) < 0)) || (decide ((x0.Actions.length : Int) ≤ (ix x1.Actions a2))))) ?_ ?_
  ·intro S Q r
   cases b2 : (decide ((ix x1.Actions a2) < 0))
   ·intro k
    have a6 := b2
    try simp only [qa] at a6
    refine am rfl rfl (au rfl) ?_
    obtain ⟨c1, b4, a8⟩ := aa.g_Actions r0
    refine am rfl rfl (bz rfl b4) (am rfl rfl (br rfl (TR.cnt (tSl cz.t) a8) (TR.agg (tSl cz.t) a8)) (am rfl rfl (cw rfl (cf a8 Tryz.underlying25 _)) (am rfl rfl (ba rfl rfl tn) ?_)))
    exact gK rfl rfl rfl rfl rfl k
   ·exact gN 5 rfl rfl rfl rfl rfl rfl
  refine nS ?_
  refine di hres rfl ?_ ?_ <;> clear hres <;> intro c hres <;> try simp only [qa] at c
  ·refine sR (mI rfl (nS ?_))
   exact rR hres rfl rfl rfl
  ·refine ay (ai (ah (sR (mV rfl (mV rfl ?_)))))
   refine ay0 (k := 0) (t := tB) (zero := false) M0 rfl rfl rfl a3 rfl (fun b3 a7 => ?_)
   have a7 : b3 = vb ((mget a1 (ix x1.Actions a2)).getD false) := a7; subst a7
   refine nS ?_
   refine di hres rfl ?_ ?_ <;> clear hres <;> intro c hres <;> try simp only [qa] at c
   ·refine sR (mI rfl (nS ?_))
    exact rR hres rfl rfl rfl
   ·refine ay (ai (af (mV rfl (mV rfl ?_))))
    refine bq2 (k := 0) (t := tB) (v := vb true) M0 rfl rfl rfl rfl a3 (show tB.R true (vb true) from rfl) (fun b9 b7 b6 b5 => ?_)
    refine aw (dj (ai (af (bN ep rfl rfl (mV rfl (aw (cx ?_)))))))
    have hbd := dv b0
    have hinc : wr (a2 + 1) = a2 + 1 := du (by omega) (by omega)
    erw [hinc]
    exact wC (ih  b5 (by omega) (by omega) (Mem.sub b6 (.cons_cons _ .slnil)) hres) rfl

theorem dp2 {x0 : aa} {x1 : az} {v0 v1 : PV} (r0 : aa.t.R x0 v0) (r1 : az.t.R x1 v1) : FnR Tryz.prog 75 [v0, v1] (vi (mo x0 x1)) := by
 refine fnS (R := RF75) cl2 (fun _ h => h) rfl fun res hres => ?_
 unfold mo at hres
 refine sR (ab (dt rfl (TR.cnt aa.t r0)) (ab (dt rfl (TR.cnt az.t r1)) (mI rfl (nR ?_))))
 refine ah6 (Mem.nil ⟨0, []⟩) (fun c0 c1 b6 a8 => ?_)
 have b0 : All2 (tKV tB).R ([] : List (Int × Bool)) [] := trivial
 refine mV rfl (nS (ah (sR (gL (az.g_Actions r1) rfl rfl rfl fun b9 a6 => (ab (cw rfl (cf a6 Tryz.underlying29 _)) (mI rfl (nS (bd ?_))))))))
 refine wC (wc r0 a6 ?_  b0 rfl (by omega) (Mem.sub a8 (.cons_cons _ .slnil)) hres) rfl
 ·intro a0 a3 a1 b5 a9 hres
  refine fe (ai (ah (sR (mV rfl ?_))))
  obtain ⟨b8, b2, b1⟩ := az.g_Default r1
  refine fA rfl b2 (fL rfl (ax.g_Action b1) rfl rfl ?_)
  refine ay0 (k := 0) (t := tB) (zero := false) a9 rfl rfl rfl a1 rfl (fun b3 a2 => ?_)
  have a2 : b3 = vb ((mget a0 x1.Default.Action).getD false) := a2; subst a2
  refine ab (io rfl) (nS ?_)
  refine di hres rfl ?_ ?_ <;> clear hres <;> intro c hres <;> try simp only [qa] at c
  ·refine sR (mI rfl (nS ?_))
   exact rR hres rfl rfl rfl
  ·refine ay (ai (sR (lD r0 rfl rfl rfl (gL (az.g_Default r1) rfl rfl rfl fun b4 a7 => ?_))))
   obtain ⟨b7, a4, hres⟩ := dq hres
   have a5 := cm3  r0 a7 
   rw [a4] at a5
   refine cL a5 rfl rfl (aq (TR.clo aa.t r0) (aq (TR.clo ax.t a7) bg)) (mV rfl (nS ?_))
   exact rR hres rfl rfl rfl

def RF39 (res : Int × Int) (r : PV) : Prop := r = .tup [vi res.1, vi res.2]
theorem bg9 {x0 : aa} {x1 : Int} {v0 : PV} (r0 : aa.t.R x0 v0) : FnR Tryz.prog 39 [v0, vi x1] (.tup [vi ((gy x0 x1).1), vi ((gy x0 x1).2)]) := by
 refine fnS (R := RF39) cm2 (fun _ h => h) rfl fun res hres => ?_
 unfold gy at hres
 refine sR (ab (dt rfl (TR.cnt aa.t r0)) (mI rfl (mI rfl (nS (ah (sR (mV rfl (bN cy rfl rfl ?_))))))))
 refine mV rfl ?_
 refine cn 6 (d := 15) (v := vb ((decide (x1 < 0)) || (decide ((x0.Tables.length : Int) ≤ x1)))) ?_ ?_
 ·intro S Q r
  cases a9 : (decide (x1 < 0))
  ·intro k
   have a5 := a9
   try simp only [qa] at a5
   refine am rfl rfl (au rfl) ?_
   obtain ⟨d1, c3, a2⟩ := aa.g_Tables r0
   refine am rfl rfl (bz rfl c3) (am rfl rfl (br rfl (TR.cnt (tSl az.t) a2) (TR.agg (tSl az.t) a2)) (am rfl rfl (cw rfl (cf a2 Tryz.underlying26 _)) (am rfl rfl (ba rfl rfl tn) ?_)))
   exact gK rfl rfl rfl rfl rfl k
  ·exact gN 5 rfl rfl rfl rfl rfl rfl
 refine nS ?_
 refine di hres rfl ?_ ?_ <;> clear hres <;> intro c hres <;> try simp only [qa] at c
 ·refine sR (mI rfl (mI rfl (nS ?_)))
  exact rT hres rfl rfl rfl rfl rfl
 ·refine ay (ai (sR ?_))
  obtain ⟨d4, c4, b5⟩ := aa.g_Tables r0
  refine fA rfl c4 (lD b5 rfl rfl rfl (mV rfl ?_))
  obtain ⟨b3, b9, a0⟩ := dl (i := x1) b5 (by first | omega | (have hk := bn (by assumption) (by assumption); omega) | (have hk := tck (by assumption) (by assumption); omega) | (have hk := rtck (by assumption) (by assumption); omega) | (have hk := eck (by assumption) (by assumption) (by assumption); omega) | (have hk := tv (by assumption) (by assumption); omega) | (have hk := rtv (by assumption) (by assumption); omega)) (by first | omega | (have hk := bn (by assumption) (by assumption); omega) | (have hk := tck (by assumption) (by assumption); omega) | (have hk := rtck (by assumption) (by assumption); omega) | (have hk := eck (by assumption) (by assumption) (by assumption); omega) | (have hk := tv (by assumption) (by assumption); omega) | (have hk := rtv (by assumption) (by assumption); omega))
  refine ab (bq rfl rfl b9) (lD a0 rfl rfl rfl ?_)
  refine dh (x := .agg [vs [], nilS, nilS, vi 0, nilS, vi 0]) (Mem.nil ⟨0, []⟩) rfl rfl (fun c8 c0 d6 b7 => ?_)
  refine db (k := 0) (v := b3) b7 rfl rfl rfl (TR.cnt az.t a0) (fun c1 a1 => ?_)
  replace a1 : Mem c1 [⟨.op c8 c0 0, 87, 6, [b3]⟩] := a1
  refine nS (ah (bd (sR (ab (bf rfl) (ab (cp (k := 0) a1 rfl rfl (az.g_Name a0)) ?_)))))
  obtain ⟨d3, b4, hres⟩ := dq hres
  have b1 := dv8 (x0 := (ix x0.Tables x1).Name)  
  rw [b4] at b1
  refine cL b1 rfl rfl (aq rfl bg) (ab (io rfl) (mV rfl (nS ?_)))
  refine di hres rfl ?_ ?_ <;> clear hres <;> intro c hres <;> try simp only [qa] at c
  ·refine sR (mI rfl (mI rfl (nS ?_)))
   exact rT hres rfl rfl rfl rfl rfl
  ·refine sR (ab (bf rfl) ?_)
   obtain ⟨d2, b8, c7⟩ := az.g_Keys a0
   refine ab (cp (k := 0) a1 rfl rfl b8) (ab (cw rfl (cf c7 Tryz.underlying85 _)) (bN ij rfl rfl (mV rfl ?_)))
   refine cn 5 (d := 36) (v := vb ((decide (6 < (((ix x0.Tables x1).Keys).length : Int))) || (decide (16 < (((ix x0.Tables x1).Actions).length : Int))))) ?_ ?_
   ·intro S Q r
    cases a8 : (decide (6 < (((ix x0.Tables x1).Keys).length : Int)))
    ·intro k
     have a3 := a8
     try simp only [qa] at a3
     refine am rfl rfl (bf rfl) ?_
     obtain ⟨d5, c6, c5⟩ := az.g_Actions a0
     refine am rfl rfl (cp (k := 0) a1 rfl rfl c6) (am rfl rfl (cw rfl (cf c5 Tryz.underlying29 _)) (am rfl rfl (ba rfl rfl ij) ?_))
     exact gK rfl rfl rfl rfl rfl k
    ·exact gN 4 rfl rfl rfl rfl rfl rfl
   refine mV rfl (nS ?_)
   refine di hres rfl ?_ ?_ <;> clear hres <;> intro c hres <;> try simp only [qa] at c
   ·refine sR (mI rfl (mI rfl (nS ?_)))
    exact rT hres rfl rfl rfl rfl rfl
   ·refine sR (ab (bf rfl) (ab (cp (k := 0) a1 rfl rfl (az.g_Size a0)) (bN cy rfl rfl (mV rfl ?_))))
    refine cn 4 (d := 45) (v := vb ((decide (((ix x0.Tables x1).Size) < 1)) || (decide (256 < ((ix x0.Tables x1).Size))))) ?_ ?_
    ·intro S Q r
     cases b2 : (decide (((ix x0.Tables x1).Size) < 1))
     ·intro k
      have a4 := b2
      try simp only [qa] at a4
      refine am rfl rfl (bf rfl) (am rfl rfl (cp (k := 0) a1 rfl rfl (az.g_Size a0)) (am rfl rfl (ba rfl rfl ij) ?_))
      exact gK rfl rfl rfl rfl rfl k
     ·exact gN 3 rfl rfl rfl rfl rfl rfl
    refine mV rfl (nS ?_)
    refine di hres rfl ?_ ?_ <;> clear hres <;> intro c hres <;> try simp only [qa] at c
    ·refine sR (mI rfl (mI rfl (nS ?_)))
     exact rT hres rfl rfl rfl rfl rfl
    ·refine ay (dj (ai (ah (sR (lD r0 rfl rfl rfl (ab (fw (k := 0) a1 rfl rfl (TR.agg az.t a0)) ?_))))))
     obtain ⟨d0, a6, hres⟩ := dq hres
     have a7 := dm0  r0 a0 
     rw [a6] at a7
     refine cL a7 rfl rfl (aq (TR.clo aa.t r0) (aq (TR.clo az.t a0) bg)) (mV rfl (xT rfl rfl (xT rfl rfl (mV rfl (mV rfl (nR (mV rfl (bN ma rfl rfl ?_))))))))
     refine nS ?_
     refine di hres rfl ?_ ?_ <;> clear hres <;> intro c hres <;> try simp only [qa] at c
     ·refine sR (mV rfl (mV rfl (mV rfl (mV rfl (nS ?_)))))
      exact rT hres rfl rfl rfl rfl rfl
     ·refine ay (ai (ah (sR (lD r0 rfl rfl rfl (ab (fw (k := 0) a1 rfl rfl (TR.agg az.t a0)) ?_)))))
      obtain ⟨c9, b0, hres⟩ := dq hres
      have b6 := dp2  r0 a0 
      rw [b0] at b6
      refine cL b6 rfl rfl (aq (TR.clo aa.t r0) (aq (TR.clo az.t a0) bg)) (mV rfl (nR (mV rfl (bN ma rfl rfl (nS ?_)))))
      refine di hres rfl ?_ ?_ <;> clear hres <;> intro c hres <;> try simp only [qa] at c
      ·refine sR (mV rfl (mI rfl (mV rfl (nS ?_))))
       exact rT hres rfl rfl rfl rfl rfl
      ·refine ay (ai (sR (mI rfl (mI rfl (nS ?_)))))
       exact rT hres rfl rfl rfl rfl rfl

def RF80 (res : Bool) (r : PV) : Prop := r = vb res
theorem bf2 {x0 : aa} {x1 : Int} {v0 : PV} (r0 : aa.t.R x0 v0) : FnR Tryz.prog 80 [v0, vi x1] (vb (gh x0 x1)) := by
 refine fnS (R := RF80) cm6 (fun _ h => h) rfl fun res hres => ?_
 unfold gh at hres
 refine sR (ab (dt rfl (TR.cnt aa.t r0)) (mB rfl (nR (lD r0 rfl rfl rfl (mV rfl ?_)))))
 obtain ⟨a2, a0, hres⟩ := dq hres
 have a1 := bg9 (x1 := x1) r0 
 rw [a0] at a1
 refine cL a1 rfl rfl (aq (TR.clo aa.t r0) (aq rfl bg)) (mV rfl (xT rfl rfl (xT rfl rfl (mV rfl (mV rfl (nR (mV rfl (bN oe rfl rfl ?_))))))))
 refine mV rfl (nS ?_)
 exact rR hres rfl rfl rfl

def RF45 (res : (List Int)) (r : PV) : Prop := (tSl tI).R res r
theorem zv {S : List Fr} {res : (List Int)} {x0 : aa} {x1 : Int} {b7 : Bool} {v0 c6 : PV} (r0 : aa.t.R x0 v0) (d9 : gh x0 x1 = b7) (c5 : (!b7) = false) (b5 : (tSl bh.t).R ((ix x0.Tables x1).Keys) c6) {K0 : (List Int) → (List Int)}
  (e4 : ∀ {a2 : List Int} {a0 : List PV} {a1 : PV} (a5 : All2 tI.R a2 a0) (a7 : isL a1 = true) (a3 : Wri a1 a0) (a6 : a2.length ≤ 4611686018427387904) {h : Heap} (M0 : Mem h [⟨a1, 3, 1, a0⟩]), K0 a2 = res → PX Tryz.prog 0 S (QR Tryz.prog [(4, none)] (RF45 res)) [(5, a1)] h) :
  ∀ {m : Nat} {a4 : Int} {a2 : List Int} {a0 : List PV} {a1 : PV} (a5 : All2 tI.R a2 a0) (a7 : isL a1 = true) (a3 : Wri a1 a0) (a6 : a2.length ≤ 4611686018427387904) (e0 : m = Int.toNat ((((ix x0.Tables x1).Keys).length : Int) - a4)) (c3 : 0 ≤ a4) (b2 : (a2.length : Int) ≤ a4) {h : Heap} (M0 : Mem h [⟨a1, 3, 1, a0⟩]), ki x0 x1 K0 m a4 a2 = res → RC Tryz.prog (.loop cq2) S (QR Tryz.prog [(4, none)] (RF45 res)) [(19, vi a4), (18, vi (((ix x0.Tables x1).Keys).length : Int)), (17, c6), (5, a1), (2, .fp v0)] h := by
 have b4 := c5
 try simp only [qa] at b4
 intro m
 induction m with
 | zero =>
  intro a4 a2 a0 a1 a5 a7 a3 a6 e0 c3 b2 h M0 hres
  rw [ki] at hres
  refine bt (sR (bN cy rfl rfl (nS (ah ?_))))
  refine bc rfl ?_ ?_ <;> intro c <;> try simp only [qa] at c
  ·omega
  refine dm (fb (df ?_))
  exact wP (e4 a5 a7 a3 a6 (Mem.sub M0 (.cons_cons _ .slnil)) hres) rfl
 | succ m ih =>
  intro a4 a2 a0 a1 a5 a7 a3 a6 e0 c3 b2 h M0 hres
  rw [ki] at hres
  refine bt (sR (bN cy rfl rfl (nS (ah ?_))))
  refine bc rfl ?_ ?_ <;> intro c <;> try simp only [qa] at c
  rotate_left
  ·omega
  refine ay (ai (ah (bd (sR ?_))))
  obtain ⟨b9, d7, b3⟩ := dl (i := a4) b5 (by first | omega | (have hk := bn (by assumption) (by assumption); omega) | (have hk := tck (by assumption) (by assumption); omega) | (have hk := rtck (by assumption) (by assumption); omega) | (have hk := eck (by assumption) (by assumption) (by assumption); omega) | (have hk := tv (by assumption) (by assumption); omega) | (have hk := rtv (by assumption) (by assumption); omega)) (by first | omega | (have hk := bn (by assumption) (by assumption); omega) | (have hk := tck (by assumption) (by assumption); omega) | (have hk := rtck (by assumption) (by assumption); omega) | (have hk := eck (by assumption) (by assumption) (by assumption); omega) | (have hk := tv (by assumption) (by assumption); omega) | (have hk := rtv (by assumption) (by assumption); omega))
  refine ab (bq rfl rfl d7) (lD b3 rfl rfl rfl ?_)
  refine dh (x := .agg [vi 0, vi 0, vi 0]) M0 rfl rfl (fun d3 d1 e2 d8 => ?_)
  refine db (k := 0) (v := b9) d8 rfl rfl rfl (TR.cnt bh.t b3) (fun c7 b0 => ?_)
  replace b0 : Mem c7 [⟨.op d3 d1 0, 112, 3, [b9]⟩, ⟨a1, 3, 1, a0⟩] := b0
  refine nS (af (mV rfl (lD r0 rfl rfl rfl (ab (bf rfl) ?_))))
  obtain ⟨e5, d5, c0⟩ := bh.g_Field b3
  refine ab (cp (k := 0) b0 rfl rfl d5) ?_
  obtain ⟨a9, c9, hres⟩ := dq hres
  have d0 := cn5  r0 c0 
  rw [c9] at d0
  refine cL d0 rfl rfl (aq (TR.clo aa.t r0) (aq (TR.clo cm.t c0) bg)) (ab (v := .fs true [vi a9]) (iw rfl (all_cons rfl lu)) ?_)
  have d6 : (tSl tI).R ([a9] : List Int) (.fs true [vi a9]) := tp ⟨rfl, trivial⟩ (by simp)
  obtain ⟨a8, c4, b1⟩ := uv (t := tI) (h := c7) d6
  have b6 : fits (a0.length + a8.length) 8 = true := by rw [All2.length_eq a5, All2.length_eq b1]; (try simp only [List.length_cons, List.length_nil]); exact oz (by have hk := tv (by assumption) (by assumption); omega) (by have hk := tv (by assumption) (by assumption); omega)
  refine pt (k := 1) (es := a0) (news := a8) b0 rfl rfl rfl a7 a3 c4 b6 (fun e1 e3 d2 b8 d4 => ?_)
  have c8 : All2 tI.R (a2 ++ ([a9] : List Int)) (a0 ++ a8) := All2.app a5 b1
  have c1 : (a2 ++ ([a9] : List Int)).length ≤ 4611686018427387904 := by rw [← All2.length_eq c8, List.length_append]; exact ur b6
  refine mV rfl (aw (dj (ai (af (bN ep rfl rfl (mV rfl (aw (cx ?_))))))))
  have hbd := dv b5
  have hinc : wr (a4 + 1) = a4 + 1 := du (by omega) (by omega)
  erw [hinc]
  exact wC (ih  c8 d2 b8 c1 (by omega) (by omega) (by first | omega | (simp; done) | (simp only [List.length_append, List.length_cons, List.length_nil, List.length_set]; omega)) (Mem.sub d4 (.cons _ (.cons_cons _ .slnil))) hres) rfl

theorem ax0 {x0 : aa} {x1 : Int} {v0 : PV} (r0 : aa.t.R x0 v0) : ∃ r, FnR Tryz.prog 45 [v0, vi x1] r ∧ (tSl tI).R (ee x0 x1) r := by
 refine fnT (R := RF45) ck2 rfl fun res hres => ?_
 unfold ee at hres
 refine sR (ab (dt rfl (TR.cnt aa.t r0)) (ab (v := nilS) (au rfl) (nS (ah (sR (lD r0 rfl rfl rfl (mV rfl ?_)))))))
 obtain ⟨c1, a3, hres⟩ := dq hres
 have b1 := bf2 (x1 := x1) r0 
 rw [a3] at b1
 refine cL b1 rfl rfl (aq (TR.clo aa.t r0) (aq rfl bg)) (ab (io rfl) (nS ?_))
 refine di hres rfl ?_ ?_ <;> clear hres <;> intro a4 hres <;> have a5 := a4 <;> try simp only [qa] at a5
 ·refine sR (ab (v := nilS) (au rfl) (nS ?_))
  exact rR hres rfl (TR.clo (tSl tI) gu) gu
 ·refine ay (ai (sR (ab (v := nilS) (au rfl) (nS (ah (sR (gL (aa.g_Tables r0) rfl rfl rfl fun c4 b5 => (mV rfl ?_))))))))
  obtain ⟨c3, b7, b8⟩ := dl (i := x1) b5 (by first | omega | (have hk := bn (by assumption) (by assumption); omega) | (have hk := tck (by assumption) (by assumption); omega) | (have hk := rtck (by assumption) (by assumption); omega) | (have hk := eck (by assumption) (by assumption) (by assumption); omega) | (have hk := tv (by assumption) (by assumption); omega) | (have hk := rtv (by assumption) (by assumption); omega)) (by first | omega | (have hk := bn (by assumption) (by assumption); omega) | (have hk := tck (by assumption) (by assumption); omega) | (have hk := rtck (by assumption) (by assumption); omega) | (have hk := eck (by assumption) (by assumption) (by assumption); omega) | (have hk := tv (by assumption) (by assumption); omega) | (have hk := rtv (by assumption) (by assumption); omega))
  refine ab (bq rfl rfl b7) (gL (az.g_Keys b8) rfl rfl rfl fun c5 a9 => (ab (cw rfl (cf a9 Tryz.underlying85 _)) (mI rfl (nS (bd ?_)))))
  have b3 := pq (sz := 1) (es := []) (Mem.nil ⟨0, []⟩) 3 (.inl ⟨none, rfl, rfl⟩) (by simp)
  refine wC (zv r0 a3 a4 a9 ?_  aL rfl (.inl rfl) (by first | decide | simp) rfl (by omega) (by first | omega | (simp; done) | (simp only [List.length_append, List.length_cons, List.length_nil, List.length_set]; omega)) (Mem.sub b3 (.cons_cons _ .slnil)) hres) rfl
  ·intro a7 a8 b0 a1 a2 a6 a0 c0 b2 hres
   refine fe (ai (sR (mV rfl (mV rfl (nS ?_)))))
   obtain ⟨b9, b4, b6⟩ := xr (P := Tryz.prog) (k := 0) (t := tI) b2 rfl a2 a1 (Nat.le_trans a0 (by decide))
   subst hres
   exact dw (.tmp rfl .nil) b4 b6

end Go.Proofs.YthdnpgpnodgicaaGreat
