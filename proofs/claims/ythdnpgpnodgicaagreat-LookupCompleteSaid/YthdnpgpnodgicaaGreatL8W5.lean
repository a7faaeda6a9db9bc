/-
 The code of each function does what its plain program says.
-/
import Derived.Test.YthdnpgpnodgicaaGreatL8W4
set_option linter.unusedVariables false
set_option linter.unusedSimpArgs false
set_option maxRecDepth 100000
namespace Go.Proofs.YthdnpgpnodgicaaGreat
open Go Go.Pb Go.RowKit
def RF117 (res : (BitVec 32)) (r : PV) : Prop := r = fb res
theorem de8 {x0 x1 : Int} : FnR Tryz.prog 117 [vi x0, vi x1] (fb (jn x0 x1)) := by
 refine fnS (R := RF117) bo4 (fun _ h => h) rfl fun res hres => ?_
 unfold jn at hres
 refine sR (ab (v := fb 0#32) (au rfl) (nS (ah (sR (mV rfl (ab (v := .fs true [vi x1]) (ir rfl (all_cons rfl lf)) ?_))))))
 have a6 : (tSl tI).R ([x1] : List Int) (.fs true [vi x1]) := sm ⟨rfl, trivial⟩ (by simp)
 obtain ⟨a9, a2, hres⟩ := dl hres
 have a0 := ah5  a6 
 rw [a2] at a0
 refine cL a0 rfl rfl (aq (TR.clo (tSl tI) a6) bh) (ab (jy rfl) (nS ?_))
 refine dg hres rfl ?_ ?_ <;> clear hres <;> intro c hres <;> try simp only [qa] at c
 ·refine sR (ab (v := fb 0#32) (au rfl) (nS ?_))
  exact rR hres rfl rfl rfl
 ·refine ay (ai (sR (mV rfl ?_)))
  obtain ⟨a8, a3, hres⟩ := dl hres
  have a4 := yu (x0 := x1)  
  rw [a3] at a4
  refine cL a4 rfl rfl (aq rfl bh) (mV rfl ?_)
  obtain ⟨a7, a5, hres⟩ := dl hres
  have a1 := yu (x0 := x1)  
  rw [a5] at a1
  refine cL a1 rfl rfl (aq rfl bh) (mV rfl (ab (cw rfl (bp2 _ _)) (mV rfl (ab (cw rfl (bm2 _ _)) (ab (az (a := fb a7) (b := vi (min (max x0 0) x1)) rfl rfl (bp1 (by have hk := mv (by assumption) (by assumption); omega))) (ab (az (a := fb a8) (b := fb (a7 >>> (min (max x0 0) x1).toNat)) rfl rfl ba7) (mV rfl (nS ?_))))))))
  exact rR hres rfl rfl rfl

def RF86 (res : Int × Bool) (r : PV) : Prop := r = .tup [vi res.1, vb res.2]
theorem wu {S : List Fr} {res : Int × Bool} {x0 : BitVec 32} {x1 : Int} {a2 : Bool} (a8 : jc ([x1] : List Int) = a2) (a3 : (!a2) = false) {K0 : Unit → (Int × Bool)}
  (b0 : K0 () = res → PX Tryz.prog 0 S (QR Tryz.prog [(4, none), (5, none)] (RF86 res)) [] ⟨0, []⟩) :
  ∀ {m : Nat} {a0 : Int} (a9 : m = Int.toNat ((wr (x1 + 1)) - a0)) (a4 : 0 ≤ a0), fk x0 x1 K0 m a0 = res → RC Tryz.prog (.loop cv8) S (QR Tryz.prog [(4, none), (5, none)] (RF86 res)) [(13, vi a0), (12, vi (wr (x1 + 1))), (1, vi x1), (0, fb x0)] ⟨0, []⟩ := by
 have a1 := a3
 try simp only [qa] at a1
 intro m
 induction m with
 | zero =>
  intro a0 a9 a4 hres
  rw [fk] at hres
  refine bw (sR (bN cy rfl rfl (nS (ah ?_))))
  refine bc rfl ?_ ?_ <;> intro c <;> try simp only [qa] at c
  ·omega
  refine dt (fj (df ?_))
  exact wP (b0  hres) rfl
 | succ m ih =>
  intro a0 a9 a4 hres
  rw [fk] at hres
  refine bw (sR (bN cy rfl rfl (nS (ah ?_))))
  refine bc rfl ?_ ?_ <;> intro c <;> try simp only [qa] at c
  rotate_left
  ·omega
  refine ay (ai (ah (bf (sR (mV rfl (mV rfl (nR (mV rfl ?_))))))))
  refine mV rfl ?_
  obtain ⟨a7, a5, hres⟩ := dl hres
  have a6 := de8 (x0 := a0) (x1 := x1)  
  rw [a5] at a6
  refine cL a6 rfl rfl (aq rfl (aq rfl bh)) (mV rfl (ab (az (a := fb a7) (b := fb x0) rfl rfl ch1) (nS ?_)))
  refine dg hres rfl ?_ ?_ <;> clear hres <;> intro c hres <;> try simp only [qa] at c
  ·refine sR (mV rfl (mV rfl (mB rfl (nS ?_))))
   exact rT hres rfl rfl rfl rfl rfl
  ·refine ay (dh (ai (af (bN fa rfl rfl (mV rfl (av (cx ?_)))))))
   have hinc : wr (a0 + 1) = a0 + 1 := dm (by omega) (by have hk := mv (by assumption) (by assumption); have e := dm (n := x1 + 1) (by omega) (by omega); omega)
   erw [hinc]
   exact wC (ih   (by omega) (by omega) hres) rfl

theorem cn6 {x0 : BitVec 32} {x1 : Int} : FnR Tryz.prog 86 [fb x0, vi x1] (.tup [vi ((ej x0 x1).1), vb ((ej x0 x1).2)]) := by
 refine fnS (R := RF86) ca5 (fun _ h => h) rfl fun res hres => ?_
 unfold ej at hres
 refine sR (mI rfl (mB rfl (nS (ah (sR (mV rfl (ab (v := .fs true [vi x1]) (ir rfl (all_cons rfl lf)) ?_)))))))
 have a4 : (tSl tI).R ([x1] : List Int) (.fs true [vi x1]) := sm ⟨rfl, trivial⟩ (by simp)
 obtain ⟨a5, a0, hres⟩ := dl hres
 have a3 := ah5  a4 
 rw [a0] at a3
 refine cL a3 rfl rfl (aq (TR.clo (tSl tI) a4) bh) (ab (jy rfl) (nS ?_))
 refine dg hres rfl ?_ ?_ <;> clear hres <;> intro a1 hres <;> have a2 := a1 <;> try simp only [qa] at a2
 ·refine sR (mI rfl (mB rfl (nS ?_)))
  exact rT hres rfl rfl rfl rfl rfl
 ·refine ay (ai (ah (sR (mV rfl (bN fa rfl rfl (mI rfl (nS (bf ?_))))))))
  refine wC (wu a0 a1 ?_  rfl (by omega) hres) rfl
  ·intro  hres
   refine ft (ai (sR (mI rfl (mB rfl (nS ?_)))))
   exact rT hres rfl rfl rfl rfl rfl

def RF76 (res : Int) (r : PV) : Prop := r = vi res
theorem dv9 {x0 : ba} {x1 x2 : Int} {v0 : PV} (r0 : ba.t.R x0 v0) : FnR Tryz.prog 76 [v0, vi x1, vi x2] (vi (pp x0 x1 x2)) := by
 refine fnS (R := RF76) ci7 (fun _ h => h) rfl fun res hres => ?_
 unfold pp at hres
 refine sR (ab (dz rfl (TR.cnt ba.t r0)) (mI rfl (nS (ah (bf (sR (fL rfl (ba.g_Value r0) rfl rfl (mV rfl ?_))))))))
 obtain ⟨a3, a2, hres⟩ := dl hres
 have a9 := at1 (x0 := x0.Value) (x1 := x2)  
 rw [a2] at a9
 refine cL a9 rfl rfl (aq rfl (aq rfl bh)) (ab (jy rfl) (mV rfl ?_))
 refine cp 6 (d := 21) (v := vb ((!a3) || (!(kf x0.Mask x2)))) ?_ ?_
 ·intro S Q r
  cases a5 : (!a3)
  ·intro k
   have a0 := a5
   try simp only [qa] at a0
   refine ak rfl rfl (ck rfl (ba.g_Mask r0)) (ak rfl rfl (bt rfl rfl rfl) (ak rfl rfl (au rfl) ?_))
   have b2 := at1 (x0 := x0.Mask) (x1 := x2)  
   refine mq rfl rfl (vd rfl rfl (aq rfl (aq rfl bh)) b2) (ak rfl rfl (jy rfl) ?_)
   exact gK rfl rfl rfl rfl rfl k
  ·exact gN 5 rfl rfl rfl rfl rfl rfl
 refine mV rfl (nS ?_)
 refine dg hres rfl ?_ ?_ <;> clear hres <;> intro c hres <;> try simp only [qa] at c
 ·refine sR (mI rfl (nS ?_))
  exact rR hres rfl rfl rfl
 ·refine sR (fL rfl (ba.g_Value r0) rfl rfl (fL rfl (ba.g_Mask r0) rfl rfl (ab (az (a := fb x0.Value) (b := fb x0.Mask) rfl rfl ba7) (ab (az (a := fb (x0.Value &&& ~~~x0.Mask)) (b := fb 0#32) rfl rfl ci3) (mV rfl (nS ?_))))))
  refine dg hres rfl ?_ ?_ <;> clear hres <;> intro c hres <;> try simp only [qa] at c
  ·refine sR (mI rfl (nS ?_))
   exact rR hres rfl rfl rfl
  ·refine sR (mV rfl (bN nd rfl rfl (mV rfl ?_)))
   refine cp 6 (d := 38) (v := vb ((decide (x1 = 1)) && (!decide (x0.Mask = (fc x2))))) ?_ ?_
   ·intro S Q r
    cases a7 : (decide (x1 = 1))
    ·exact gN 5 rfl rfl rfl rfl rfl rfl
    ·intro k
     have a1 := a7
     try simp only [qa] at a1
     refine ak rfl rfl (ck rfl (ba.g_Mask r0)) (ak rfl rfl (bt rfl rfl rfl) (ak rfl rfl (au rfl) ?_))
     have b0 := yu (x0 := x2)  
     refine mq rfl rfl (vd rfl rfl (aq rfl bh) b0) (ak rfl rfl (az (a := fb x0.Mask) (b := fb (fc x2)) rfl rfl ci3) ?_)
     exact gK rfl rfl rfl rfl rfl k
   refine mV rfl (nS ?_)
   refine dg hres rfl ?_ ?_ <;> clear hres <;> intro c hres <;> try simp only [qa] at c
   ·refine sR (mI rfl (nS ?_))
    exact rR hres rfl rfl rfl
   ·refine ay (dh (ai (ah (sR (mV rfl (bN nd rfl rfl (nS ?_)))))))
    obtain ⟨b1, a4, hres⟩ := dl hres
    refine vc (F := fun b S Q =>  b1 () = res → RC Tryz.prog b S Q [] ⟨0, []⟩) ?_ ?_
    ·intro   hres
     rw [← a4] at hres
     refine sR (mI rfl (nS ?_))
     exact rR hres rfl rfl rfl
    ·intro J
     refine dg hres rfl ?_ ?_ <;> clear hres <;> intro c hres <;> try simp only [qa] at c
     ·refine sR (fL rfl (ba.g_Mask r0) rfl rfl (mV rfl ?_))
      obtain ⟨b3, a6, hres⟩ := dl hres
      have a8 := cn6 (x0 := x0.Mask) (x1 := x2)  
      rw [a6] at a8
      refine cL a8 rfl rfl (aq rfl (aq rfl bh)) (mV rfl (xT rfl rfl (xT rfl rfl (mV rfl (mV rfl (nR (mV rfl (ab (jy rfl) ?_))))))))
      refine nS ?_
      refine dg hres rfl ?_ ?_ <;> clear hres <;> intro c hres <;> try simp only [qa] at c
      ·refine sR (mI rfl (nS ?_))
       exact rR hres rfl rfl rfl
      ·refine ay ?_
       refine ai (wC (J   hres) rfl)
     ·refine ay ?_
      refine ai (wC (J   hres) rfl)

def RF44 (res : Int) (r : PV) : Prop := r = vi res
theorem ae8 {S : List Fr} {res : Int} {x0 : aa} {x1 : Int} {a7 : Bool} {a9 : PV} (b6 : gq x0 x1 = a7) (a8 : (!a7) = false) (a5 : (tSl bg.t).R ((ix x0.Tables x1).Keys) a9) {K0 : Int → Int}
  (b8 : ∀ {a3 : Int} {h : Heap} (M0 : Mem h []), K0 a3 = res → PX Tryz.prog 0 S (QR Tryz.prog [(4, none)] (RF44 res)) [(5, vi a3)] h) :
  ∀ {m : Nat} {a3 a0 : Int} (b7 : m = Int.toNat ((((ix x0.Tables x1).Keys).length : Int) - a0)) (b0 : 0 ≤ a0) {h : Heap} (M0 : Mem h []), lm x0 x1 K0 m a3 a0 = res → RC Tryz.prog (.loop dd5) S (QR Tryz.prog [(4, none)] (RF44 res)) [(19, vi a0), (18, vi (((ix x0.Tables x1).Keys).length : Int)), (17, a9), (5, vi a3)] h := by
 have a4 := a8
 try simp only [qa] at a4
 intro m
 induction m with
 | zero =>
  intro a3 a0 b7 b0 h M0 hres
  rw [lm] at hres
  refine bw (sR (bN cy rfl rfl (nS (ah ?_))))
  refine bc rfl ?_ ?_ <;> intro c <;> try simp only [qa] at c
  ·omega
  refine dt (fj (df ?_))
  exact wP (b8 (Mem.sub M0 .slnil) hres) rfl
 | succ m ih =>
  intro a3 a0 b7 b0 h M0 hres
  rw [lm] at hres
  refine bw (sR (bN cy rfl rfl (nS (ah ?_))))
  refine bc rfl ?_ ?_ <;> intro c <;> try simp only [qa] at c
  rotate_left
  ·omega
  refine ay (ai (ah (bf (sR ?_))))
  obtain ⟨a6, b2, a2⟩ := dk (i := a0) a5 (by first | omega | (have hk := bn (by assumption) (by assumption); omega) | (have hk := tck (by assumption) (by assumption); omega) | (have hk := rtck (by assumption) (by assumption); omega) | (have hk := eck (by assumption) (by assumption) (by assumption); omega) | (have hk := tv (by assumption) (by assumption); omega) | (have hk := rtv (by assumption) (by assumption); omega)) (by first | omega | (have hk := bn (by assumption) (by assumption); omega) | (have hk := tck (by assumption) (by assumption); omega) | (have hk := rtck (by assumption) (by assumption); omega) | (have hk := eck (by assumption) (by assumption) (by assumption); omega) | (have hk := tv (by assumption) (by assumption); omega) | (have hk := rtv (by assumption) (by assumption); omega))
  refine ab (bp rfl rfl b2) (lD a2 rfl rfl rfl ?_)
  refine dc (x := .agg [vi 0, vi 0, vi 0]) M0 rfl rfl (fun b1 b4 b9 b3 => ?_)
  refine db (k := 0) (v := a6) b3 rfl rfl rfl (TR.cnt bg.t a2) (fun b5 a1 => ?_)
  replace a1 : Mem b5 [⟨.op b1 b4 0, 112, 3, [a6]⟩] := a1
  refine nS (bf (sR (ab (bd rfl) (ab (co (k := 0) a1 rfl rfl (bg.g_Kind a2)) (bN nd rfl rfl (mV rfl (nS ?_)))))))
  refine dg hres rfl ?_ ?_ <;> clear hres <;> intro c hres <;> try simp only [qa] at c
  ·refine sR (mI rfl (nS ?_))
   exact rR hres rfl rfl rfl
  ·refine sR (ab (bd rfl) (ab (co (k := 0) a1 rfl rfl (bg.g_Kind a2)) (bN nd rfl rfl (mV rfl (nS ?_)))))
   refine dg hres rfl ?_ ?_ <;> clear hres <;> intro c hres <;> try simp only [qa] at c
   ·refine af (mI rfl (av (dh (dh (ai (af (bN fa rfl rfl (mV rfl ?_))))))))
    refine av (cx ?_)
    have hbd := ee a5
    have hinc : wr (a0 + 1) = a0 + 1 := dm (by omega) (by omega)
    erw [hinc]
    exact wC (ih   (by omega) (by omega) (Mem.sub a1 (.cons _ .slnil)) hres) rfl
   ·refine ay (dh (dh (ai (af (bN fa rfl rfl (mV rfl (av (cx ?_))))))))
    have hbd := ee a5
    have hinc : wr (a0 + 1) = a0 + 1 := dm (by omega) (by omega)
    erw [hinc]
    exact wC (ih   (by omega) (by omega) (Mem.sub a1 (.cons _ .slnil)) hres) rfl

theorem cn3 {x0 : aa} {x1 : Int} {v0 : PV} (r0 : aa.t.R x0 v0) : FnR Tryz.prog 44 [v0, vi x1] (vi (iz x0 x1)) := by
 refine fnS (R := RF44) bw9 (fun _ h => h) rfl fun res hres => ?_
 unfold iz at hres
 refine sR (ab (dz rfl (TR.cnt aa.t r0)) (mI rfl (nS (ah (sR (lD r0 rfl rfl rfl (mV rfl ?_)))))))
 obtain ⟨b2, a0, hres⟩ := dl hres
 have a4 := bf5 (x1 := x1) r0 
 rw [a0] at a4
 refine cL a4 rfl rfl (aq (TR.clo aa.t r0) (aq rfl bh)) (ab (jy rfl) (nS ?_))
 refine dg hres rfl ?_ ?_ <;> clear hres <;> intro a1 hres <;> have a2 := a1 <;> try simp only [qa] at a2
 ·refine sR (mI rfl (nS ?_))
  exact rR hres rfl rfl rfl
 ·refine ay (ai (sR (mI rfl (nS (ah (sR ?_))))))
  obtain ⟨b1, a8, a5⟩ := aa.g_Tables r0
  refine fA rfl a8 (lD a5 rfl rfl rfl (mV rfl ?_))
  obtain ⟨b4, a7, a6⟩ := dk (i := x1) a5 (by first | omega | (have hk := bn (by assumption) (by assumption); omega) | (have hk := tck (by assumption) (by assumption); omega) | (have hk := rtck (by assumption) (by assumption); omega) | (have hk := eck (by assumption) (by assumption) (by assumption); omega) | (have hk := tv (by assumption) (by assumption); omega) | (have hk := rtv (by assumption) (by assumption); omega)) (by first | omega | (have hk := bn (by assumption) (by assumption); omega) | (have hk := tck (by assumption) (by assumption); omega) | (have hk := rtck (by assumption) (by assumption); omega) | (have hk := eck (by assumption) (by assumption) (by assumption); omega) | (have hk := tv (by assumption) (by assumption); omega) | (have hk := rtv (by assumption) (by assumption); omega))
  refine ab (bp rfl rfl a7) ?_
  obtain ⟨b5, a9, a3⟩ := ax.g_Keys a6
  refine fA rfl a9 (lD a3 rfl rfl rfl (ab (cw rfl (cg a3 Tryz.underlying85 _)) (mI rfl (nS (bf ?_)))))
  refine wC (ae8 a0 a1 a3 ?_  rfl (by omega) (Mem.sub (Mem.nil ⟨0, []⟩) .slnil) hres) rfl
  ·intro b0 b3 b6 hres
   refine ft (ai (sR (mV rfl (mV rfl (nS ?_)))))
   exact rR hres rfl rfl rfl

def RF77 (res : Bool) (r : PV) : Prop := r = vb res
theorem zw {S : List Fr} {res : Bool} {x0 : aa} {x1 x2 : Int} {a2 : Bool} {a4 : PV} (a7 : gq x0 x1 = a2) (a3 : (!a2) = false) (a6 : (tSl tI).R ((ix x0.Tables x1).Actions) a4) {K0 : Unit → Bool}
  (a9 : K0 () = res → PX Tryz.prog 0 S (QR Tryz.prog [(6, none)] (RF77 res)) [] ⟨0, []⟩) :
  ∀ {m : Nat} {a0 : Int} (a8 : m = Int.toNat ((((ix x0.Tables x1).Actions).length : Int) - a0)) (a5 : 0 ≤ a0), ki x0 x1 x2 K0 m a0 = res → RC Tryz.prog (.loop cq2) S (QR Tryz.prog [(6, none)] (RF77 res)) [(20, vi a0), (19, vi (((ix x0.Tables x1).Actions).length : Int)), (18, a4), (2, vi x2)] ⟨0, []⟩ := by
 have a1 := a3
 try simp only [qa] at a1
 intro m
 induction m with
 | zero =>
  intro a0 a8 a5 hres
  rw [ki] at hres
  refine bw (sR (bN cy rfl rfl (nS (ah ?_))))
  refine bc rfl ?_ ?_ <;> intro c <;> try simp only [qa] at c
  ·omega
  refine dt (fj (df ?_))
  exact wP (a9  hres) rfl
 | succ m ih =>
  intro a0 a8 a5 hres
  rw [ki] at hres
  refine bw (sR (bN cy rfl rfl (nS (ah ?_))))
  refine bc rfl ?_ ?_ <;> intro c <;> try simp only [qa] at c
  rotate_left
  ·omega
  refine ay (ai (ah (bf (sR (ab (bp rfl rfl (slI a6 (by first | omega | (have hk := bn (by assumption) (by assumption); omega) | (have hk := tck (by assumption) (by assumption); omega) | (have hk := rtck (by assumption) (by assumption); omega) | (have hk := eck (by assumption) (by assumption) (by assumption); omega) | (have hk := tv (by assumption) (by assumption); omega) | (have hk := rtv (by assumption) (by assumption); omega)) (by first | omega | (have hk := bn (by assumption) (by assumption); omega) | (have hk := tck (by assumption) (by assumption); omega) | (have hk := rtck (by assumption) (by assumption); omega) | (have hk := eck (by assumption) (by assumption) (by assumption); omega) | (have hk := tv (by assumption) (by assumption); omega) | (have hk := rtv (by assumption) (by assumption); omega)))) (lR rfl rfl rfl (mV rfl (nR ?_))))))))
  refine mV rfl (mV rfl (bN nd rfl rfl (nS ?_)))
  refine dg hres rfl ?_ ?_ <;> clear hres <;> intro c hres <;> try simp only [qa] at c
  ·refine sR (mB rfl (nS ?_))
   exact rR hres rfl rfl rfl
  ·refine ay (dh (ai (af (bN fa rfl rfl (mV rfl (av (cx ?_)))))))
   have hbd := ee a6
   have hinc : wr (a0 + 1) = a0 + 1 := dm (by omega) (by omega)
   erw [hinc]
   exact wC (ih   (by omega) (by omega) hres) rfl

theorem dr6 {x0 : aa} {x1 x2 : Int} {v0 : PV} (r0 : aa.t.R x0 v0) : FnR Tryz.prog 77 [v0, vi x1, vi x2] (vb (py x0 x1 x2)) := by
 refine fnS (R := RF77) cl2 (fun _ h => h) rfl fun res hres => ?_
 unfold py at hres
 refine sR (ab (dz rfl (TR.cnt aa.t r0)) (mB rfl (nS (ah (sR (lD r0 rfl rfl rfl (mV rfl ?_)))))))
 obtain ⟨b1, a0, hres⟩ := dl hres
 have a4 := bf5 (x1 := x1) r0 
 rw [a0] at a4
 refine cL a4 rfl rfl (aq (TR.clo aa.t r0) (aq rfl bh)) (ab (jy rfl) (nS ?_))
 refine dg hres rfl ?_ ?_ <;> clear hres <;> intro a1 hres <;> have a2 := a1 <;> try simp only [qa] at a2
 ·refine sR (mB rfl (nS ?_))
  exact rR hres rfl rfl rfl
 ·refine ay (ai (ah (sR ?_)))
  obtain ⟨b0, a8, a5⟩ := aa.g_Tables r0
  refine fA rfl a8 (lD a5 rfl rfl rfl (mV rfl ?_))
  obtain ⟨b2, a7, a6⟩ := dk (i := x1) a5 (by first | omega | (have hk := bn (by assumption) (by assumption); omega) | (have hk := tck (by assumption) (by assumption); omega) | (have hk := rtck (by assumption) (by assumption); omega) | (have hk := eck (by assumption) (by assumption) (by assumption); omega) | (have hk := tv (by assumption) (by assumption); omega) | (have hk := rtv (by assumption) (by assumption); omega)) (by first | omega | (have hk := bn (by assumption) (by assumption); omega) | (have hk := tck (by assumption) (by assumption); omega) | (have hk := rtck (by assumption) (by assumption); omega) | (have hk := eck (by assumption) (by assumption) (by assumption); omega) | (have hk := tv (by assumption) (by assumption); omega) | (have hk := rtv (by assumption) (by assumption); omega))
  refine ab (bp rfl rfl a7) ?_
  obtain ⟨b3, a9, a3⟩ := ax.g_Actions a6
  refine fA rfl a9 (lD a3 rfl rfl rfl (ab (cw rfl (cg a3 Tryz.underlying29 _)) (mI rfl (nS (bf ?_)))))
  refine wC (zw a0 a1 a3 ?_  rfl (by omega) hres) rfl
  ·intro  hres
   refine ft (ai (sR (mB rfl (nS ?_))))
   exact rR hres rfl rfl rfl

def RF40 (res : Int) (r : PV) : Prop := r = vi res
theorem ab7 {S : List Fr} {res : Int} {x0 : aa} {x1 : Int} {x2 : aw} {a7 : Int × Int} {a1 : (List Int)} {v0 v2 b2 a8 b6 : PV} (c7 : ij x0 x1 = a7) (b0 : (!decide (a7.2 = 0)) = false) (c5 : (tSl bg.t).R ((ix x0.Tables x1).Keys) b2) (c9 : du x0 x1 = a1) (b7 : (tSl tI).R a1 a8) (c8 : (0 ≤ x1 ∧ x1 < x0.Tables.length) ∧ a1.length = (ix x0.Tables x1).Keys.length ∧ a1.length ≤ 6) (a6 : (!decide ((x2.Keys.length : Int) = (((ix x0.Tables x1).Keys).length : Int))) = false) (b5 : (tSl ba.t).R x2.Keys b6) {K0 : Unit → Int}
  (d4 : ∀ {h : Heap} (M0 : Mem h []), K0 () = res → PX Tryz.prog 0 S (QR Tryz.prog [(6, none)] (RF40 res)) [(1, vi x1), (3, .fp v0), (5, .fp v2)] h) :
  ∀ {m : Nat} {a0 : Int} (d0 : m = Int.toNat ((x2.Keys.length : Int) - a0)) (b4 : 0 ≤ a0) {h : Heap} (M0 : Mem h []), ma x0 x1 x2 a1 K0 m a0 = res → RC Tryz.prog (.loop db4) S (QR Tryz.prog [(6, none)] (RF40 res)) [(41, vi a0), (40, vi (x2.Keys.length : Int)), (39, b6), (10, a8), (9, b2), (5, .fp v2), (3, .fp v0), (1, vi x1)] h := by
 have a5 := b0
 try simp only [qa] at a5
 have a4 := a6
 try simp only [qa] at a4
 intro m
 induction m with
 | zero =>
  intro a0 d0 b4 h M0 hres
  rw [ma] at hres
  refine bw (sR (bN cy rfl rfl (nS (ah ?_))))
  refine bc rfl ?_ ?_ <;> intro c <;> try simp only [qa] at c
  ·omega
  refine dt (fj (df ?_))
  exact wP (d4 (Mem.sub M0 .slnil) hres) rfl
 | succ m ih =>
  intro a0 d0 b4 h M0 hres
  rw [ma] at hres
  refine bw (sR (bN cy rfl rfl (nS (ah ?_))))
  refine bc rfl ?_ ?_ <;> intro c <;> try simp only [qa] at c
  rotate_left
  ·omega
  refine ay (ai (ah (bf (sR (mV rfl ?_)))))
  obtain ⟨a9, c0, a2⟩ := dk (i := a0) b5 (by first | omega | (have hk := bn (by assumption) (by assumption); omega) | (have hk := tck (by assumption) (by assumption); omega) | (have hk := rtck (by assumption) (by assumption); omega) | (have hk := eck (by assumption) (by assumption) (by assumption); omega) | (have hk := tv (by assumption) (by assumption); omega) | (have hk := rtv (by assumption) (by assumption); omega)) (by first | omega | (have hk := bn (by assumption) (by assumption); omega) | (have hk := tck (by assumption) (by assumption); omega) | (have hk := rtck (by assumption) (by assumption); omega) | (have hk := eck (by assumption) (by assumption) (by assumption); omega) | (have hk := tv (by assumption) (by assumption); omega) | (have hk := rtv (by assumption) (by assumption); omega))
  refine ab (bp rfl rfl c0) (lD a2 rfl rfl rfl ?_)
  refine dc (x := .agg [fb 0#32, fb 0#32]) M0 rfl rfl (fun c1 c3 d3 c4 => ?_)
  refine mV rfl ?_
  refine db (k := 0) (v := a9) c4 rfl rfl rfl (TR.cnt ba.t a2) (fun b8 a3 => ?_)
  replace a3 : Mem b8 [⟨.op c1 c3 0, 127, 2, [a9]⟩] := a3
  refine nR (ab (gi (k := 0) a3 rfl rfl (TR.agg ba.t a2)) (mV rfl (mV rfl ?_)))
  obtain ⟨d1, c6, b9⟩ := dk (i := a0) c5 (by first | omega | (have hk := bn (by assumption) (by assumption); omega) | (have hk := tck (by assumption) (by assumption); omega) | (have hk := rtck (by assumption) (by assumption); omega) | (have hk := eck (by assumption) (by assumption) (by assumption); omega) | (have hk := tv (by assumption) (by assumption); omega) | (have hk := rtv (by assumption) (by assumption); omega)) (by first | omega | (have hk := bn (by assumption) (by assumption); omega) | (have hk := tck (by assumption) (by assumption); omega) | (have hk := rtck (by assumption) (by assumption); omega) | (have hk := eck (by assumption) (by assumption) (by assumption); omega) | (have hk := tv (by assumption) (by assumption); omega) | (have hk := rtv (by assumption) (by assumption); omega))
  refine ab (bp rfl rfl c6) (fL rfl (bg.g_Kind b9) rfl rfl (mV rfl (mV rfl (ab (bp rfl rfl (slI b7 (by first | omega | (have hk := bn (by assumption) (by assumption); omega) | (have hk := tck (by assumption) (by assumption); omega) | (have hk := rtck (by assumption) (by assumption); omega) | (have hk := eck (by assumption) (by assumption) (by assumption); omega) | (have hk := tv (by assumption) (by assumption); omega) | (have hk := rtv (by assumption) (by assumption); omega)) (by first | omega | (have hk := bn (by assumption) (by assumption); omega) | (have hk := tck (by assumption) (by assumption); omega) | (have hk := rtck (by assumption) (by assumption); omega) | (have hk := eck (by assumption) (by assumption) (by assumption); omega) | (have hk := tv (by assumption) (by assumption); omega) | (have hk := rtv (by assumption) (by assumption); omega)))) (lR rfl rfl rfl ?_)))))
  obtain ⟨d2, b3, hres⟩ := dl hres
  have b1 := dv9 (x1 := (ix ((ix x0.Tables x1).Keys) a0).Kind) (x2 := (ix a1 a0)) a2 
  rw [b3] at b1
  refine cL b1 rfl rfl (aq (TR.clo ba.t a2) (aq rfl (aq rfl bh))) (mV rfl (nR (mV rfl (bN nf rfl rfl (nS ?_)))))
  refine dg hres rfl ?_ ?_ <;> clear hres <;> intro c hres <;> try simp only [qa] at c
  ·refine sR (mV rfl (mV rfl (nS ?_)))
   exact rR hres rfl rfl rfl
  ·refine ay (dh (ai (af (bN fa rfl rfl (mV rfl (av (cx ?_)))))))
   have hbd := ee b5
   have hinc : wr (a0 + 1) = a0 + 1 := dm (by omega) (by omega)
   erw [hinc]
   exact wC (ih   (by omega) (by omega) (Mem.sub a3 (.cons _ .slnil)) hres) rfl

theorem dv6 {x0 : aa} {x1 : Int} {x2 : aw} {v0 v2 : PV} (r0 : aa.t.R x0 v0) (r2 : aw.t.R x2 v2) : FnR Tryz.prog 40 [v0, vi x1, v2] (vi (mr x0 x1 x2)) := by
 refine fnS (R := RF40) ci2 (fun _ h => h) rfl fun res hres => ?_
 unfold mr at hres
 refine sR (ab (dz rfl (TR.cnt aa.t r0)) (ab (dz rfl (TR.cnt aw.t r2)) (mI rfl (nS (ah (sR (lD r0 rfl rfl rfl (mV rfl ?_))))))))
 obtain ⟨d7, a2, hres⟩ := dl hres
 have b9 := bg5 (x1 := x1) r0 
 rw [a2] at b9
 refine cL b9 rfl rfl (aq (TR.clo aa.t r0) (aq rfl bh)) (mV rfl (xT rfl rfl (xT rfl rfl (mV rfl (mV rfl (nR (mV rfl (bN nf rfl rfl ?_))))))))
 refine nS ?_
 refine dg hres rfl ?_ ?_ <;> clear hres <;> intro a3 hres <;> have a6 := a3 <;> try simp only [qa] at a6
 ·refine sR (mV rfl (mV rfl (nS ?_)))
  exact rR hres rfl rfl rfl
 ·refine ay (ai (sR ?_))
  obtain ⟨d5, c7, c0⟩ := aa.g_Tables r0
  refine fA rfl c7 (lD c0 rfl rfl rfl (mV rfl ?_))
  obtain ⟨d9, c6, c4⟩ := dk (i := x1) c0 (by first | omega | (have hk := bn (by assumption) (by assumption); omega) | (have hk := tck (by assumption) (by assumption); omega) | (have hk := rtck (by assumption) (by assumption); omega) | (have hk := eck (by assumption) (by assumption) (by assumption); omega) | (have hk := tv (by assumption) (by assumption); omega) | (have hk := rtv (by assumption) (by assumption); omega)) (by first | omega | (have hk := bn (by assumption) (by assumption); omega) | (have hk := tck (by assumption) (by assumption); omega) | (have hk := rtck (by assumption) (by assumption); omega) | (have hk := eck (by assumption) (by assumption) (by assumption); omega) | (have hk := tv (by assumption) (by assumption); omega) | (have hk := rtv (by assumption) (by assumption); omega))
  refine ab (bp rfl rfl c6) ?_
  obtain ⟨e0, c8, a7⟩ := ax.g_Keys c4
  refine fA rfl c8 (lD a7 rfl rfl rfl (lD r0 rfl rfl rfl (mV rfl ?_)))
  obtain ⟨b7, a0, hres⟩ := dl hres
  obtain ⟨d8, d2, b0⟩ := av7 (x1 := x1) r0 
  rw [a0] at b0
  have b4 : (0 ≤ x1 ∧ x1 < x0.Tables.length) ∧ b7.length = (ix x0.Tables x1).Keys.length ∧ b7.length ≤ 6 := eck (by assumption) (by assumption) a0
  refine cL d2 rfl rfl (aq (TR.clo aa.t r0) (aq rfl bh)) (mV rfl (mV rfl (nS (ah (sR ?_)))))
  obtain ⟨d3, c5, a9⟩ := aw.g_Keys r2
  refine fA rfl c5 (lD a9 rfl rfl rfl (ab (cw rfl (cg a9 Tryz.underlying38 _)) (mV rfl (ab (cw rfl (cg a7 Tryz.underlying85 _)) (bN nf rfl rfl (nS ?_))))))
  refine dg hres rfl ?_ ?_ <;> clear hres <;> intro a1 hres <;> have a5 := a1 <;> try simp only [qa] at a5
  ·refine sR (mI rfl (nS ?_))
   exact rR hres rfl rfl rfl
  ·refine ay (ai (ah (sR (gL (aw.g_Keys r2) rfl rfl rfl fun e2 b3 => (ab (cw rfl (cg b3 Tryz.underlying38 _)) (mI rfl (nS (bf ?_))))))))
   refine wC (ab7 a2 a3 a7 a0 b0 b4 a1 b3 ?_  rfl (by omega) (Mem.sub (Mem.nil ⟨0, []⟩) .slnil) hres) rfl
   ·intro d6 e5 hres
    refine ft (ai (ah (bf (sR (fL rfl (aw.g_Priority r2) rfl rfl (bN cy rfl rfl (mV rfl ?_)))))))
    refine cp 4 (d := 69) (v := vb ((decide (x2.Priority < 0)) || (decide (255 < x2.Priority)))) ?_ ?_
    ·intro S Q r
     cases b8 : (decide (x2.Priority < 0))
     ·intro k
      have a4 := b8
      try simp only [qa] at a4
      refine ak rfl rfl (ck rfl (aw.g_Priority r2)) (ak rfl rfl (bt rfl rfl rfl) (ak rfl rfl (az rfl rfl ig) ?_))
      exact gK rfl rfl rfl rfl rfl k
     ·exact gN 3 rfl rfl rfl rfl rfl rfl
    refine mV rfl (nS ?_)
    refine dg hres rfl ?_ ?_ <;> clear hres <;> intro c hres <;> try simp only [qa] at c
    ·refine sR (mI rfl (nS ?_))
     exact rR hres rfl rfl rfl
    ·refine sR (fL rfl (aw.g_Priority r2) rfl rfl (bN nf rfl rfl (mV rfl ?_)))
     refine cp 5 (d := 79) (v := vb ((!decide (x2.Priority = 0)) && (!decide ((iz x0 x1) = 3)))) ?_ ?_
     ·intro S Q r
      cases c3 : (!decide (x2.Priority = 0))
      ·exact gN 4 rfl rfl rfl rfl rfl rfl
      ·intro k
       have a8 := c3
       try simp only [qa] at a8
       refine ak rfl rfl (bt rfl (TR.cnt aa.t r0) (TR.agg aa.t r0)) (ak rfl rfl (au rfl) ?_)
       have d0 := cn3 (x1 := x1) r0 
       refine mq rfl rfl (vd rfl rfl (aq (TR.clo aa.t r0) (aq rfl bh)) d0) (ak rfl rfl (az rfl rfl nf) ?_)
       exact gK rfl rfl rfl rfl rfl k
     refine mV rfl (nS ?_)
     refine dg hres rfl ?_ ?_ <;> clear hres <;> intro c hres <;> try simp only [qa] at c
     ·refine sR (mI rfl (nS ?_))
      exact rR hres rfl rfl rfl
     ·refine sR (lD r0 rfl rfl rfl (mV rfl ?_))
      obtain ⟨e1, d1, c9⟩ := aw.g_Call r2
      refine fA rfl d1 (fL rfl (bb.g_Action c9) rfl rfl ?_)
      obtain ⟨d4, b6, hres⟩ := dl hres
      have b5 := dr6 (x1 := x1) (x2 := x2.Call.Action) r0 
      rw [b6] at b5
      refine cL b5 rfl rfl (aq (TR.clo aa.t r0) (aq rfl (aq rfl bh))) (ab (jy rfl) (mV rfl (nS ?_)))
      refine dg hres rfl ?_ ?_ <;> clear hres <;> intro c hres <;> try simp only [qa] at c
      ·refine sR (mI rfl (nS ?_))
       exact rR hres rfl rfl rfl
      ·refine ay (dh (ai (sR (lD r0 rfl rfl rfl (gL (aw.g_Call r2) rfl rfl rfl fun e4 c1 => ?_)))))
       obtain ⟨e3, b2, hres⟩ := dl hres
       have b1 := co7  r0 c1 
       rw [b2] at b1
       refine cL b1 rfl rfl (aq (TR.clo aa.t r0) (aq (TR.clo bb.t c1) bh)) (mV rfl (nS ?_))
       exact rR hres rfl rfl rfl

def RF42 (res : Bool) (r : PV) : Prop := r = vb res
theorem zg {S : List Fr} {res : Bool} {x0 : aw} {x1 : aw} {v1 a5 : PV} (r1 : aw.t.R x1 v1) (a9 : ((!decide (x0.Priority = x1.Priority)) || (!decide ((x0.Keys.length : Int) = (x1.Keys.length : Int)))) = false) (a8 : (tSl ba.t).R x0.Keys a5) {K0 : Unit → Bool}
  (c0 : ∀ {h : Heap} (M0 : Mem h []), K0 () = res → PX Tryz.prog 0 S (QR Tryz.prog [(4, none)] (RF42 res)) [] h) :
  ∀ {m : Nat} {a0 : Int} (b7 : m = Int.toNat ((x0.Keys.length : Int) - a0)) (a6 : 0 ≤ a0) {h : Heap} (M0 : Mem h []), kr x0 x1 K0 m a0 = res → RC Tryz.prog (.loop cq8) S (QR Tryz.prog [(4, none)] (RF42 res)) [(24, vi a0), (23, vi (x0.Keys.length : Int)), (22, a5), (3, .fp v1)] h := by
 have a3 := a9
 try simp only [qa] at a3
 intro m
 induction m with
 | zero =>
  intro a0 b7 a6 h M0 hres
  rw [kr] at hres
  refine bw (sR (bN cy rfl rfl (nS (ah ?_))))
  refine bc rfl ?_ ?_ <;> intro c <;> try simp only [qa] at c
  ·omega
  refine dt (fj (df ?_))
  exact wP (c0 (Mem.sub M0 .slnil) hres) rfl
 | succ m ih =>
  intro a0 b7 a6 h M0 hres
  rw [kr] at hres
  refine bw (sR (bN cy rfl rfl (nS (ah ?_))))
  refine bc rfl ?_ ?_ <;> intro c <;> try simp only [qa] at c
  rotate_left
  ·omega
  refine ay (ai (ah (bf (sR (mV rfl ?_)))))
  obtain ⟨a4, b1, a1⟩ := dk (i := a0) a8 (by first | omega | (have hk := bn (by assumption) (by assumption); omega) | (have hk := tck (by assumption) (by assumption); omega) | (have hk := rtck (by assumption) (by assumption); omega) | (have hk := eck (by assumption) (by assumption) (by assumption); omega) | (have hk := tv (by assumption) (by assumption); omega) | (have hk := rtv (by assumption) (by assumption); omega)) (by first | omega | (have hk := bn (by assumption) (by assumption); omega) | (have hk := tck (by assumption) (by assumption); omega) | (have hk := rtck (by assumption) (by assumption); omega) | (have hk := eck (by assumption) (by assumption) (by assumption); omega) | (have hk := tv (by assumption) (by assumption); omega) | (have hk := rtv (by assumption) (by assumption); omega))
  refine ab (bp rfl rfl b1) (lD a1 rfl rfl rfl ?_)
  refine dc (x := .agg [fb 0#32, fb 0#32]) M0 rfl rfl (fun b0 b4 c1 b2 => ?_)
  refine mV rfl ?_
  refine db (k := 0) (v := a4) b2 rfl rfl rfl (TR.cnt ba.t a1) (fun b5 a2 => ?_)
  replace a2 : Mem b5 [⟨.op b0 b4 0, 127, 2, [a4]⟩] := a2
  refine nR (ab (gi (k := 0) a2 rfl rfl (TR.agg ba.t a1)) (gL (aw.g_Keys r1) rfl rfl rfl fun b8 b6 => (mV rfl ?_)))
  obtain ⟨b9, b3, a7⟩ := dk (i := a0) b6 (by first | omega | (have hk := bn (by assumption) (by assumption); omega) | (have hk := tck (by assumption) (by assumption); omega) | (have hk := rtck (by assumption) (by assumption); omega) | (have hk := eck (by assumption) (by assumption) (by assumption); omega) | (have hk := tv (by assumption) (by assumption); omega) | (have hk := rtv (by assumption) (by assumption); omega)) (by first | omega | (have hk := bn (by assumption) (by assumption); omega) | (have hk := tck (by assumption) (by assumption); omega) | (have hk := rtck (by assumption) (by assumption); omega) | (have hk := eck (by assumption) (by assumption) (by assumption); omega) | (have hk := tv (by assumption) (by assumption); omega) | (have hk := rtv (by assumption) (by assumption); omega))
  refine ab (bp rfl rfl b3) (lD a7 rfl rfl rfl (bN (ba.neq_127 a1 a7) rfl rfl (nS ?_)))
  refine dg hres rfl ?_ ?_ <;> clear hres <;> intro c hres <;> try simp only [qa] at c
  ·refine sR (mB rfl (nS ?_))
   exact rR hres rfl rfl rfl
  ·refine ay (dh (ai (af (bN fa rfl rfl (mV rfl (av (cx ?_)))))))
   have hbd := ee a8
   have hinc : wr (a0 + 1) = a0 + 1 := dm (by omega) (by omega)
   erw [hinc]
   exact wC (ih   (by omega) (by omega) (Mem.sub a2 (.cons _ .slnil)) hres) rfl

theorem dn8 {x0 : aw} {x1 : aw} {v0 v1 : PV} (r0 : aw.t.R x0 v0) (r1 : aw.t.R x1 v1) : FnR Tryz.prog 42 [v0, v1] (vb (jo x0 x1)) := by
 refine fnS (R := RF42) cp2 (fun _ h => h) rfl fun res hres => ?_
 unfold jo at hres
 refine sR (ab (dz rfl (TR.cnt aw.t r0)) (ab (dz rfl (TR.cnt aw.t r1)) (mB rfl (nS (ah (sR (fL rfl (aw.g_Priority r0) rfl rfl (fL rfl (aw.g_Priority r1) rfl rfl ?_))))))))
 refine bN nf rfl rfl (mV rfl ?_)
 refine cp 8 (d := 20) (v := vb ((!decide (x0.Priority = x1.Priority)) || (!decide ((x0.Keys.length : Int) = (x1.Keys.length : Int))))) ?_ ?_
 ·intro S Q r
  cases a6 : (!decide (x0.Priority = x1.Priority))
  ·intro k
   have a3 := a6
   try simp only [qa] at a3
   obtain ⟨b0, a9, a1⟩ := aw.g_Keys r0
   refine ak rfl rfl (ck rfl a9) (ak rfl rfl (bt rfl (TR.cnt (tSl ba.t) a1) (TR.agg (tSl ba.t) a1)) (ak rfl rfl (cw rfl (cg a1 Tryz.underlying38 _)) ?_))
   obtain ⟨b1, a7, a5⟩ := aw.g_Keys r1
   refine ak rfl rfl (ck rfl a7) (ak rfl rfl (bt rfl (TR.cnt (tSl ba.t) a5) (TR.agg (tSl ba.t) a5)) (ak rfl rfl (cw rfl (cg a5 Tryz.underlying38 _)) (ak rfl rfl (az rfl rfl nf) ?_)))
   exact gK rfl rfl rfl rfl rfl k
  ·exact gN 7 rfl rfl rfl rfl rfl rfl
 refine nS ?_
 refine dg hres rfl ?_ ?_ <;> clear hres <;> intro a0 hres <;> have a2 := a0 <;> try simp only [qa] at a2
 ·refine sR (mB rfl (nS ?_))
  exact rR hres rfl rfl rfl
 ·refine ay (ai (ah (sR ?_)))
  obtain ⟨b3, a8, a4⟩ := aw.g_Keys r0
  refine fA rfl a8 (lD a4 rfl rfl rfl (ab (cw rfl (cg a4 Tryz.underlying38 _)) (mI rfl (nS (bf ?_)))))
  refine wC (zg r1 a0 a4 ?_  rfl (by omega) (Mem.sub (Mem.nil ⟨0, []⟩) .slnil) hres) rfl
  ·intro b4 b2 hres
   refine ft (ai (sR (mB rfl (nS ?_))))
   exact rR hres rfl rfl rfl

def RF53 (res : Int) (r : PV) : Prop := r = vi res
theorem ae1 {S : List Fr} {res : Int} {x0 : aa} {x1 : Int} {a1 : (List Int)} {a3 : PV} (a6 : du x0 x1 = a1) (a4 : (tSl tI).R a1 a3) {K0 : Int → Int}
  (a8 : ∀ {a2 : Int}, K0 a2 = res → PX Tryz.prog 0 S (QR Tryz.prog [(4, none)] (RF53 res)) [(5, vi a2)] ⟨0, []⟩) :
  ∀ {m : Nat} {a2 a0 : Int} (a7 : m = Int.toNat ((a1.length : Int) - a0)) (a5 : 0 ≤ a0), na a1 K0 m a2 a0 = res → RC Tryz.prog (.loop db8) S (QR Tryz.prog [(4, none)] (RF53 res)) [(12, vi a0), (11, vi (a1.length : Int)), (10, a3), (5, vi a2)] ⟨0, []⟩ := by
 intro m
 induction m with
 | zero =>
  intro a2 a0 a7 a5 hres
  rw [na] at hres
  refine bw (sR (bN cy rfl rfl (nS (ah ?_))))
  refine bc rfl ?_ ?_ <;> intro c <;> try simp only [qa] at c
  ·omega
  refine dt (fj (df ?_))
  exact wP (a8  hres) rfl
 | succ m ih =>
  intro a2 a0 a7 a5 hres
  rw [na] at hres
  refine bw (sR (bN cy rfl rfl (nS (ah ?_))))
  refine bc rfl ?_ ?_ <;> intro c <;> try simp only [qa] at c
  rotate_left
  ·omega
  refine ay (ai (ah (bf (sR (ab (bp rfl rfl (slI a4 (by first | omega | (have hk := bn (by assumption) (by assumption); omega) | (have hk := tck (by assumption) (by assumption); omega) | (have hk := rtck (by assumption) (by assumption); omega) | (have hk := eck (by assumption) (by assumption) (by assumption); omega) | (have hk := tv (by assumption) (by assumption); omega) | (have hk := rtv (by assumption) (by assumption); omega)) (by first | omega | (have hk := bn (by assumption) (by assumption); omega) | (have hk := tck (by assumption) (by assumption); omega) | (have hk := rtck (by assumption) (by assumption); omega) | (have hk := eck (by assumption) (by assumption) (by assumption); omega) | (have hk := tv (by assumption) (by assumption); omega) | (have hk := rtv (by assumption) (by assumption); omega)))) (lR rfl rfl rfl (mV rfl (nS ?_))))))))
  refine af (mV rfl (mV rfl (bN fa rfl rfl (mV rfl (av (dh (ai (af ?_))))))))
  refine bN fa rfl rfl (mV rfl (av (cx ?_)))
  have hbd := ee a4
  have hinc : wr (a0 + 1) = a0 + 1 := dm (by omega) (by omega)
  erw [hinc]
  exact wC (ih   (by omega) (by omega) hres) rfl

theorem dt8 {x0 : aa} {x1 : Int} {v0 : PV} (r0 : aa.t.R x0 v0) : FnR Tryz.prog 53 [v0, vi x1] (vi (jk x0 x1)) := by
 refine fnS (R := RF53) ce7 (fun _ h => h) rfl fun res hres => ?_
 unfold jk at hres
 refine sR (ab (dz rfl (TR.cnt aa.t r0)) (mI rfl (nR (mI rfl (nS (ah (sR (lD r0 rfl rfl rfl ?_))))))))
 refine mV rfl ?_
 obtain ⟨a5, a0, hres⟩ := dl hres
 obtain ⟨a4, a3, a1⟩ := av7 (x1 := x1) r0 
 rw [a0] at a1
 refine cL a3 rfl rfl (aq (TR.clo aa.t r0) (aq rfl bh)) (ab (cw rfl (cg a1 Tryz.underlying29 _)) (mI rfl (nS (bf ?_))))
 refine wC (ae1 a0 a1 ?_  rfl (by omega) hres) rfl
 ·intro a2 hres
  refine ft (ai (sR (mV rfl (mV rfl (nS ?_)))))
  exact rR hres rfl rfl rfl

def RF54 (res : ae) (r : PV) : Prop := ae.t.R res r
theorem aa4 {S : List Fr} {res : ae} {x0 : aw} {x1 : List Int} {v1 b5 : PV} {a5 a4 a6 a7 : Nat} (r1 : (tSl tI).R x1 v1) (hl : x0.Keys.length ≤ x1.length) (hW : ∀ j : Int, 0 ≤ j → j < x1.length → 0 ≤ ix x1 j) (b7 : (tSl ba.t).R x0.Keys b5) {K0 : ae → ae}
  (c6 : ∀ {a1 : ae} {a2 : PV} (a3 : ae.t.R a1 a2) {h : Heap} (M0 : Mem h [⟨.op a6 a7 0, 99, 2, [a2]⟩, ⟨.op a5 a4 0, 99, 2, [.agg [cj 0#64, cj 0#64]]⟩]), K0 a1 = res → PX Tryz.prog 0 S (QR Tryz.prog [(4, some (2, true))] (RF54 res)) [(4, .op a5 a4 0), (5, .op a6 a7 0)] h) :
  ∀ {m : Nat} {a0 : Int} {a1 : ae} {a2 : PV} (a3 : ae.t.R a1 a2) (c5 : m = Int.toNat ((x0.Keys.length : Int) - a0)) (b6 : 0 ≤ a0) {h : Heap} (M0 : Mem h [⟨.op a6 a7 0, 99, 2, [a2]⟩, ⟨.op a5 a4 0, 99, 2, [.agg [cj 0#64, cj 0#64]]⟩]), ky x0 x1 K0 m a0 a1 = res → RC Tryz.prog (.loop df6) S (QR Tryz.prog [(4, some (2, true))] (RF54 res)) [(11, vi a0), (10, vi (x0.Keys.length : Int)), (9, b5), (5, .op a6 a7 0), (4, .op a5 a4 0), (1, v1)] h := by
 intro m
 induction m with
 | zero =>
  intro a0 a1 a2 a3 c5 b6 h M0 hres
  rw [ky] at hres
  refine bw (sR (bN cy rfl rfl (nS (ah ?_))))
  refine bc rfl ?_ ?_ <;> intro c <;> try simp only [qa] at c
  ·omega
  refine dt (fj (df ?_))
  exact wP (c6 a3 (Mem.sub M0 (.cons_cons _ (.cons_cons _ .slnil))) hres) rfl
 | succ m ih =>
  intro a0 a1 a2 a3 c5 b6 h M0 hres
  rw [ky] at hres
  refine bw (sR (bN cy rfl rfl (nS (ah ?_))))
  refine bc rfl ?_ ?_ <;> intro c <;> try simp only [qa] at c
  rotate_left
  ·omega
  refine ay (ai (ah (bf (sR (mV rfl ?_)))))
  obtain ⟨b1, b9, b0⟩ := dk (i := a0) b7 (by first | omega | omega) (by first | omega | omega)
  refine ab (bp rfl rfl b9) (lD b0 rfl rfl rfl ?_)
  refine dc (x := .agg [fb 0#32, fb 0#32]) M0 rfl rfl (fun b2 b4 c7 b8 => ?_)
  refine mV rfl ?_
  refine db (k := 0) (v := b1) b8 rfl rfl rfl (TR.cnt ba.t b0) (fun c4 a9 => ?_)
  replace a9 : Mem c4 [⟨.op b2 b4 0, 127, 2, [b1]⟩, ⟨.op a6 a7 0, 99, 2, [a2]⟩, ⟨.op a5 a4 0, 99, 2, [.agg [cj 0#64, cj 0#64]]⟩] := a9
  refine nR (ab (bd rfl) (ab (co (k := 1) a9 rfl rfl (ae.g_Value a3)) (mV rfl (mV rfl (ab (bp rfl rfl (slI r1 (by first | omega | omega) (by first | omega | omega))) (lR rfl rfl rfl (ab (az (a := cj a1.Value) (b := vi (ix x1 a0)) rfl rfl (ce9 (by exact hW _ (by omega) (by omega)))) (ab (bd rfl) ?_))))))))
  refine ab (co (k := 0) a9 rfl rfl (ba.g_Value b0)) (ab (tf (a := fb ((ix x0.Keys a0).Value)) rfl (c_wd Tryz.underlying64 Tryz.underlying97)) (ab (az (a := cj (a1.Value <<< (ix x1 a0).toNat)) (b := cj (BitVec.setWidth 64 ((ix x0.Keys a0).Value))) rfl rfl d_or) (ab (bd rfl) ?_)))
  have c0 := a3
  subst c0
  refine ju (k := 1) (v := cj ((a1.Value <<< (ix x1 a0).toNat) ||| (BitVec.setWidth 64 ((ix x0.Keys a0).Value)))) a9 rfl rfl rfl rfl rfl (by first | decide | (simp only [List.length_cons, List.length_nil]; omega) | simp) (fun c1 a8 => ?_)
  replace a8 : Mem c1 [⟨.op b2 b4 0, 127, 2, [b1]⟩, ⟨.op a6 a7 0, 99, 2, [.agg [cj ((a1.Value <<< (ix x1 a0).toNat) ||| (BitVec.setWidth 64 ((ix x0.Keys a0).Value))), cj a1.Mask]]⟩, ⟨.op a5 a4 0, 99, 2, [.agg [cj 0#64, cj 0#64]]⟩] := a8
  refine nS (af (ab (bd rfl) (ab (co (k := 1) a8 rfl rfl rfl) (mV rfl (mV rfl (ab (bp rfl rfl (slI r1 (by first | omega | omega) (by first | omega | omega))) (lR rfl rfl rfl (ab (az (a := cj a1.Mask) (b := vi (ix x1 a0)) rfl rfl (ce9 (by exact hW _ (by omega) (by omega)))) ?_))))))))
  refine ab (bd rfl) (ab (co (k := 0) a8 rfl rfl (ba.g_Mask b0)) (ab (tf (a := fb ((ix x0.Keys a0).Mask)) rfl (c_wd Tryz.underlying64 Tryz.underlying97)) (ab (az (a := cj (a1.Mask <<< (ix x1 a0).toNat)) (b := cj (BitVec.setWidth 64 ((ix x0.Keys a0).Mask))) rfl rfl d_or) (ab (bd rfl) ?_))))
  refine ju (k := 1) (v := cj ((a1.Mask <<< (ix x1 a0).toNat) ||| (BitVec.setWidth 64 ((ix x0.Keys a0).Mask)))) a8 rfl rfl rfl rfl rfl (by first | decide | (simp only [List.length_cons, List.length_nil]; omega) | simp) (fun c3 b3 => ?_)
  replace b3 : Mem c3 [⟨.op b2 b4 0, 127, 2, [b1]⟩, ⟨.op a6 a7 0, 99, 2, [.agg [cj ((a1.Value <<< (ix x1 a0).toNat) ||| (BitVec.setWidth 64 ((ix x0.Keys a0).Value))), cj ((a1.Mask <<< (ix x1 a0).toNat) ||| (BitVec.setWidth 64 ((ix x0.Keys a0).Mask)))]]⟩, ⟨.op a5 a4 0, 99, 2, [.agg [cj 0#64, cj 0#64]]⟩] := b3
  refine av (dh (ai (af (bN fa rfl rfl (mV rfl (av (cx ?_)))))))
  have hbd := ee b7
  have hinc : wr (a0 + 1) = a0 + 1 := dm (by omega) (by omega)
  erw [hinc]
  exact wC (ih  rfl (by omega) (by omega) (Mem.sub b3 (.cons _ (.cons_cons _ (.cons_cons _ .slnil)))) hres) rfl

theorem cn1 {x0 : aw} {x1 : List Int} {v0 v1 : PV} (r0 : aw.t.R x0 v0) (r1 : (tSl tI).R x1 v1) (hl : x0.Keys.length ≤ x1.length) (hW : ∀ j : Int, 0 ≤ j → j < x1.length → 0 ≤ ix x1 j) : ∃ r, FnR Tryz.prog 54 [v0, v1] r ∧ ae.t.R (gj x0 x1) r := by
 refine fnT (R := RF54) cm1 rfl fun res hres => ?_
 unfold gj at hres
 refine sR (ab (dz rfl (TR.cnt aw.t r0)) ?_)
 refine dc (x := .agg [cj 0#64, cj 0#64]) (Mem.nil ⟨0, []⟩) rfl rfl (fun a9 a7 b5 a6 => ?_)
 refine nR ?_
 refine dc (x := .agg [cj 0#64, cj 0#64]) a6 rfl rfl (fun b1 b2 b7 a8 => ?_)
 refine nS (ah (sR (gL (aw.g_Keys r0) rfl rfl rfl fun b4 a5 => (ab (cw rfl (cg a5 Tryz.underlying38 _)) (mI rfl (nS (bf ?_)))))))
 have b6 : ae.t.R ({ Value := 0#64, Mask := 0#64 } : ae) (.agg [cj 0#64, cj 0#64]) := rfl
 refine wC (aa4 r1 hl hW a5 ?_  rfl rfl (by omega) (Mem.sub a8 (.cons_cons _ (.cons_cons _ .slnil))) hres) rfl
 ·intro a3 a1 a0 b3 a4 hres
  refine ft (ai (sR (ab (gi (k := 0) a4 rfl rfl (TR.agg ae.t a0)) ?_)))
  refine db (k := 1) (v := a1) a4 rfl rfl rfl (TR.cnt ae.t a0) (fun b0 a2 => ?_)
  replace a2 : Mem b0 [⟨.op b1 b2 0, 99, 2, [a1]⟩, ⟨.op a9 a7 0, 99, 2, [a1]⟩] := a2
  refine nS ?_
  subst hres
  exact dw (.cell rfl (ji (k := 1) a2 rfl (TR.agg ae.t a0)) .nil) (cf (TR.clo ae.t a0)) a0

end Go.Proofs.YthdnpgpnodgicaaGreat
