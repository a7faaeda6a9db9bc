/-
 The code of each function does what its plain program says.
-/
import Derived.Test.YthdnpgpnodgicaaGreatL7W4
set_option linter.all false
set_option maxRecDepth 100000
namespace Go.Proofs.YthdnpgpnodgicaaGreat
open Go Go.Pb Go.RowKit
def RF117 (res : (BitVec 32)) (r : PV) : Prop := r = dx res
theorem cw5 {x0 x1 : Int} : FnR Tryz.prog 117 [vi x0, vi x1] (dx (jo x0 x1)) := by
 refine fnS (R := RF117) bk1 (fun _ h => h) rfl fun res hres => ?_
 unfold jo at hres
 refine sR (ab (v := dx 0#32) (au rfl) (nS (ah (sR (mV rfl (ab (v := .fs true [vi x1]) (iw rfl (all_cons rfl lu)) ?_))))))
 have a6 : (tSl tI).R ([x1] : List Int) (.fs true [vi x1]) := tp ⟨rfl, trivial⟩ (by simp)
 obtain ⟨a9, a3, hres⟩ := dq hres
 have a1 := ah9  a6 
 rw [a3] at a1
 refine cL a1 rfl rfl (aq (TR.clo (tSl tI) a6) bg) (ab (io rfl) (nS ?_))
 refine di hres rfl ?_ ?_ <;> clear hres <;> intro c hres <;> try simp only [qa] at c
 ·refine sR (ab (v := dx 0#32) (au rfl) (nS ?_))
  exact rR hres rfl rfl rfl
 ·refine ay (ai (sR (mV rfl ?_)))
  obtain ⟨a8, a7, hres⟩ := dq hres
  have a2 := yw (x0 := x1)  
  rw [a7] at a2
  refine cL a2 rfl rfl (aq rfl bg) (mV rfl ?_)
  obtain ⟨a5, a0, hres⟩ := dq hres
  have a4 := yw (x0 := x1)  
  rw [a0] at a4
  refine cL a4 rfl rfl (aq rfl bg) (mV rfl (ab (cw rfl (bo8 _ _)) (mV rfl (ab (cw rfl (bk0 _ _)) (ab (ba (a := dx a5) (b := vi (min (max x0 0) x1)) rfl rfl (bm2 (by have hk := mv (by assumption) (by assumption); omega))) (ab (ba (a := dx a8) (b := dx (a5 >>> (min (max x0 0) x1).toNat)) rfl rfl ba2) (mV rfl (nS ?_))))))))
  exact rR hres rfl rfl rfl

def RF86 (res : Int × Bool) (r : PV) : Prop := r = .tup [vi res.1, vb res.2]
theorem wx {S : List Fr} {res : Int × Bool} {x0 : BitVec 32} {x1 : Int} {a4 : Bool} (a9 : ja ([x1] : List Int) = a4) (a2 : (!a4) = false) {K0 : Unit → (Int × Bool)}
  (b0 : K0 () = res → PX Tryz.prog 0 S (QR Tryz.prog [(4, none), (5, none)] (RF86 res)) [] ⟨0, []⟩) :
  ∀ {m : Nat} {a0 : Int} (a8 : m = Int.toNat ((wr (x1 + 1)) - a0)) (a5 : 0 ≤ a0), fk x0 x1 K0 m a0 = res → RC Tryz.prog (.loop cw1) S (QR Tryz.prog [(4, none), (5, none)] (RF86 res)) [(13, vi a0), (12, vi (wr (x1 + 1))), (1, vi x1), (0, dx x0)] ⟨0, []⟩ := by
 have a1 := a2
 try simp only [qa] at a1
 intro m
 induction m with
 | zero =>
  intro a0 a8 a5 hres
  rw [fk] at hres
  refine bt (sR (bN cy rfl rfl (nS (ah ?_))))
  refine bc rfl ?_ ?_ <;> intro c <;> try simp only [qa] at c
  ·omega
  refine dm (fb (df ?_))
  exact wP (b0  hres) rfl
 | succ m ih =>
  intro a0 a8 a5 hres
  rw [fk] at hres
  refine bt (sR (bN cy rfl rfl (nS (ah ?_))))
  refine bc rfl ?_ ?_ <;> intro c <;> try simp only [qa] at c
  rotate_left
  ·omega
  refine ay (ai (ah (bd (sR (mV rfl (mV rfl (nR (mV rfl ?_))))))))
  refine mV rfl ?_
  obtain ⟨a7, a3, hres⟩ := dq hres
  have a6 := cw5 (x0 := a0) (x1 := x1)  
  rw [a3] at a6
  refine cL a6 rfl rfl (aq rfl (aq rfl bg)) (mV rfl (ab (ba (a := dx a7) (b := dx x0) rfl rfl cb8) (nS ?_)))
  refine di hres rfl ?_ ?_ <;> clear hres <;> intro c hres <;> try simp only [qa] at c
  ·refine sR (mV rfl (mV rfl (mB rfl (nS ?_))))
   exact rT hres rfl rfl rfl rfl rfl
  ·refine ay (dj (ai (af (bN ep rfl rfl (mV rfl (aw (cx ?_)))))))
   have hinc : wr (a0 + 1) = a0 + 1 := du (by omega) (by have hk := mv (by assumption) (by assumption); have e := du (n := x1 + 1) (by omega) (by omega); omega)
   erw [hinc]
   exact wC (ih   (by omega) (by omega) hres) rfl

theorem co0 {x0 : BitVec 32} {x1 : Int} : FnR Tryz.prog 86 [dx x0, vi x1] (.tup [vi ((ej x0 x1).1), vb ((ej x0 x1).2)]) := by
 refine fnS (R := RF86) by2 (fun _ h => h) rfl fun res hres => ?_
 unfold ej at hres
 refine sR (mI rfl (mB rfl (nS (ah (sR (mV rfl (ab (v := .fs true [vi x1]) (iw rfl (all_cons rfl lu)) ?_)))))))
 have a4 : (tSl tI).R ([x1] : List Int) (.fs true [vi x1]) := tp ⟨rfl, trivial⟩ (by simp)
 obtain ⟨a5, a1, hres⟩ := dq hres
 have a3 := ah9  a4 
 rw [a1] at a3
 refine cL a3 rfl rfl (aq (TR.clo (tSl tI) a4) bg) (ab (io rfl) (nS ?_))
 refine di hres rfl ?_ ?_ <;> clear hres <;> intro a0 hres <;> have a2 := a0 <;> try simp only [qa] at a2
 ·refine sR (mI rfl (mB rfl (nS ?_)))
  exact rT hres rfl rfl rfl rfl rfl
 ·refine ay (ai (ah (sR (mV rfl (bN ep rfl rfl (mI rfl (nS (bd ?_))))))))
  refine wC (wx a1 a0 ?_  rfl (by omega) hres) rfl
  ·intro  hres
   refine fe (ai (sR (mI rfl (mB rfl (nS ?_)))))
   exact rT hres rfl rfl rfl rfl rfl

def RF76 (res : Int) (r : PV) : Prop := r = vi res
theorem dp0 {x0 : bb} {x1 x2 : Int} {v0 : PV} (r0 : bb.t.R x0 v0) : FnR Tryz.prog 76 [v0, vi x1, vi x2] (vi (qb x0 x1 x2)) := by
 refine fnS (R := RF76) ca2 (fun _ h => h) rfl fun res hres => ?_
 unfold qb at hres
 refine sR (ab (dt rfl (TR.cnt bb.t r0)) (mI rfl (nS (ah (bd (sR (fL rfl (bb.g_Value r0) rfl rfl (mV rfl ?_))))))))
 obtain ⟨a4, a5, hres⟩ := dq hres
 have a7 := au9 (x0 := x0.Value) (x1 := x2)  
 rw [a5] at a7
 refine cL a7 rfl rfl (aq rfl (aq rfl bg)) (ab (io rfl) (mV rfl ?_))
 refine cn 6 (d := 21) (v := vb ((!a4) || (!(kh x0.Mask x2)))) ?_ ?_
 ·intro S Q r
  cases a3 : (!a4)
  ·intro k
   have a1 := a3
   try simp only [qa] at a1
   refine am rfl rfl (bz rfl (bb.g_Mask r0)) (am rfl rfl (br rfl rfl rfl) (am rfl rfl (au rfl) ?_))
   have b2 := au9 (x0 := x0.Mask) (x1 := x2)  
   refine kp rfl rfl (sj rfl rfl (aq rfl (aq rfl bg)) b2) (am rfl rfl (io rfl) ?_)
   exact gK rfl rfl rfl rfl rfl k
  ·exact gN 5 rfl rfl rfl rfl rfl rfl
 refine mV rfl (nS ?_)
 refine di hres rfl ?_ ?_ <;> clear hres <;> intro c hres <;> try simp only [qa] at c
 ·refine sR (mI rfl (nS ?_))
  exact rR hres rfl rfl rfl
 ·refine sR (fL rfl (bb.g_Value r0) rfl rfl (fL rfl (bb.g_Mask r0) rfl rfl (ab (ba (a := dx x0.Value) (b := dx x0.Mask) rfl rfl ba2) (ab (ba (a := dx (x0.Value &&& ~~~x0.Mask)) (b := dx 0#32) rfl rfl br2) (mV rfl (nS ?_))))))
  refine di hres rfl ?_ ?_ <;> clear hres <;> intro c hres <;> try simp only [qa] at c
  ·refine sR (mI rfl (nS ?_))
   exact rR hres rfl rfl rfl
  ·refine sR (mV rfl (bN oe rfl rfl (mV rfl ?_)))
   refine cn 6 (d := 38) (v := vb ((decide (x1 = 1)) && (!decide (x0.Mask = (fa x2))))) ?_ ?_
   ·intro S Q r
    cases a9 : (decide (x1 = 1))
    ·exact gN 5 rfl rfl rfl rfl rfl rfl
    ·intro k
     have a0 := a9
     try simp only [qa] at a0
     refine am rfl rfl (bz rfl (bb.g_Mask r0)) (am rfl rfl (br rfl rfl rfl) (am rfl rfl (au rfl) ?_))
     have b0 := yw (x0 := x2)  
     refine kp rfl rfl (sj rfl rfl (aq rfl bg) b0) (am rfl rfl (ba (a := dx x0.Mask) (b := dx (fa x2)) rfl rfl br2) ?_)
     exact gK rfl rfl rfl rfl rfl k
   refine mV rfl (nS ?_)
   refine di hres rfl ?_ ?_ <;> clear hres <;> intro c hres <;> try simp only [qa] at c
   ·refine sR (mI rfl (nS ?_))
    exact rR hres rfl rfl rfl
   ·refine ay (dj (ai (ah (sR (mV rfl (bN oe rfl rfl (nS ?_)))))))
    obtain ⟨b1, a6, hres⟩ := dq hres
    refine vv (F := fun b S Q =>  b1 () = res → RC Tryz.prog b S Q [] ⟨0, []⟩) ?_ ?_
    ·intro   hres
     rw [← a6] at hres
     refine sR (mI rfl (nS ?_))
     exact rR hres rfl rfl rfl
    ·intro J
     refine di hres rfl ?_ ?_ <;> clear hres <;> intro c hres <;> try simp only [qa] at c
     ·refine sR (fL rfl (bb.g_Mask r0) rfl rfl (mV rfl ?_))
      obtain ⟨b3, a8, hres⟩ := dq hres
      have a2 := co0 (x0 := x0.Mask) (x1 := x2)  
      rw [a8] at a2
      refine cL a2 rfl rfl (aq rfl (aq rfl bg)) (mV rfl (xT rfl rfl (xT rfl rfl (mV rfl (mV rfl (nR (mV rfl (ab (io rfl) ?_))))))))
      refine nS ?_
      refine di hres rfl ?_ ?_ <;> clear hres <;> intro c hres <;> try simp only [qa] at c
      ·refine sR (mI rfl (nS ?_))
       exact rR hres rfl rfl rfl
      ·refine ay ?_
       refine ai (wC (J   hres) rfl)
     ·refine ay ?_
      refine ai (wC (J   hres) rfl)

def RF44 (res : Int) (r : PV) : Prop := r = vi res
theorem ae5 {S : List Fr} {res : Int} {x0 : aa} {x1 : Int} {a7 : Bool} {b0 : PV} (b6 : gh x0 x1 = a7) (a9 : (!a7) = false) (a3 : (tSl bh.t).R ((ix x0.Tables x1).Keys) b0) {K0 : Int → Int}
  (b9 : ∀ {a4 : Int} {h : Heap} (M0 : Mem h []), K0 a4 = res → PX Tryz.prog 0 S (QR Tryz.prog [(4, none)] (RF44 res)) [(5, vi a4)] h) :
  ∀ {m : Nat} {a4 a0 : Int} (b7 : m = Int.toNat ((((ix x0.Tables x1).Keys).length : Int) - a0)) (a8 : 0 ≤ a0) {h : Heap} (M0 : Mem h []), lw x0 x1 K0 m a4 a0 = res → RC Tryz.prog (.loop cz5) S (QR Tryz.prog [(4, none)] (RF44 res)) [(19, vi a0), (18, vi (((ix x0.Tables x1).Keys).length : Int)), (17, b0), (5, vi a4)] h := by
 have a5 := a9
 try simp only [qa] at a5
 intro m
 induction m with
 | zero =>
  intro a4 a0 b7 a8 h M0 hres
  rw [lw] at hres
  refine bt (sR (bN cy rfl rfl (nS (ah ?_))))
  refine bc rfl ?_ ?_ <;> intro c <;> try simp only [qa] at c
  ·omega
  refine dm (fb (df ?_))
  exact wP (b9 (Mem.sub M0 .slnil) hres) rfl
 | succ m ih =>
  intro a4 a0 b7 a8 h M0 hres
  rw [lw] at hres
  refine bt (sR (bN cy rfl rfl (nS (ah ?_))))
  refine bc rfl ?_ ?_ <;> intro c <;> try simp only [qa] at c
  rotate_left
  ·omega
  refine ay (ai (ah (bd (sR ?_))))
  obtain ⟨a6, b1, a2⟩ := dl (i := a0) a3 (by first | omega | (have hk := bn (by assumption) (by assumption); omega) | (have hk := tck (by assumption) (by assumption); omega) | (have hk := rtck (by assumption) (by assumption); omega) | (have hk := eck (by assumption) (by assumption) (by assumption); omega) | (have hk := tv (by assumption) (by assumption); omega) | (have hk := rtv (by assumption) (by assumption); omega)) (by first | omega | (have hk := bn (by assumption) (by assumption); omega) | (have hk := tck (by assumption) (by assumption); omega) | (have hk := rtck (by assumption) (by assumption); omega) | (have hk := eck (by assumption) (by assumption) (by assumption); omega) | (have hk := tv (by assumption) (by assumption); omega) | (have hk := rtv (by assumption) (by assumption); omega))
  refine ab (bq rfl rfl b1) (lD a2 rfl rfl rfl ?_)
  refine dh (x := .agg [vi 0, vi 0, vi 0]) M0 rfl rfl (fun b3 b4 b8 b5 => ?_)
  refine db (k := 0) (v := a6) b5 rfl rfl rfl (TR.cnt bh.t a2) (fun b2 a1 => ?_)
  replace a1 : Mem b2 [⟨.op b3 b4 0, 112, 3, [a6]⟩] := a1
  refine nS (bd (sR (ab (bf rfl) (ab (cp (k := 0) a1 rfl rfl (bh.g_Kind a2)) (bN oe rfl rfl (mV rfl (nS ?_)))))))
  refine di hres rfl ?_ ?_ <;> clear hres <;> intro c hres <;> try simp only [qa] at c
  ·refine sR (mI rfl (nS ?_))
   exact rR hres rfl rfl rfl
  ·refine sR (ab (bf rfl) (ab (cp (k := 0) a1 rfl rfl (bh.g_Kind a2)) (bN oe rfl rfl (mV rfl (nS ?_)))))
   refine di hres rfl ?_ ?_ <;> clear hres <;> intro c hres <;> try simp only [qa] at c
   ·refine af (mI rfl (aw (dj (dj (ai (af (bN ep rfl rfl (mV rfl ?_))))))))
    refine aw (cx ?_)
    have hbd := dv a3
    have hinc : wr (a0 + 1) = a0 + 1 := du (by omega) (by omega)
    erw [hinc]
    exact wC (ih   (by omega) (by omega) (Mem.sub a1 (.cons _ .slnil)) hres) rfl
   ·refine ay (dj (dj (ai (af (bN ep rfl rfl (mV rfl (aw (cx ?_))))))))
    have hbd := dv a3
    have hinc : wr (a0 + 1) = a0 + 1 := du (by omega) (by omega)
    erw [hinc]
    exact wC (ih   (by omega) (by omega) (Mem.sub a1 (.cons _ .slnil)) hres) rfl

theorem bz0 {x0 : aa} {x1 : Int} {v0 : PV} (r0 : aa.t.R x0 v0) : FnR Tryz.prog 44 [v0, vi x1] (vi (il x0 x1)) := by
 refine fnS (R := RF44) bw2 (fun _ h => h) rfl fun res hres => ?_
 unfold il at hres
 refine sR (ab (dt rfl (TR.cnt aa.t r0)) (mI rfl (nS (ah (sR (lD r0 rfl rfl rfl (mV rfl ?_)))))))
 obtain ⟨b1, a0, hres⟩ := dq hres
 have a5 := bf2 (x1 := x1) r0 
 rw [a0] at a5
 refine cL a5 rfl rfl (aq (TR.clo aa.t r0) (aq rfl bg)) (ab (io rfl) (nS ?_))
 refine di hres rfl ?_ ?_ <;> clear hres <;> intro a1 hres <;> have a3 := a1 <;> try simp only [qa] at a3
 ·refine sR (mI rfl (nS ?_))
  exact rR hres rfl rfl rfl
 ·refine ay (ai (sR (mI rfl (nS (ah (sR ?_))))))
  obtain ⟨b4, a6, a4⟩ := aa.g_Tables r0
  refine fA rfl a6 (lD a4 rfl rfl rfl (mV rfl ?_))
  obtain ⟨b3, a8, a9⟩ := dl (i := x1) a4 (by first | omega | (have hk := bn (by assumption) (by assumption); omega) | (have hk := tck (by assumption) (by assumption); omega) | (have hk := rtck (by assumption) (by assumption); omega) | (have hk := eck (by assumption) (by assumption) (by assumption); omega) | (have hk := tv (by assumption) (by assumption); omega) | (have hk := rtv (by assumption) (by assumption); omega)) (by first | omega | (have hk := bn (by assumption) (by assumption); omega) | (have hk := tck (by assumption) (by assumption); omega) | (have hk := rtck (by assumption) (by assumption); omega) | (have hk := eck (by assumption) (by assumption) (by assumption); omega) | (have hk := tv (by assumption) (by assumption); omega) | (have hk := rtv (by assumption) (by assumption); omega))
  refine ab (bq rfl rfl a8) ?_
  obtain ⟨b5, a7, a2⟩ := az.g_Keys a9
  refine fA rfl a7 (lD a2 rfl rfl rfl (ab (cw rfl (cf a2 Tryz.underlying85 _)) (mI rfl (nS (bd ?_)))))
  refine wC (ae5 a0 a1 a2 ?_  rfl (by omega) (Mem.sub (Mem.nil ⟨0, []⟩) .slnil) hres) rfl
  ·intro b0 b2 b6 hres
   refine fe (ai (sR (mV rfl (mV rfl (nS ?_)))))
   exact rR hres rfl rfl rfl

def RF77 (res : Bool) (r : PV) : Prop := r = vb res
theorem zx {S : List Fr} {res : Bool} {x0 : aa} {x1 x2 : Int} {a3 : Bool} {a6 : PV} (a7 : gh x0 x1 = a3) (a5 : (!a3) = false) (a2 : (tSl tI).R ((ix x0.Tables x1).Actions) a6) {K0 : Unit → Bool}
  (a9 : K0 () = res → PX Tryz.prog 0 S (QR Tryz.prog [(6, none)] (RF77 res)) [] ⟨0, []⟩) :
  ∀ {m : Nat} {a0 : Int} (a8 : m = Int.toNat ((((ix x0.Tables x1).Actions).length : Int) - a0)) (a4 : 0 ≤ a0), kn x0 x1 x2 K0 m a0 = res → RC Tryz.prog (.loop db8) S (QR Tryz.prog [(6, none)] (RF77 res)) [(20, vi a0), (19, vi (((ix x0.Tables x1).Actions).length : Int)), (18, a6), (2, vi x2)] ⟨0, []⟩ := by
 have a1 := a5
 try simp only [qa] at a1
 intro m
 induction m with
 | zero =>
  intro a0 a8 a4 hres
  rw [kn] at hres
  refine bt (sR (bN cy rfl rfl (nS (ah ?_))))
  refine bc rfl ?_ ?_ <;> intro c <;> try simp only [qa] at c
  ·omega
  refine dm (fb (df ?_))
  exact wP (a9  hres) rfl
 | succ m ih =>
  intro a0 a8 a4 hres
  rw [kn] at hres
  refine bt (sR (bN cy rfl rfl (nS (ah ?_))))
  refine bc rfl ?_ ?_ <;> intro c <;> try simp only [qa] at c
  rotate_left
  ·omega
  refine ay (ai (ah (bd (sR (ab (bq rfl rfl (slI a2 (by first | omega | (have hk := bn (by assumption) (by assumption); omega) | (have hk := tck (by assumption) (by assumption); omega) | (have hk := rtck (by assumption) (by assumption); omega) | (have hk := eck (by assumption) (by assumption) (by assumption); omega) | (have hk := tv (by assumption) (by assumption); omega) | (have hk := rtv (by assumption) (by assumption); omega)) (by first | omega | (have hk := bn (by assumption) (by assumption); omega) | (have hk := tck (by assumption) (by assumption); omega) | (have hk := rtck (by assumption) (by assumption); omega) | (have hk := eck (by assumption) (by assumption) (by assumption); omega) | (have hk := tv (by assumption) (by assumption); omega) | (have hk := rtv (by assumption) (by assumption); omega)))) (lR rfl rfl rfl (mV rfl (nR ?_))))))))
  refine mV rfl (mV rfl (bN oe rfl rfl (nS ?_)))
  refine di hres rfl ?_ ?_ <;> clear hres <;> intro c hres <;> try simp only [qa] at c
  ·refine sR (mB rfl (nS ?_))
   exact rR hres rfl rfl rfl
  ·refine ay (dj (ai (af (bN ep rfl rfl (mV rfl (aw (cx ?_)))))))
   have hbd := dv a2
   have hinc : wr (a0 + 1) = a0 + 1 := du (by omega) (by omega)
   erw [hinc]
   exact wC (ih   (by omega) (by omega) hres) rfl

theorem dj7 {x0 : aa} {x1 x2 : Int} {v0 : PV} (r0 : aa.t.R x0 v0) : FnR Tryz.prog 77 [v0, vi x1, vi x2] (vb (qn x0 x1 x2)) := by
 refine fnS (R := RF77) cg0 (fun _ h => h) rfl fun res hres => ?_
 unfold qn at hres
 refine sR (ab (dt rfl (TR.cnt aa.t r0)) (mB rfl (nS (ah (sR (lD r0 rfl rfl rfl (mV rfl ?_)))))))
 obtain ⟨b0, a0, hres⟩ := dq hres
 have a5 := bf2 (x1 := x1) r0 
 rw [a0] at a5
 refine cL a5 rfl rfl (aq (TR.clo aa.t r0) (aq rfl bg)) (ab (io rfl) (nS ?_))
 refine di hres rfl ?_ ?_ <;> clear hres <;> intro a1 hres <;> have a3 := a1 <;> try simp only [qa] at a3
 ·refine sR (mB rfl (nS ?_))
  exact rR hres rfl rfl rfl
 ·refine ay (ai (ah (sR ?_)))
  obtain ⟨b2, a6, a4⟩ := aa.g_Tables r0
  refine fA rfl a6 (lD a4 rfl rfl rfl (mV rfl ?_))
  obtain ⟨b1, a8, a9⟩ := dl (i := x1) a4 (by first | omega | (have hk := bn (by assumption) (by assumption); omega) | (have hk := tck (by assumption) (by assumption); omega) | (have hk := rtck (by assumption) (by assumption); omega) | (have hk := eck (by assumption) (by assumption) (by assumption); omega) | (have hk := tv (by assumption) (by assumption); omega) | (have hk := rtv (by assumption) (by assumption); omega)) (by first | omega | (have hk := bn (by assumption) (by assumption); omega) | (have hk := tck (by assumption) (by assumption); omega) | (have hk := rtck (by assumption) (by assumption); omega) | (have hk := eck (by assumption) (by assumption) (by assumption); omega) | (have hk := tv (by assumption) (by assumption); omega) | (have hk := rtv (by assumption) (by assumption); omega))
  refine ab (bq rfl rfl a8) ?_
  obtain ⟨b3, a7, a2⟩ := az.g_Actions a9
  refine fA rfl a7 (lD a2 rfl rfl rfl (ab (cw rfl (cf a2 Tryz.underlying29 _)) (mI rfl (nS (bd ?_)))))
  refine wC (zx a0 a1 a2 ?_  rfl (by omega) hres) rfl
  ·intro  hres
   refine fe (ai (sR (mB rfl (nS ?_))))
   exact rR hres rfl rfl rfl

def RF40 (res : Int) (r : PV) : Prop := r = vi res
theorem ac0 {S : List Fr} {res : Int} {x0 : aa} {x1 : Int} {x2 : av} {a7 : Int × Int} {a1 : (List Int)} {v0 v2 b4 b6 a9 : PV} (c9 : gy x0 x1 = a7) (b2 : (!decide (a7.2 = 0)) = false) (b7 : (tSl bh.t).R ((ix x0.Tables x1).Keys) b4) (c8 : ee x0 x1 = a1) (b9 : (tSl tI).R a1 b6) (c7 : (0 ≤ x1 ∧ x1 < x0.Tables.length) ∧ a1.length = (ix x0.Tables x1).Keys.length ∧ a1.length ≤ 6) (b0 : (!decide ((x2.Keys.length : Int) = (((ix x0.Tables x1).Keys).length : Int))) = false) (a6 : (tSl bb.t).R x2.Keys a9) {K0 : Unit → Int}
  (d2 : ∀ {h : Heap} (M0 : Mem h []), K0 () = res → PX Tryz.prog 0 S (QR Tryz.prog [(6, none)] (RF40 res)) [(1, vi x1), (3, .fp v0), (5, .fp v2)] h) :
  ∀ {m : Nat} {a0 : Int} (d0 : m = Int.toNat ((x2.Keys.length : Int) - a0)) (b1 : 0 ≤ a0) {h : Heap} (M0 : Mem h []), ml x0 x1 x2 a1 K0 m a0 = res → RC Tryz.prog (.loop de7) S (QR Tryz.prog [(6, none)] (RF40 res)) [(41, vi a0), (40, vi (x2.Keys.length : Int)), (39, a9), (10, b6), (9, b4), (5, .fp v2), (3, .fp v0), (1, vi x1)] h := by
 have a4 := b2
 try simp only [qa] at a4
 have a5 := b0
 try simp only [qa] at a5
 intro m
 induction m with
 | zero =>
  intro a0 d0 b1 h M0 hres
  rw [ml] at hres
  refine bt (sR (bN cy rfl rfl (nS (ah ?_))))
  refine bc rfl ?_ ?_ <;> intro c <;> try simp only [qa] at c
  ·omega
  refine dm (fb (df ?_))
  exact wP (d2 (Mem.sub M0 .slnil) hres) rfl
 | succ m ih =>
  intro a0 d0 b1 h M0 hres
  rw [ml] at hres
  refine bt (sR (bN cy rfl rfl (nS (ah ?_))))
  refine bc rfl ?_ ?_ <;> intro c <;> try simp only [qa] at c
  rotate_left
  ·omega
  refine ay (ai (ah (bd (sR (mV rfl ?_)))))
  obtain ⟨b3, c1, a2⟩ := dl (i := a0) a6 (by first | omega | (have hk := bn (by assumption) (by assumption); omega) | (have hk := tck (by assumption) (by assumption); omega) | (have hk := rtck (by assumption) (by assumption); omega) | (have hk := eck (by assumption) (by assumption) (by assumption); omega) | (have hk := tv (by assumption) (by assumption); omega) | (have hk := rtv (by assumption) (by assumption); omega)) (by first | omega | (have hk := bn (by assumption) (by assumption); omega) | (have hk := tck (by assumption) (by assumption); omega) | (have hk := rtck (by assumption) (by assumption); omega) | (have hk := eck (by assumption) (by assumption) (by assumption); omega) | (have hk := tv (by assumption) (by assumption); omega) | (have hk := rtv (by assumption) (by assumption); omega))
  refine ab (bq rfl rfl c1) (lD a2 rfl rfl rfl ?_)
  refine dh (x := .agg [dx 0#32, dx 0#32]) M0 rfl rfl (fun c0 c3 d1 c6 => ?_)
  refine mV rfl ?_
  refine db (k := 0) (v := b3) c6 rfl rfl rfl (TR.cnt bb.t a2) (fun c4 a3 => ?_)
  replace a3 : Mem c4 [⟨.op c0 c3 0, 127, 2, [b3]⟩] := a3
  refine nR (ab (fw (k := 0) a3 rfl rfl (TR.agg bb.t a2)) (mV rfl (mV rfl ?_)))
  obtain ⟨d3, b8, c5⟩ := dl (i := a0) b7 (by first | omega | (have hk := bn (by assumption) (by assumption); omega) | (have hk := tck (by assumption) (by assumption); omega) | (have hk := rtck (by assumption) (by assumption); omega) | (have hk := eck (by assumption) (by assumption) (by assumption); omega) | (have hk := tv (by assumption) (by assumption); omega) | (have hk := rtv (by assumption) (by assumption); omega)) (by first | omega | (have hk := bn (by assumption) (by assumption); omega) | (have hk := tck (by assumption) (by assumption); omega) | (have hk := rtck (by assumption) (by assumption); omega) | (have hk := eck (by assumption) (by assumption) (by assumption); omega) | (have hk := tv (by assumption) (by assumption); omega) | (have hk := rtv (by assumption) (by assumption); omega))
  refine ab (bq rfl rfl b8) (fL rfl (bh.g_Kind c5) rfl rfl (mV rfl (mV rfl (ab (bq rfl rfl (slI b9 (by first | omega | (have hk := bn (by assumption) (by assumption); omega) | (have hk := tck (by assumption) (by assumption); omega) | (have hk := rtck (by assumption) (by assumption); omega) | (have hk := eck (by assumption) (by assumption) (by assumption); omega) | (have hk := tv (by assumption) (by assumption); omega) | (have hk := rtv (by assumption) (by assumption); omega)) (by first | omega | (have hk := bn (by assumption) (by assumption); omega) | (have hk := tck (by assumption) (by assumption); omega) | (have hk := rtck (by assumption) (by assumption); omega) | (have hk := eck (by assumption) (by assumption) (by assumption); omega) | (have hk := tv (by assumption) (by assumption); omega) | (have hk := rtv (by assumption) (by assumption); omega)))) (lR rfl rfl rfl ?_)))))
  obtain ⟨d4, a8, hres⟩ := dq hres
  have b5 := dp0 (x1 := (ix ((ix x0.Tables x1).Keys) a0).Kind) (x2 := (ix a1 a0)) a2 
  rw [a8] at b5
  refine cL b5 rfl rfl (aq (TR.clo bb.t a2) (aq rfl (aq rfl bg))) (mV rfl (nR (mV rfl (bN ma rfl rfl (nS ?_)))))
  refine di hres rfl ?_ ?_ <;> clear hres <;> intro c hres <;> try simp only [qa] at c
  ·refine sR (mV rfl (mV rfl (nS ?_)))
   exact rR hres rfl rfl rfl
  ·refine ay (dj (ai (af (bN ep rfl rfl (mV rfl (aw (cx ?_)))))))
   have hbd := dv a6
   have hinc : wr (a0 + 1) = a0 + 1 := du (by omega) (by omega)
   erw [hinc]
   exact wC (ih   (by omega) (by omega) (Mem.sub a3 (.cons _ .slnil)) hres) rfl

theorem dl3 {x0 : aa} {x1 : Int} {x2 : av} {v0 v2 : PV} (r0 : aa.t.R x0 v0) (r2 : av.t.R x2 v2) : FnR Tryz.prog 40 [v0, vi x1, v2] (vi (na x0 x1 x2)) := by
 refine fnS (R := RF40) bx5 (fun _ h => h) rfl fun res hres => ?_
 unfold na at hres
 refine sR (ab (dt rfl (TR.cnt aa.t r0)) (ab (dt rfl (TR.cnt av.t r2)) (mI rfl (nS (ah (sR (lD r0 rfl rfl rfl (mV rfl ?_))))))))
 obtain ⟨d4, a2, hres⟩ := dq hres
 have b9 := bg9 (x1 := x1) r0 
 rw [a2] at b9
 refine cL b9 rfl rfl (aq (TR.clo aa.t r0) (aq rfl bg)) (mV rfl (xT rfl rfl (xT rfl rfl (mV rfl (mV rfl (nR (mV rfl (bN ma rfl rfl ?_))))))))
 refine nS ?_
 refine di hres rfl ?_ ?_ <;> clear hres <;> intro a3 hres <;> have a6 := a3 <;> try simp only [qa] at a6
 ·refine sR (mV rfl (mV rfl (nS ?_)))
  exact rR hres rfl rfl rfl
 ·refine ay (ai (sR ?_))
  obtain ⟨e2, c4, b7⟩ := aa.g_Tables r0
  refine fA rfl c4 (lD b7 rfl rfl rfl (mV rfl ?_))
  obtain ⟨e0, d0, d2⟩ := dl (i := x1) b7 (by first | omega | (have hk := bn (by assumption) (by assumption); omega) | (have hk := tck (by assumption) (by assumption); omega) | (have hk := rtck (by assumption) (by assumption); omega) | (have hk := eck (by assumption) (by assumption) (by assumption); omega) | (have hk := tv (by assumption) (by assumption); omega) | (have hk := rtv (by assumption) (by assumption); omega)) (by first | omega | (have hk := bn (by assumption) (by assumption); omega) | (have hk := tck (by assumption) (by assumption); omega) | (have hk := rtck (by assumption) (by assumption); omega) | (have hk := eck (by assumption) (by assumption) (by assumption); omega) | (have hk := tv (by assumption) (by assumption); omega) | (have hk := rtv (by assumption) (by assumption); omega))
  refine ab (bq rfl rfl d0) ?_
  obtain ⟨e3, c8, a4⟩ := az.g_Keys d2
  refine fA rfl c8 (lD a4 rfl rfl rfl (lD r0 rfl rfl rfl (mV rfl ?_)))
  obtain ⟨b8, a0, hres⟩ := dq hres
  obtain ⟨e5, d1, c1⟩ := ax0 (x1 := x1) r0 
  rw [a0] at c1
  have b0 : (0 ≤ x1 ∧ x1 < x0.Tables.length) ∧ b8.length = (ix x0.Tables x1).Keys.length ∧ b8.length ≤ 6 := eck (by assumption) (by assumption) a0
  refine cL d1 rfl rfl (aq (TR.clo aa.t r0) (aq rfl bg)) (mV rfl (mV rfl (nS (ah (sR ?_)))))
  obtain ⟨d3, c5, b2⟩ := av.g_Keys r2
  refine fA rfl c5 (lD b2 rfl rfl rfl (ab (cw rfl (cf b2 Tryz.underlying38 _)) (mV rfl (ab (cw rfl (cf a4 Tryz.underlying85 _)) (bN ma rfl rfl (nS ?_))))))
  refine di hres rfl ?_ ?_ <;> clear hres <;> intro a1 hres <;> have a7 := a1 <;> try simp only [qa] at a7
  ·refine sR (mI rfl (nS ?_))
   exact rR hres rfl rfl rfl
  ·refine ay (ai (ah (sR (gL (av.g_Keys r2) rfl rfl rfl fun d6 a9 => (ab (cw rfl (cf a9 Tryz.underlying38 _)) (mI rfl (nS (bd ?_))))))))
   refine wC (ac0 a2 a3 a4 a0 c1 b0 a1 a9 ?_  rfl (by omega) (Mem.sub (Mem.nil ⟨0, []⟩) .slnil) hres) rfl
   ·intro d8 d5 hres
    refine fe (ai (ah (bd (sR (fL rfl (av.g_Priority r2) rfl rfl (bN cy rfl rfl (mV rfl ?_)))))))
    refine cn 4 (d := 69) (v := vb ((decide (x2.Priority < 0)) || (decide (255 < x2.Priority)))) ?_ ?_
    ·intro S Q r
     cases b6 : (decide (x2.Priority < 0))
     ·intro k
      have a5 := b6
      try simp only [qa] at a5
      refine am rfl rfl (bz rfl (av.g_Priority r2)) (am rfl rfl (br rfl rfl rfl) (am rfl rfl (ba rfl rfl ij) ?_))
      exact gK rfl rfl rfl rfl rfl k
     ·exact gN 3 rfl rfl rfl rfl rfl rfl
    refine mV rfl (nS ?_)
    refine di hres rfl ?_ ?_ <;> clear hres <;> intro c hres <;> try simp only [qa] at c
    ·refine sR (mI rfl (nS ?_))
     exact rR hres rfl rfl rfl
    ·refine sR (fL rfl (av.g_Priority r2) rfl rfl (bN ma rfl rfl (mV rfl ?_)))
     refine cn 5 (d := 79) (v := vb ((!decide (x2.Priority = 0)) && (!decide ((il x0 x1) = 3)))) ?_ ?_
     ·intro S Q r
      cases b3 : (!decide (x2.Priority = 0))
      ·exact gN 4 rfl rfl rfl rfl rfl rfl
      ·intro k
       have a8 := b3
       try simp only [qa] at a8
       refine am rfl rfl (br rfl (TR.cnt aa.t r0) (TR.agg aa.t r0)) (am rfl rfl (au rfl) ?_)
       have c9 := bz0 (x1 := x1) r0 
       refine kp rfl rfl (sj rfl rfl (aq (TR.clo aa.t r0) (aq rfl bg)) c9) (am rfl rfl (ba rfl rfl ma) ?_)
       exact gK rfl rfl rfl rfl rfl k
     refine mV rfl (nS ?_)
     refine di hres rfl ?_ ?_ <;> clear hres <;> intro c hres <;> try simp only [qa] at c
     ·refine sR (mI rfl (nS ?_))
      exact rR hres rfl rfl rfl
     ·refine sR (lD r0 rfl rfl rfl (mV rfl ?_))
      obtain ⟨d7, c7, c6⟩ := av.g_Call r2
      refine fA rfl c7 (fL rfl (ax.g_Action c6) rfl rfl ?_)
      obtain ⟨d9, b1, hres⟩ := dq hres
      have c0 := dj7 (x1 := x1) (x2 := x2.Call.Action) r0 
      rw [b1] at c0
      refine cL c0 rfl rfl (aq (TR.clo aa.t r0) (aq rfl (aq rfl bg))) (ab (io rfl) (mV rfl (nS ?_)))
      refine di hres rfl ?_ ?_ <;> clear hres <;> intro c hres <;> try simp only [qa] at c
      ·refine sR (mI rfl (nS ?_))
       exact rR hres rfl rfl rfl
      ·refine ay (dj (ai (sR (lD r0 rfl rfl rfl (gL (av.g_Call r2) rfl rfl rfl fun e1 b5 => ?_)))))
       obtain ⟨e4, b4, hres⟩ := dq hres
       have c3 := cm3  r0 b5 
       rw [b4] at c3
       refine cL c3 rfl rfl (aq (TR.clo aa.t r0) (aq (TR.clo ax.t b5) bg)) (mV rfl (nS ?_))
       exact rR hres rfl rfl rfl

def RF42 (res : Bool) (r : PV) : Prop := r = vb res
theorem zm {S : List Fr} {res : Bool} {x0 : av} {x1 : av} {v1 a8 : PV} (r1 : av.t.R x1 v1) (a6 : ((!decide (x0.Priority = x1.Priority)) || (!decide ((x0.Keys.length : Int) = (x1.Keys.length : Int)))) = false) (a4 : (tSl bb.t).R x0.Keys a8) {K0 : Unit → Bool}
  (c1 : ∀ {h : Heap} (M0 : Mem h []), K0 () = res → PX Tryz.prog 0 S (QR Tryz.prog [(4, none)] (RF42 res)) [] h) :
  ∀ {m : Nat} {a0 : Int} (b7 : m = Int.toNat ((x0.Keys.length : Int) - a0)) (a7 : 0 ≤ a0) {h : Heap} (M0 : Mem h []), ku x0 x1 K0 m a0 = res → RC Tryz.prog (.loop cz9) S (QR Tryz.prog [(4, none)] (RF42 res)) [(24, vi a0), (23, vi (x0.Keys.length : Int)), (22, a8), (3, .fp v1)] h := by
 have a3 := a6
 try simp only [qa] at a3
 intro m
 induction m with
 | zero =>
  intro a0 b7 a7 h M0 hres
  rw [ku] at hres
  refine bt (sR (bN cy rfl rfl (nS (ah ?_))))
  refine bc rfl ?_ ?_ <;> intro c <;> try simp only [qa] at c
  ·omega
  refine dm (fb (df ?_))
  exact wP (c1 (Mem.sub M0 .slnil) hres) rfl
 | succ m ih =>
  intro a0 b7 a7 h M0 hres
  rw [ku] at hres
  refine bt (sR (bN cy rfl rfl (nS (ah ?_))))
  refine bc rfl ?_ ?_ <;> intro c <;> try simp only [qa] at c
  rotate_left
  ·omega
  refine ay (ai (ah (bd (sR (mV rfl ?_)))))
  obtain ⟨a5, b0, a1⟩ := dl (i := a0) a4 (by first | omega | (have hk := bn (by assumption) (by assumption); omega) | (have hk := tck (by assumption) (by assumption); omega) | (have hk := rtck (by assumption) (by assumption); omega) | (have hk := eck (by assumption) (by assumption) (by assumption); omega) | (have hk := tv (by assumption) (by assumption); omega) | (have hk := rtv (by assumption) (by assumption); omega)) (by first | omega | (have hk := bn (by assumption) (by assumption); omega) | (have hk := tck (by assumption) (by assumption); omega) | (have hk := rtck (by assumption) (by assumption); omega) | (have hk := eck (by assumption) (by assumption) (by assumption); omega) | (have hk := tv (by assumption) (by assumption); omega) | (have hk := rtv (by assumption) (by assumption); omega))
  refine ab (bq rfl rfl b0) (lD a1 rfl rfl rfl ?_)
  refine dh (x := .agg [dx 0#32, dx 0#32]) M0 rfl rfl (fun b3 b4 b8 b5 => ?_)
  refine mV rfl ?_
  refine db (k := 0) (v := a5) b5 rfl rfl rfl (TR.cnt bb.t a1) (fun b1 a2 => ?_)
  replace a2 : Mem b1 [⟨.op b3 b4 0, 127, 2, [a5]⟩] := a2
  refine nR (ab (fw (k := 0) a2 rfl rfl (TR.agg bb.t a1)) (gL (av.g_Keys r1) rfl rfl rfl fun b9 b2 => (mV rfl ?_)))
  obtain ⟨c0, b6, a9⟩ := dl (i := a0) b2 (by first | omega | (have hk := bn (by assumption) (by assumption); omega) | (have hk := tck (by assumption) (by assumption); omega) | (have hk := rtck (by assumption) (by assumption); omega) | (have hk := eck (by assumption) (by assumption) (by assumption); omega) | (have hk := tv (by assumption) (by assumption); omega) | (have hk := rtv (by assumption) (by assumption); omega)) (by first | omega | (have hk := bn (by assumption) (by assumption); omega) | (have hk := tck (by assumption) (by assumption); omega) | (have hk := rtck (by assumption) (by assumption); omega) | (have hk := eck (by assumption) (by assumption) (by assumption); omega) | (have hk := tv (by assumption) (by assumption); omega) | (have hk := rtv (by assumption) (by assumption); omega))
  refine ab (bq rfl rfl b6) (lD a9 rfl rfl rfl (bN (bb.neq_127 a1 a9) rfl rfl (nS ?_)))
  refine di hres rfl ?_ ?_ <;> clear hres <;> intro c hres <;> try simp only [qa] at c
  ·refine sR (mB rfl (nS ?_))
   exact rR hres rfl rfl rfl
  ·refine ay (dj (ai (af (bN ep rfl rfl (mV rfl (aw (cx ?_)))))))
   have hbd := dv a4
   have hinc : wr (a0 + 1) = a0 + 1 := du (by omega) (by omega)
   erw [hinc]
   exact wC (ih   (by omega) (by omega) (Mem.sub a2 (.cons _ .slnil)) hres) rfl

theorem dt3 {x0 : av} {x1 : av} {v0 v1 : PV} (r0 : av.t.R x0 v0) (r1 : av.t.R x1 v1) : FnR Tryz.prog 42 [v0, v1] (vb (jp x0 x1)) := by
 refine fnS (R := RF42) cl4 (fun _ h => h) rfl fun res hres => ?_
 unfold jp at hres
 refine sR (ab (dt rfl (TR.cnt av.t r0)) (ab (dt rfl (TR.cnt av.t r1)) (mB rfl (nS (ah (sR (fL rfl (av.g_Priority r0) rfl rfl (fL rfl (av.g_Priority r1) rfl rfl ?_))))))))
 refine bN ma rfl rfl (mV rfl ?_)
 refine cn 8 (d := 20) (v := vb ((!decide (x0.Priority = x1.Priority)) || (!decide ((x0.Keys.length : Int) = (x1.Keys.length : Int))))) ?_ ?_
 ·intro S Q r
  cases a6 : (!decide (x0.Priority = x1.Priority))
  ·intro k
   have a5 := a6
   try simp only [qa] at a5
   obtain ⟨b1, a9, a3⟩ := av.g_Keys r0
   refine am rfl rfl (bz rfl a9) (am rfl rfl (br rfl (TR.cnt (tSl bb.t) a3) (TR.agg (tSl bb.t) a3)) (am rfl rfl (cw rfl (cf a3 Tryz.underlying38 _)) ?_))
   obtain ⟨b3, a7, a4⟩ := av.g_Keys r1
   refine am rfl rfl (bz rfl a7) (am rfl rfl (br rfl (TR.cnt (tSl bb.t) a4) (TR.agg (tSl bb.t) a4)) (am rfl rfl (cw rfl (cf a4 Tryz.underlying38 _)) (am rfl rfl (ba rfl rfl ma) ?_)))
   exact gK rfl rfl rfl rfl rfl k
  ·exact gN 7 rfl rfl rfl rfl rfl rfl
 refine nS ?_
 refine di hres rfl ?_ ?_ <;> clear hres <;> intro a0 hres <;> have a2 := a0 <;> try simp only [qa] at a2
 ·refine sR (mB rfl (nS ?_))
  exact rR hres rfl rfl rfl
 ·refine ay (ai (ah (sR ?_)))
  obtain ⟨b4, a8, a1⟩ := av.g_Keys r0
  refine fA rfl a8 (lD a1 rfl rfl rfl (ab (cw rfl (cf a1 Tryz.underlying38 _)) (mI rfl (nS (bd ?_)))))
  refine wC (zm r1 a0 a1 ?_  rfl (by omega) (Mem.sub (Mem.nil ⟨0, []⟩) .slnil) hres) rfl
  ·intro b2 b0 hres
   refine fe (ai (sR (mB rfl (nS ?_))))
   exact rR hres rfl rfl rfl

def RF53 (res : Int) (r : PV) : Prop := r = vi res
theorem af4 {S : List Fr} {res : Int} {x0 : aa} {x1 : Int} {a1 : (List Int)} {a5 : PV} (a6 : ee x0 x1 = a1) (a3 : (tSl tI).R a1 a5) {K0 : Int → Int}
  (a8 : ∀ {a2 : Int}, K0 a2 = res → PX Tryz.prog 0 S (QR Tryz.prog [(4, none)] (RF53 res)) [(5, vi a2)] ⟨0, []⟩) :
  ∀ {m : Nat} {a2 a0 : Int} (a7 : m = Int.toNat ((a1.length : Int) - a0)) (a4 : 0 ≤ a0), nk a1 K0 m a2 a0 = res → RC Tryz.prog (.loop db4) S (QR Tryz.prog [(4, none)] (RF53 res)) [(12, vi a0), (11, vi (a1.length : Int)), (10, a5), (5, vi a2)] ⟨0, []⟩ := by
 intro m
 induction m with
 | zero =>
  intro a2 a0 a7 a4 hres
  rw [nk] at hres
  refine bt (sR (bN cy rfl rfl (nS (ah ?_))))
  refine bc rfl ?_ ?_ <;> intro c <;> try simp only [qa] at c
  ·omega
  refine dm (fb (df ?_))
  exact wP (a8  hres) rfl
 | succ m ih =>
  intro a2 a0 a7 a4 hres
  rw [nk] at hres
  refine bt (sR (bN cy rfl rfl (nS (ah ?_))))
  refine bc rfl ?_ ?_ <;> intro c <;> try simp only [qa] at c
  rotate_left
  ·omega
  refine ay (ai (ah (bd (sR (ab (bq rfl rfl (slI a3 (by first | omega | (have hk := bn (by assumption) (by assumption); omega) | (have hk := tck (by assumption) (by assumption); omega) | (have hk := rtck (by assumption) (by assumption); omega) | (have hk := eck (by assumption) (by assumption) (by assumption); omega) | (have hk := tv (by assumption) (by assumption); omega) | (have hk := rtv (by assumption) (by assumption); omega)) (by first | omega | (have hk := bn (by assumption) (by assumption); omega) | (have hk := tck (by assumption) (by assumption); omega) | (have hk := rtck (by assumption) (by assumption); omega) | (have hk := eck (by assumption) (by assumption) (by assumption); omega) | (have hk := tv (by assumption) (by assumption); omega) | (have hk := rtv (by assumption) (by assumption); omega)))) (lR rfl rfl rfl (mV rfl (nS ?_))))))))
  refine af (mV rfl (mV rfl (bN ep rfl rfl (mV rfl (aw (dj (ai (af ?_))))))))
  refine bN ep rfl rfl (mV rfl (aw (cx ?_)))
  have hbd := dv a3
  have hinc : wr (a0 + 1) = a0 + 1 := du (by omega) (by omega)
  erw [hinc]
  exact wC (ih   (by omega) (by omega) hres) rfl

theorem dm3 {x0 : aa} {x1 : Int} {v0 : PV} (r0 : aa.t.R x0 v0) : FnR Tryz.prog 53 [v0, vi x1] (vi (lm x0 x1)) := by
 refine fnS (R := RF53) cm8 (fun _ h => h) rfl fun res hres => ?_
 unfold lm at hres
 refine sR (ab (dt rfl (TR.cnt aa.t r0)) (mI rfl (nR (mI rfl (nS (ah (sR (lD r0 rfl rfl rfl ?_))))))))
 refine mV rfl ?_
 obtain ⟨a5, a0, hres⟩ := dq hres
 obtain ⟨a4, a3, a1⟩ := ax0 (x1 := x1) r0 
 rw [a0] at a1
 refine cL a3 rfl rfl (aq (TR.clo aa.t r0) (aq rfl bg)) (ab (cw rfl (cf a1 Tryz.underlying29 _)) (mI rfl (nS (bd ?_))))
 refine wC (af4 a0 a1 ?_  rfl (by omega) hres) rfl
 ·intro a2 hres
  refine fe (ai (sR (mV rfl (mV rfl (nS ?_)))))
  exact rR hres rfl rfl rfl

def RF54 (res : ae) (r : PV) : Prop := ae.t.R res r
theorem ab1 {S : List Fr} {res : ae} {x0 : av} {x1 : List Int} {v1 b7 : PV} {a5 a7 a4 a6 : Nat} (r1 : (tSl tI).R x1 v1) (hl : x0.Keys.length ≤ x1.length) (hW : ∀ j : Int, 0 ≤ j → j < x1.length → 0 ≤ ix x1 j) (b5 : (tSl bb.t).R x0.Keys b7) {K0 : ae → ae}
  (c6 : ∀ {a1 : ae} {a2 : PV} (a3 : ae.t.R a1 a2) {h : Heap} (M0 : Mem h [⟨.op a4 a6 0, 99, 2, [a2]⟩, ⟨.op a5 a7 0, 99, 2, [.agg [cg 0#64, cg 0#64]]⟩]), K0 a1 = res → PX Tryz.prog 0 S (QR Tryz.prog [(4, some (2, true))] (RF54 res)) [(4, .op a5 a7 0), (5, .op a4 a6 0)] h) :
  ∀ {m : Nat} {a0 : Int} {a1 : ae} {a2 : PV} (a3 : ae.t.R a1 a2) (c5 : m = Int.toNat ((x0.Keys.length : Int) - a0)) (b6 : 0 ≤ a0) {h : Heap} (M0 : Mem h [⟨.op a4 a6 0, 99, 2, [a2]⟩, ⟨.op a5 a7 0, 99, 2, [.agg [cg 0#64, cg 0#64]]⟩]), lc x0 x1 K0 m a0 a1 = res → RC Tryz.prog (.loop cx6) S (QR Tryz.prog [(4, some (2, true))] (RF54 res)) [(11, vi a0), (10, vi (x0.Keys.length : Int)), (9, b7), (5, .op a4 a6 0), (4, .op a5 a7 0), (1, v1)] h := by
 intro m
 induction m with
 | zero =>
  intro a0 a1 a2 a3 c5 b6 h M0 hres
  rw [lc] at hres
  refine bt (sR (bN cy rfl rfl (nS (ah ?_))))
  refine bc rfl ?_ ?_ <;> intro c <;> try simp only [qa] at c
  ·omega
  refine dm (fb (df ?_))
  exact wP (c6 a3 (Mem.sub M0 (.cons_cons _ (.cons_cons _ .slnil))) hres) rfl
 | succ m ih =>
  intro a0 a1 a2 a3 c5 b6 h M0 hres
  rw [lc] at hres
  refine bt (sR (bN cy rfl rfl (nS (ah ?_))))
  refine bc rfl ?_ ?_ <;> intro c <;> try simp only [qa] at c
  rotate_left
  ·omega
  refine ay (ai (ah (bd (sR (mV rfl ?_)))))
  obtain ⟨b0, c0, b1⟩ := dl (i := a0) b5 (by first | omega | omega) (by first | omega | omega)
  refine ab (bq rfl rfl c0) (lD b1 rfl rfl rfl ?_)
  refine dh (x := .agg [dx 0#32, dx 0#32]) M0 rfl rfl (fun b4 b3 c7 c4 => ?_)
  refine mV rfl ?_
  refine db (k := 0) (v := b0) c4 rfl rfl rfl (TR.cnt bb.t b1) (fun b8 a8 => ?_)
  replace a8 : Mem b8 [⟨.op b4 b3 0, 127, 2, [b0]⟩, ⟨.op a4 a6 0, 99, 2, [a2]⟩, ⟨.op a5 a7 0, 99, 2, [.agg [cg 0#64, cg 0#64]]⟩] := a8
  refine nR (ab (bf rfl) (ab (cp (k := 1) a8 rfl rfl (ae.g_Value a3)) (mV rfl (mV rfl (ab (bq rfl rfl (slI r1 (by first | omega | omega) (by first | omega | omega))) (lR rfl rfl rfl (ab (ba (a := cg a1.Value) (b := vi (ix x1 a0)) rfl rfl (cd4 (by exact hW _ (by omega) (by omega)))) (ab (bf rfl) ?_))))))))
  refine ab (cp (k := 0) a8 rfl rfl (bb.g_Value b1)) (ab (xk (a := dx ((ix x0.Keys a0).Value)) rfl (c_wd Tryz.underlying64 Tryz.underlying97)) (ab (ba (a := cg (a1.Value <<< (ix x1 a0).toNat)) (b := cg (BitVec.setWidth 64 ((ix x0.Keys a0).Value))) rfl rfl d_or) (ab (bf rfl) ?_)))
  have b9 := a3
  subst b9
  refine jx (k := 1) (v := cg ((a1.Value <<< (ix x1 a0).toNat) ||| (BitVec.setWidth 64 ((ix x0.Keys a0).Value)))) a8 rfl rfl rfl rfl rfl (by first | decide | (simp only [List.length_cons, List.length_nil]; omega) | simp) (fun c3 a9 => ?_)
  replace a9 : Mem c3 [⟨.op b4 b3 0, 127, 2, [b0]⟩, ⟨.op a4 a6 0, 99, 2, [.agg [cg ((a1.Value <<< (ix x1 a0).toNat) ||| (BitVec.setWidth 64 ((ix x0.Keys a0).Value))), cg a1.Mask]]⟩, ⟨.op a5 a7 0, 99, 2, [.agg [cg 0#64, cg 0#64]]⟩] := a9
  refine nS (af (ab (bf rfl) (ab (cp (k := 1) a9 rfl rfl rfl) (mV rfl (mV rfl (ab (bq rfl rfl (slI r1 (by first | omega | omega) (by first | omega | omega))) (lR rfl rfl rfl (ab (ba (a := cg a1.Mask) (b := vi (ix x1 a0)) rfl rfl (cd4 (by exact hW _ (by omega) (by omega)))) ?_))))))))
  refine ab (bf rfl) (ab (cp (k := 0) a9 rfl rfl (bb.g_Mask b1)) (ab (xk (a := dx ((ix x0.Keys a0).Mask)) rfl (c_wd Tryz.underlying64 Tryz.underlying97)) (ab (ba (a := cg (a1.Mask <<< (ix x1 a0).toNat)) (b := cg (BitVec.setWidth 64 ((ix x0.Keys a0).Mask))) rfl rfl d_or) (ab (bf rfl) ?_))))
  refine jx (k := 1) (v := cg ((a1.Mask <<< (ix x1 a0).toNat) ||| (BitVec.setWidth 64 ((ix x0.Keys a0).Mask)))) a9 rfl rfl rfl rfl rfl (by first | decide | (simp only [List.length_cons, List.length_nil]; omega) | simp) (fun c1 b2 => ?_)
  replace b2 : Mem c1 [⟨.op b4 b3 0, 127, 2, [b0]⟩, ⟨.op a4 a6 0, 99, 2, [.agg [cg ((a1.Value <<< (ix x1 a0).toNat) ||| (BitVec.setWidth 64 ((ix x0.Keys a0).Value))), cg ((a1.Mask <<< (ix x1 a0).toNat) ||| (BitVec.setWidth 64 ((ix x0.Keys a0).Mask)))]]⟩, ⟨.op a5 a7 0, 99, 2, [.agg [cg 0#64, cg 0#64]]⟩] := b2
  refine aw (dj (ai (af (bN ep rfl rfl (mV rfl (aw (cx ?_)))))))
  have hbd := dv b5
  have hinc : wr (a0 + 1) = a0 + 1 := du (by omega) (by omega)
  erw [hinc]
  exact wC (ih  rfl (by omega) (by omega) (Mem.sub b2 (.cons _ (.cons_cons _ (.cons_cons _ .slnil)))) hres) rfl

theorem bz8 {x0 : av} {x1 : List Int} {v0 v1 : PV} (r0 : av.t.R x0 v0) (r1 : (tSl tI).R x1 v1) (hl : x0.Keys.length ≤ x1.length) (hW : ∀ j : Int, 0 ≤ j → j < x1.length → 0 ≤ ix x1 j) : ∃ r, FnR Tryz.prog 54 [v0, v1] r ∧ ae.t.R (ip x0 x1) r := by
 refine fnT (R := RF54) ch4 rfl fun res hres => ?_
 unfold ip at hres
 refine sR (ab (dt rfl (TR.cnt av.t r0)) ?_)
 refine dh (x := .agg [cg 0#64, cg 0#64]) (Mem.nil ⟨0, []⟩) rfl rfl (fun b0 b2 b3 a6 => ?_)
 refine nR ?_
 refine dh (x := .agg [cg 0#64, cg 0#64]) a6 rfl rfl (fun a7 b1 b6 a9 => ?_)
 refine nS (ah (sR (gL (av.g_Keys r0) rfl rfl rfl fun b5 a4 => (ab (cw rfl (cf a4 Tryz.underlying38 _)) (mI rfl (nS (bd ?_)))))))
 have b4 : ae.t.R ({ Value := 0#64, Mask := 0#64 } : ae) (.agg [cg 0#64, cg 0#64]) := rfl
 refine wC (ab1 r1 hl hW a4 ?_  rfl rfl (by omega) (Mem.sub a9 (.cons_cons _ (.cons_cons _ .slnil))) hres) rfl
 ·intro a3 a1 a0 b7 a5 hres
  refine fe (ai (sR (ab (fw (k := 0) a5 rfl rfl (TR.agg ae.t a0)) ?_)))
  refine db (k := 1) (v := a1) a5 rfl rfl rfl (TR.cnt ae.t a0) (fun a8 a2 => ?_)
  replace a2 : Mem a8 [⟨.op a7 b1 0, 99, 2, [a1]⟩, ⟨.op b0 b2 0, 99, 2, [a1]⟩] := a2
  refine nS ?_
  subst hres
  exact dw (.cell rfl (jk (k := 1) a2 rfl (TR.agg ae.t a0)) .nil) (ck (TR.clo ae.t a0)) a0

end Go.Proofs.YthdnpgpnodgicaaGreat
