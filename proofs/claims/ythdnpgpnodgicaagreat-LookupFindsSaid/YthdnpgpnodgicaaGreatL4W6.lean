/-
 The code of each function does what its plain program says.
-/
import Derived.Test.YthdnpgpnodgicaaGreatL4W5
set_option linter.unusedVariables false
set_option linter.unusedSimpArgs false
set_option maxRecDepth 100000
namespace Go.Proofs.YthdnpgpnodgicaaGreat
open Go Go.Pb Go.RowKit
def RF76 (res : Int) (r : PV) : Prop := r = vi res
theorem db5 {x0 : ay} {x1 x2 : Int} {v0 : PV} (r0 : ay.t.R x0 v0) : FnR Tryz.prog 76 [v0, vi x1, vi x2] (vi (nb x0 x1 x2)) := by
 refine fnS (R := RF76) bs8 (fun _ h => h) rfl fun res hres => ?_
 unfold nb at hres
 refine sR (ab (db rfl (TR.cnt ay.t r0)) (mI rfl (nS (ae (bh (sR (fL rfl (ay.g_Value r0) rfl rfl (mV rfl ?_))))))))
 obtain ⟨a9, a8, hres⟩ := cy hres
 have a3 := ad8 (x0 := x0.Value) (x1 := x2)  
 rw [a8] at a3
 refine cL a3 rfl rfl (aq rfl (aq rfl bg)) (ab (ft rfl) (mV rfl ?_))
 refine bt 6 (d := 21) (v := vb ((!a9) || (!(gj x0.Mask x2)))) ?_ ?_
 ·intro S Q r
  cases a2 : (!a9)
  ·intro k
   have a1 := a2
   try simp only [qa] at a1
   refine af rfl rfl (bb rfl (ay.g_Mask r0)) (af rfl rfl (ba rfl rfl rfl) (af rfl rfl (ak rfl) ?_))
   have b2 := ad8 (x0 := x0.Mask) (x1 := x2)  
   refine fw rfl rfl (mc rfl rfl (aq rfl (aq rfl bg)) b2) (af rfl rfl (ft rfl) ?_)
   exact gK rfl rfl rfl rfl rfl k
  ·exact gN 5 rfl rfl rfl rfl rfl rfl
 refine mV rfl (nS ?_)
 refine co hres rfl ?_ ?_ <;> clear hres <;> intro c hres <;> try simp only [qa] at c
 ·refine sR (mI rfl (nS ?_))
  exact rR hres rfl rfl rfl
 ·refine sR (fL rfl (ay.g_Value r0) rfl rfl (fL rfl (ay.g_Mask r0) rfl rfl (ab (bd (a := da x0.Value) (b := da x0.Mask) rfl rfl ar7) (ab (bd (a := da (x0.Value &&& ~~~x0.Mask)) (b := da 0#32) rfl rfl af7) (mV rfl (nS ?_))))))
  refine co hres rfl ?_ ?_ <;> clear hres <;> intro c hres <;> try simp only [qa] at c
  ·refine sR (mI rfl (nS ?_))
   exact rR hres rfl rfl rfl
  ·refine sR (mV rfl (bN ld rfl rfl (mV rfl ?_)))
   refine bt 6 (d := 38) (v := vb ((decide (x1 = 1)) && (!decide (x0.Mask = (dl x2))))) ?_ ?_
   ·intro S Q r
    cases a4 : (decide (x1 = 1))
    ·exact gN 5 rfl rfl rfl rfl rfl rfl
    ·intro k
     have a0 := a4
     try simp only [qa] at a0
     refine af rfl rfl (bb rfl (ay.g_Mask r0)) (af rfl rfl (ba rfl rfl rfl) (af rfl rfl (ak rfl) ?_))
     have b0 := uz (x0 := x2)  
     refine fw rfl rfl (mc rfl rfl (aq rfl bg) b0) (af rfl rfl (bd (a := da x0.Mask) (b := da (dl x2)) rfl rfl af7) ?_)
     exact gK rfl rfl rfl rfl rfl k
   refine mV rfl (nS ?_)
   refine co hres rfl ?_ ?_ <;> clear hres <;> intro c hres <;> try simp only [qa] at c
   ·refine sR (mI rfl (nS ?_))
    exact rR hres rfl rfl rfl
   ·refine az (dc (ah (ae (sR (mV rfl (bN ld rfl rfl (nS ?_)))))))
    obtain ⟨b1, a5, hres⟩ := cy hres
    refine xm (F := fun b S Q =>  b1 () = res → RC Tryz.prog b S Q [] ⟨0, []⟩) ?_ ?_
    ·intro   hres
     rw [← a5] at hres
     refine sR (mI rfl (nS ?_))
     exact rR hres rfl rfl rfl
    ·intro J
     refine co hres rfl ?_ ?_ <;> clear hres <;> intro c hres <;> try simp only [qa] at c
     ·refine sR (fL rfl (ay.g_Mask r0) rfl rfl (mV rfl ?_))
      obtain ⟨b3, a6, hres⟩ := cy hres
      have a7 := bq7 (x0 := x0.Mask) (x1 := x2)  
      rw [a6] at a7
      refine cL a7 rfl rfl (aq rfl (aq rfl bg)) (mV rfl (xT rfl rfl (xT rfl rfl (mV rfl (mV rfl (nR (mV rfl (ab (ft rfl) ?_))))))))
      refine nS ?_
      refine co hres rfl ?_ ?_ <;> clear hres <;> intro c hres <;> try simp only [qa] at c
      ·refine sR (mI rfl (nS ?_))
       exact rR hres rfl rfl rfl
      ·refine az ?_
       refine ah (wC (J   hres) rfl)
     ·refine az ?_
      refine ah (wC (J   hres) rfl)

def RF44 (res : Int) (r : PV) : Prop := r = vi res
theorem yz {S : List Fr} {res : Int} {x0 : aa} {x1 : Int} {b0 : Bool} {a7 : PV} (b6 : fm x0 x1 = b0) (a6 : (!b0) = false) (a5 : (tSl bm.t).R ((ix x0.Tables x1).Keys) a7) {K0 : Int → Int}
  (b9 : ∀ {a3 : Int} {h : Heap} (M0 : Mem h []), K0 a3 = res → PX Tryz.prog 0 S (QR Tryz.prog [(4, none)] (RF44 res)) [(5, vi a3)] h) :
  ∀ {m : Nat} {a3 a0 : Int} (b7 : m = Int.toNat ((((ix x0.Tables x1).Keys).length : Int) - a0)) (a9 : 0 ≤ a0) {h : Heap} (M0 : Mem h []), kh x0 x1 K0 m a3 a0 = res → RC Tryz.prog (.loop cm9) S (QR Tryz.prog [(4, none)] (RF44 res)) [(19, vi a0), (18, vi (((ix x0.Tables x1).Keys).length : Int)), (17, a7), (5, vi a3)] h := by
 have a4 := a6
 try simp only [qa] at a4
 intro m
 induction m with
 | zero =>
  intro a3 a0 b7 a9 h M0 hres
  rw [kh] at hres
  refine br (sR (bN ck rfl rfl (nS (ae ?_))))
  refine bf rfl ?_ ?_ <;> intro c <;> try simp only [qa] at c
  ·omega
  refine di (dv (ct ?_))
  exact wP (b9 (Mem.sub M0 .slnil) hres) rfl
 | succ m ih =>
  intro a3 a0 b7 a9 h M0 hres
  rw [kh] at hres
  refine br (sR (bN ck rfl rfl (nS (ae ?_))))
  refine bf rfl ?_ ?_ <;> intro c <;> try simp only [qa] at c
  rotate_left
  ·omega
  refine az (ah (ae (bh (sR ?_))))
  obtain ⟨a8, b5, a2⟩ := cr (i := a0) a5 (by first | omega | (have hk := bc (by assumption) (by assumption); omega) | (have hk := tck (by assumption) (by assumption); omega) | (have hk := rtck (by assumption) (by assumption); omega) | (have hk := eck (by assumption) (by assumption) (by assumption); omega) | (have hk := tv (by assumption) (by assumption); omega) | (have hk := rtv (by assumption) (by assumption); omega)) (by first | omega | (have hk := bc (by assumption) (by assumption); omega) | (have hk := tck (by assumption) (by assumption); omega) | (have hk := rtck (by assumption) (by assumption); omega) | (have hk := eck (by assumption) (by assumption) (by assumption); omega) | (have hk := tv (by assumption) (by assumption); omega) | (have hk := rtv (by assumption) (by assumption); omega))
  refine ab (bn rfl rfl b5) (lD a2 rfl rfl rfl ?_)
  refine dk (x := .agg [vi 0, vi 0, vi 0]) M0 rfl rfl (fun b3 b2 b8 b4 => ?_)
  refine cz (k := 0) (v := a8) b4 rfl rfl rfl (TR.cnt bm.t a2) (fun b1 a1 => ?_)
  replace a1 : Mem b1 [⟨.op b3 b2 0, 112, 3, [a8]⟩] := a1
  refine nS (bh (sR (ab (bz rfl) (ab (dg (k := 0) a1 rfl rfl (bm.g_Kind a2)) (bN ld rfl rfl (mV rfl (nS ?_)))))))
  refine co hres rfl ?_ ?_ <;> clear hres <;> intro c hres <;> try simp only [qa] at c
  ·refine sR (mI rfl (nS ?_))
   exact rR hres rfl rfl rfl
  ·refine sR (ab (bz rfl) (ab (dg (k := 0) a1 rfl rfl (bm.g_Kind a2)) (bN ld rfl rfl (mV rfl (nS ?_)))))
   refine co hres rfl ?_ ?_ <;> clear hres <;> intro c hres <;> try simp only [qa] at c
   ·refine ai (mI rfl (aw (dc (dc (ah (ai (bN dz rfl rfl (mV rfl ?_))))))))
    refine aw (cq ?_)
    have hbd := dm a5
    have hinc : wr (a0 + 1) = a0 + 1 := dt (by omega) (by omega)
    erw [hinc]
    exact wC (ih   (by omega) (by omega) (Mem.sub a1 (.cons _ .slnil)) hres) rfl
   ·refine az (dc (dc (ah (ai (bN dz rfl rfl (mV rfl (aw (cq ?_))))))))
    have hbd := dm a5
    have hinc : wr (a0 + 1) = a0 + 1 := dt (by omega) (by omega)
    erw [hinc]
    exact wC (ih   (by omega) (by omega) (Mem.sub a1 (.cons _ .slnil)) hres) rfl

theorem by9 {x0 : aa} {x1 : Int} {v0 : PV} (r0 : aa.t.R x0 v0) : FnR Tryz.prog 44 [v0, vi x1] (vi (en x0 x1)) := by
 refine fnS (R := RF44) bo1 (fun _ h => h) rfl fun res hres => ?_
 unfold en at hres
 refine sR (ab (db rfl (TR.cnt aa.t r0)) (mI rfl (nS (ae (sR (lD r0 rfl rfl rfl (mV rfl ?_)))))))
 obtain ⟨b6, a1, hres⟩ := cy hres
 have a5 := bb2 (x1 := x1) r0 
 rw [a1] at a5
 refine cL a5 rfl rfl (aq (TR.clo aa.t r0) (aq rfl bg)) (ab (ft rfl) (nS ?_))
 refine co hres rfl ?_ ?_ <;> clear hres <;> intro a0 hres <;> have a2 := a0 <;> try simp only [qa] at a2
 ·refine sR (mI rfl (nS ?_))
  exact rR hres rfl rfl rfl
 ·refine az (ah (sR (mI rfl (nS (ae (sR ?_))))))
  obtain ⟨b2, a9, a4⟩ := aa.g_Tables r0
  refine fA rfl a9 (lD a4 rfl rfl rfl (mV rfl ?_))
  obtain ⟨b5, b0, a7⟩ := cr (i := x1) a4 (by first | omega | (have hk := bc (by assumption) (by assumption); omega) | (have hk := tck (by assumption) (by assumption); omega) | (have hk := rtck (by assumption) (by assumption); omega) | (have hk := eck (by assumption) (by assumption) (by assumption); omega) | (have hk := tv (by assumption) (by assumption); omega) | (have hk := rtv (by assumption) (by assumption); omega)) (by first | omega | (have hk := bc (by assumption) (by assumption); omega) | (have hk := tck (by assumption) (by assumption); omega) | (have hk := rtck (by assumption) (by assumption); omega) | (have hk := eck (by assumption) (by assumption) (by assumption); omega) | (have hk := tv (by assumption) (by assumption); omega) | (have hk := rtv (by assumption) (by assumption); omega))
  refine ab (bn rfl rfl b0) ?_
  obtain ⟨b3, a8, a3⟩ := ax.g_Keys a7
  refine fA rfl a8 (lD a3 rfl rfl rfl (ab (ca rfl (bq a3 Tryz.underlying85 _)) (mI rfl (nS (bh ?_)))))
  refine wC (yz a1 a0 a3 ?_  rfl (by omega) (Mem.sub (Mem.nil ⟨0, []⟩) .slnil) hres) rfl
  ·intro a6 b1 b4 hres
   refine fa (ah (sR (mV rfl (mV rfl (nS ?_)))))
   exact rR hres rfl rfl rfl

def RF77 (res : Bool) (r : PV) : Prop := r = vb res
theorem wi {S : List Fr} {res : Bool} {x0 : aa} {x1 x2 : Int} {a6 : Bool} {a3 : PV} (a7 : fm x0 x1 = a6) (a2 : (!a6) = false) (a4 : (tSl tI).R ((ix x0.Tables x1).Actions) a3) {K0 : Unit → Bool}
  (a9 : K0 () = res → PX Tryz.prog 0 S (QR Tryz.prog [(6, none)] (RF77 res)) [] ⟨0, []⟩) :
  ∀ {m : Nat} {a0 : Int} (a8 : m = Int.toNat ((((ix x0.Tables x1).Actions).length : Int) - a0)) (a5 : 0 ≤ a0), jl x0 x1 x2 K0 m a0 = res → RC Tryz.prog (.loop ce1) S (QR Tryz.prog [(6, none)] (RF77 res)) [(20, vi a0), (19, vi (((ix x0.Tables x1).Actions).length : Int)), (18, a3), (2, vi x2)] ⟨0, []⟩ := by
 have a1 := a2
 try simp only [qa] at a1
 intro m
 induction m with
 | zero =>
  intro a0 a8 a5 hres
  rw [jl] at hres
  refine br (sR (bN ck rfl rfl (nS (ae ?_))))
  refine bf rfl ?_ ?_ <;> intro c <;> try simp only [qa] at c
  ·omega
  refine di (dv (ct ?_))
  exact wP (a9  hres) rfl
 | succ m ih =>
  intro a0 a8 a5 hres
  rw [jl] at hres
  refine br (sR (bN ck rfl rfl (nS (ae ?_))))
  refine bf rfl ?_ ?_ <;> intro c <;> try simp only [qa] at c
  rotate_left
  ·omega
  refine az (ah (ae (bh (sR (ab (bn rfl rfl (slI a4 (by first | omega | (have hk := bc (by assumption) (by assumption); omega) | (have hk := tck (by assumption) (by assumption); omega) | (have hk := rtck (by assumption) (by assumption); omega) | (have hk := eck (by assumption) (by assumption) (by assumption); omega) | (have hk := tv (by assumption) (by assumption); omega) | (have hk := rtv (by assumption) (by assumption); omega)) (by first | omega | (have hk := bc (by assumption) (by assumption); omega) | (have hk := tck (by assumption) (by assumption); omega) | (have hk := rtck (by assumption) (by assumption); omega) | (have hk := eck (by assumption) (by assumption) (by assumption); omega) | (have hk := tv (by assumption) (by assumption); omega) | (have hk := rtv (by assumption) (by assumption); omega)))) (lR rfl rfl rfl (mV rfl (nR ?_))))))))
  refine mV rfl (mV rfl (bN ld rfl rfl (nS ?_)))
  refine co hres rfl ?_ ?_ <;> clear hres <;> intro c hres <;> try simp only [qa] at c
  ·refine sR (mB rfl (nS ?_))
   exact rR hres rfl rfl rfl
  ·refine az (dc (ah (ai (bN dz rfl rfl (mV rfl (aw (cq ?_)))))))
   have hbd := dm a4
   have hinc : wr (a0 + 1) = a0 + 1 := dt (by omega) (by omega)
   erw [hinc]
   exact wC (ih   (by omega) (by omega) hres) rfl

theorem dd6 {x0 : aa} {x1 x2 : Int} {v0 : PV} (r0 : aa.t.R x0 v0) : FnR Tryz.prog 77 [v0, vi x1, vi x2] (vb (nm x0 x1 x2)) := by
 refine fnS (R := RF77) bz3 (fun _ h => h) rfl fun res hres => ?_
 unfold nm at hres
 refine sR (ab (db rfl (TR.cnt aa.t r0)) (mB rfl (nS (ae (sR (lD r0 rfl rfl rfl (mV rfl ?_)))))))
 obtain ⟨b3, a1, hres⟩ := cy hres
 have a5 := bb2 (x1 := x1) r0 
 rw [a1] at a5
 refine cL a5 rfl rfl (aq (TR.clo aa.t r0) (aq rfl bg)) (ab (ft rfl) (nS ?_))
 refine co hres rfl ?_ ?_ <;> clear hres <;> intro a0 hres <;> have a2 := a0 <;> try simp only [qa] at a2
 ·refine sR (mB rfl (nS ?_))
  exact rR hres rfl rfl rfl
 ·refine az (ah (ae (sR ?_)))
  obtain ⟨b0, a8, a4⟩ := aa.g_Tables r0
  refine fA rfl a8 (lD a4 rfl rfl rfl (mV rfl ?_))
  obtain ⟨b2, a9, a6⟩ := cr (i := x1) a4 (by first | omega | (have hk := bc (by assumption) (by assumption); omega) | (have hk := tck (by assumption) (by assumption); omega) | (have hk := rtck (by assumption) (by assumption); omega) | (have hk := eck (by assumption) (by assumption) (by assumption); omega) | (have hk := tv (by assumption) (by assumption); omega) | (have hk := rtv (by assumption) (by assumption); omega)) (by first | omega | (have hk := bc (by assumption) (by assumption); omega) | (have hk := tck (by assumption) (by assumption); omega) | (have hk := rtck (by assumption) (by assumption); omega) | (have hk := eck (by assumption) (by assumption) (by assumption); omega) | (have hk := tv (by assumption) (by assumption); omega) | (have hk := rtv (by assumption) (by assumption); omega))
  refine ab (bn rfl rfl a9) ?_
  obtain ⟨b1, a7, a3⟩ := ax.g_Actions a6
  refine fA rfl a7 (lD a3 rfl rfl rfl (ab (ca rfl (bq a3 Tryz.underlying29 _)) (mI rfl (nS (bh ?_)))))
  refine wC (wi a1 a0 a3 ?_  rfl (by omega) hres) rfl
  ·intro  hres
   refine fa (ah (sR (mB rfl (nS ?_))))
   exact rR hres rfl rfl rfl

def RF40 (res : Int) (r : PV) : Prop := r = vi res
theorem xt {S : List Fr} {res : Int} {x0 : aa} {x1 : Int} {x2 : au} {b6 : Int × Int} {a1 : (List Int)} {v0 v2 b1 a7 a9 : PV} (c9 : gc x0 x1 = b6) (a8 : (!decide (b6.2 = 0)) = false) (b8 : (tSl bm.t).R ((ix x0.Tables x1).Keys) b1) (c7 : dj x0 x1 = a1) (c1 : (tSl tI).R a1 a7) (c8 : (0 ≤ x1 ∧ x1 < x0.Tables.length) ∧ a1.length = (ix x0.Tables x1).Keys.length ∧ a1.length ≤ 6) (b3 : (!decide ((x2.Keys.length : Int) = (((ix x0.Tables x1).Keys).length : Int))) = false) (b2 : (tSl ay.t).R x2.Keys a9) {K0 : Unit → Int}
  (d4 : ∀ {h : Heap} (M0 : Mem h []), K0 () = res → PX Tryz.prog 0 S (QR Tryz.prog [(6, none)] (RF40 res)) [(1, vi x1), (3, .fp v0), (5, .fp v2)] h) :
  ∀ {m : Nat} {a0 : Int} (d0 : m = Int.toNat ((x2.Keys.length : Int) - a0)) (b4 : 0 ≤ a0) {h : Heap} (M0 : Mem h []), lc x0 x1 x2 a1 K0 m a0 = res → RC Tryz.prog (.loop cp4) S (QR Tryz.prog [(6, none)] (RF40 res)) [(41, vi a0), (40, vi (x2.Keys.length : Int)), (39, a9), (10, a7), (9, b1), (5, .fp v2), (3, .fp v0), (1, vi x1)] h := by
 have a4 := a8
 try simp only [qa] at a4
 have a5 := b3
 try simp only [qa] at a5
 intro m
 induction m with
 | zero =>
  intro a0 d0 b4 h M0 hres
  rw [lc] at hres
  refine br (sR (bN ck rfl rfl (nS (ae ?_))))
  refine bf rfl ?_ ?_ <;> intro c <;> try simp only [qa] at c
  ·omega
  refine di (dv (ct ?_))
  exact wP (d4 (Mem.sub M0 .slnil) hres) rfl
 | succ m ih =>
  intro a0 d0 b4 h M0 hres
  rw [lc] at hres
  refine br (sR (bN ck rfl rfl (nS (ae ?_))))
  refine bf rfl ?_ ?_ <;> intro c <;> try simp only [qa] at c
  rotate_left
  ·omega
  refine az (ah (ae (bh (sR (mV rfl ?_)))))
  obtain ⟨a6, b7, a2⟩ := cr (i := a0) b2 (by first | omega | (have hk := bc (by assumption) (by assumption); omega) | (have hk := tck (by assumption) (by assumption); omega) | (have hk := rtck (by assumption) (by assumption); omega) | (have hk := eck (by assumption) (by assumption) (by assumption); omega) | (have hk := tv (by assumption) (by assumption); omega) | (have hk := rtv (by assumption) (by assumption); omega)) (by first | omega | (have hk := bc (by assumption) (by assumption); omega) | (have hk := tck (by assumption) (by assumption); omega) | (have hk := rtck (by assumption) (by assumption); omega) | (have hk := eck (by assumption) (by assumption) (by assumption); omega) | (have hk := tv (by assumption) (by assumption); omega) | (have hk := rtv (by assumption) (by assumption); omega))
  refine ab (bn rfl rfl b7) (lD a2 rfl rfl rfl ?_)
  refine dk (x := .agg [da 0#32, da 0#32]) M0 rfl rfl (fun c6 c3 d3 c4 => ?_)
  refine mV rfl ?_
  refine cz (k := 0) (v := a6) c4 rfl rfl rfl (TR.cnt ay.t a2) (fun c0 a3 => ?_)
  replace a3 : Mem c0 [⟨.op c6 c3 0, 127, 2, [a6]⟩] := a3
  refine nR (ab (gi (k := 0) a3 rfl rfl (TR.agg ay.t a2)) (mV rfl (mV rfl ?_)))
  obtain ⟨d1, b9, c5⟩ := cr (i := a0) b8 (by first | omega | (have hk := bc (by assumption) (by assumption); omega) | (have hk := tck (by assumption) (by assumption); omega) | (have hk := rtck (by assumption) (by assumption); omega) | (have hk := eck (by assumption) (by assumption) (by assumption); omega) | (have hk := tv (by assumption) (by assumption); omega) | (have hk := rtv (by assumption) (by assumption); omega)) (by first | omega | (have hk := bc (by assumption) (by assumption); omega) | (have hk := tck (by assumption) (by assumption); omega) | (have hk := rtck (by assumption) (by assumption); omega) | (have hk := eck (by assumption) (by assumption) (by assumption); omega) | (have hk := tv (by assumption) (by assumption); omega) | (have hk := rtv (by assumption) (by assumption); omega))
  refine ab (bn rfl rfl b9) (fL rfl (bm.g_Kind c5) rfl rfl (mV rfl (mV rfl (ab (bn rfl rfl (slI c1 (by first | omega | (have hk := bc (by assumption) (by assumption); omega) | (have hk := tck (by assumption) (by assumption); omega) | (have hk := rtck (by assumption) (by assumption); omega) | (have hk := eck (by assumption) (by assumption) (by assumption); omega) | (have hk := tv (by assumption) (by assumption); omega) | (have hk := rtv (by assumption) (by assumption); omega)) (by first | omega | (have hk := bc (by assumption) (by assumption); omega) | (have hk := tck (by assumption) (by assumption); omega) | (have hk := rtck (by assumption) (by assumption); omega) | (have hk := eck (by assumption) (by assumption) (by assumption); omega) | (have hk := tv (by assumption) (by assumption); omega) | (have hk := rtv (by assumption) (by assumption); omega)))) (lR rfl rfl rfl ?_)))))
  obtain ⟨d2, b0, hres⟩ := cy hres
  have b5 := db5 (x1 := (ix ((ix x0.Tables x1).Keys) a0).Kind) (x2 := (ix a1 a0)) a2 
  rw [b0] at b5
  refine cL b5 rfl rfl (aq (TR.clo ay.t a2) (aq rfl (aq rfl bg))) (mV rfl (nR (mV rfl (bN jc rfl rfl (nS ?_)))))
  refine co hres rfl ?_ ?_ <;> clear hres <;> intro c hres <;> try simp only [qa] at c
  ·refine sR (mV rfl (mV rfl (nS ?_)))
   exact rR hres rfl rfl rfl
  ·refine az (dc (ah (ai (bN dz rfl rfl (mV rfl (aw (cq ?_)))))))
   have hbd := dm b2
   have hinc : wr (a0 + 1) = a0 + 1 := dt (by omega) (by omega)
   erw [hinc]
   exact wC (ih   (by omega) (by omega) (Mem.sub a3 (.cons _ .slnil)) hres) rfl

theorem cy2 {x0 : aa} {x1 : Int} {x2 : au} {v0 v2 : PV} (r0 : aa.t.R x0 v0) (r2 : au.t.R x2 v2) : FnR Tryz.prog 40 [v0, vi x1, v2] (vi (li x0 x1 x2)) := by
 refine fnS (R := RF40) bu6 (fun _ h => h) rfl fun res hres => ?_
 unfold li at hres
 refine sR (ab (db rfl (TR.cnt aa.t r0)) (ab (db rfl (TR.cnt au.t r2)) (mI rfl (nS (ae (sR (lD r0 rfl rfl rfl (mV rfl ?_))))))))
 obtain ⟨e5, a3, hres⟩ := cy hres
 have b2 := ba9 (x1 := x1) r0 
 rw [a3] at b2
 refine cL b2 rfl rfl (aq (TR.clo aa.t r0) (aq rfl bg)) (mV rfl (xT rfl rfl (xT rfl rfl (mV rfl (mV rfl (nR (mV rfl (bN jc rfl rfl ?_))))))))
 refine nS ?_
 refine co hres rfl ?_ ?_ <;> clear hres <;> intro a1 hres <;> have a4 := a1 <;> try simp only [qa] at a4
 ·refine sR (mV rfl (mV rfl (nS ?_)))
  exact rR hres rfl rfl rfl
 ·refine az (ah (sR ?_))
  obtain ⟨d6, c9, b1⟩ := aa.g_Tables r0
  refine fA rfl c9 (lD b1 rfl rfl rfl (mV rfl ?_))
  obtain ⟨e4, d0, c5⟩ := cr (i := x1) b1 (by first | omega | (have hk := bc (by assumption) (by assumption); omega) | (have hk := tck (by assumption) (by assumption); omega) | (have hk := rtck (by assumption) (by assumption); omega) | (have hk := eck (by assumption) (by assumption) (by assumption); omega) | (have hk := tv (by assumption) (by assumption); omega) | (have hk := rtv (by assumption) (by assumption); omega)) (by first | omega | (have hk := bc (by assumption) (by assumption); omega) | (have hk := tck (by assumption) (by assumption); omega) | (have hk := rtck (by assumption) (by assumption); omega) | (have hk := eck (by assumption) (by assumption) (by assumption); omega) | (have hk := tv (by assumption) (by assumption); omega) | (have hk := rtv (by assumption) (by assumption); omega))
  refine ab (bn rfl rfl d0) ?_
  obtain ⟨d9, c8, a7⟩ := ax.g_Keys c5
  refine fA rfl c8 (lD a7 rfl rfl rfl (lD r0 rfl rfl rfl (mV rfl ?_)))
  obtain ⟨b7, a0, hres⟩ := cy hres
  obtain ⟨d3, c4, b8⟩ := bw9 (x1 := x1) r0 
  rw [a0] at b8
  have b5 : (0 ≤ x1 ∧ x1 < x0.Tables.length) ∧ b7.length = (ix x0.Tables x1).Keys.length ∧ b7.length ≤ 6 := eck (by assumption) (by assumption) a0
  refine cL c4 rfl rfl (aq (TR.clo aa.t r0) (aq rfl bg)) (mV rfl (mV rfl (nS (ae (sR ?_)))))
  obtain ⟨e0, d2, c0⟩ := au.g_Keys r2
  refine fA rfl d2 (lD c0 rfl rfl rfl (ab (ca rfl (bq c0 Tryz.underlying38 _)) (mV rfl (ab (ca rfl (bq a7 Tryz.underlying85 _)) (bN jc rfl rfl (nS ?_))))))
  refine co hres rfl ?_ ?_ <;> clear hres <;> intro a2 hres <;> have a8 := a2 <;> try simp only [qa] at a8
  ·refine sR (mI rfl (nS ?_))
   exact rR hres rfl rfl rfl
  ·refine az (ah (ae (sR (gL (au.g_Keys r2) rfl rfl rfl fun d5 b4 => (ab (ca rfl (bq b4 Tryz.underlying38 _)) (mI rfl (nS (bh ?_))))))))
   refine wC (xt a3 a1 a7 a0 b8 b5 a2 b4 ?_  rfl (by omega) (Mem.sub (Mem.nil ⟨0, []⟩) .slnil) hres) rfl
   ·intro d7 e2 hres
    refine fa (ah (ae (bh (sR (fL rfl (au.g_Priority r2) rfl rfl (bN ck rfl rfl (mV rfl ?_)))))))
    refine bt 4 (d := 69) (v := vb ((decide (x2.Priority < 0)) || (decide (255 < x2.Priority)))) ?_ ?_
    ·intro S Q r
     cases a9 : (decide (x2.Priority < 0))
     ·intro k
      have a6 := a9
      try simp only [qa] at a6
      refine af rfl rfl (bb rfl (au.g_Priority r2)) (af rfl rfl (ba rfl rfl rfl) (af rfl rfl (bd rfl rfl gb) ?_))
      exact gK rfl rfl rfl rfl rfl k
     ·exact gN 3 rfl rfl rfl rfl rfl rfl
    refine mV rfl (nS ?_)
    refine co hres rfl ?_ ?_ <;> clear hres <;> intro c hres <;> try simp only [qa] at c
    ·refine sR (mI rfl (nS ?_))
     exact rR hres rfl rfl rfl
    ·refine sR (fL rfl (au.g_Priority r2) rfl rfl (bN jc rfl rfl (mV rfl ?_)))
     refine bt 5 (d := 79) (v := vb ((!decide (x2.Priority = 0)) && (!decide ((en x0 x1) = 3)))) ?_ ?_
     ·intro S Q r
      cases c3 : (!decide (x2.Priority = 0))
      ·exact gN 4 rfl rfl rfl rfl rfl rfl
      ·intro k
       have a5 := c3
       try simp only [qa] at a5
       refine af rfl rfl (ba rfl (TR.cnt aa.t r0) (TR.agg aa.t r0)) (af rfl rfl (ak rfl) ?_)
       have c7 := by9 (x1 := x1) r0 
       refine fw rfl rfl (mc rfl rfl (aq (TR.clo aa.t r0) (aq rfl bg)) c7) (af rfl rfl (bd rfl rfl jc) ?_)
       exact gK rfl rfl rfl rfl rfl k
     refine mV rfl (nS ?_)
     refine co hres rfl ?_ ?_ <;> clear hres <;> intro c hres <;> try simp only [qa] at c
     ·refine sR (mI rfl (nS ?_))
      exact rR hres rfl rfl rfl
     ·refine sR (lD r0 rfl rfl rfl (mV rfl ?_))
      obtain ⟨d4, c6, d1⟩ := au.g_Call r2
      refine fA rfl c6 (fL rfl (av.g_Action d1) rfl rfl ?_)
      obtain ⟨e1, b3, hres⟩ := cy hres
      have b6 := dd6 (x1 := x1) (x2 := x2.Call.Action) r0 
      rw [b3] at b6
      refine cL b6 rfl rfl (aq (TR.clo aa.t r0) (aq rfl (aq rfl bg))) (ab (ft rfl) (mV rfl (nS ?_)))
      refine co hres rfl ?_ ?_ <;> clear hres <;> intro c hres <;> try simp only [qa] at c
      ·refine sR (mI rfl (nS ?_))
       exact rR hres rfl rfl rfl
      ·refine az (dc (ah (sR (lD r0 rfl rfl rfl (gL (au.g_Call r2) rfl rfl rfl fun e3 b0 => ?_)))))
       obtain ⟨d8, c1, hres⟩ := cy hres
       have b9 := bo6  r0 b0 
       rw [c1] at b9
       refine cL b9 rfl rfl (aq (TR.clo aa.t r0) (aq (TR.clo av.t b0) bg)) (mV rfl (nS ?_))
       exact rR hres rfl rfl rfl

def RF42 (res : Bool) (r : PV) : Prop := r = vb res
theorem vx {S : List Fr} {res : Bool} {x0 : au} {x1 : au} {v1 a6 : PV} (r1 : au.t.R x1 v1) (a5 : ((!decide (x0.Priority = x1.Priority)) || (!decide ((x0.Keys.length : Int) = (x1.Keys.length : Int)))) = false) (a8 : (tSl ay.t).R x0.Keys a6) {K0 : Unit → Bool}
  (c1 : ∀ {h : Heap} (M0 : Mem h []), K0 () = res → PX Tryz.prog 0 S (QR Tryz.prog [(4, none)] (RF42 res)) [] h) :
  ∀ {m : Nat} {a0 : Int} (b7 : m = Int.toNat ((x0.Keys.length : Int) - a0)) (a9 : 0 ≤ a0) {h : Heap} (M0 : Mem h []), jp x0 x1 K0 m a0 = res → RC Tryz.prog (.loop cq3) S (QR Tryz.prog [(4, none)] (RF42 res)) [(24, vi a0), (23, vi (x0.Keys.length : Int)), (22, a6), (3, .fp v1)] h := by
 have a3 := a5
 try simp only [qa] at a3
 intro m
 induction m with
 | zero =>
  intro a0 b7 a9 h M0 hres
  rw [jp] at hres
  refine br (sR (bN ck rfl rfl (nS (ae ?_))))
  refine bf rfl ?_ ?_ <;> intro c <;> try simp only [qa] at c
  ·omega
  refine di (dv (ct ?_))
  exact wP (c1 (Mem.sub M0 .slnil) hres) rfl
 | succ m ih =>
  intro a0 b7 a9 h M0 hres
  rw [jp] at hres
  refine br (sR (bN ck rfl rfl (nS (ae ?_))))
  refine bf rfl ?_ ?_ <;> intro c <;> try simp only [qa] at c
  rotate_left
  ·omega
  refine az (ah (ae (bh (sR (mV rfl ?_)))))
  obtain ⟨a7, b6, a2⟩ := cr (i := a0) a8 (by first | omega | (have hk := bc (by assumption) (by assumption); omega) | (have hk := tck (by assumption) (by assumption); omega) | (have hk := rtck (by assumption) (by assumption); omega) | (have hk := eck (by assumption) (by assumption) (by assumption); omega) | (have hk := tv (by assumption) (by assumption); omega) | (have hk := rtv (by assumption) (by assumption); omega)) (by first | omega | (have hk := bc (by assumption) (by assumption); omega) | (have hk := tck (by assumption) (by assumption); omega) | (have hk := rtck (by assumption) (by assumption); omega) | (have hk := eck (by assumption) (by assumption) (by assumption); omega) | (have hk := tv (by assumption) (by assumption); omega) | (have hk := rtv (by assumption) (by assumption); omega))
  refine ab (bn rfl rfl b6) (lD a2 rfl rfl rfl ?_)
  refine dk (x := .agg [da 0#32, da 0#32]) M0 rfl rfl (fun b4 b1 b9 b5 => ?_)
  refine mV rfl ?_
  refine cz (k := 0) (v := a7) b5 rfl rfl rfl (TR.cnt ay.t a2) (fun b0 a1 => ?_)
  replace a1 : Mem b0 [⟨.op b4 b1 0, 127, 2, [a7]⟩] := a1
  refine nR (ab (gi (k := 0) a1 rfl rfl (TR.agg ay.t a2)) (gL (au.g_Keys r1) rfl rfl rfl fun c0 b3 => (mV rfl ?_)))
  obtain ⟨b8, b2, a4⟩ := cr (i := a0) b3 (by first | omega | (have hk := bc (by assumption) (by assumption); omega) | (have hk := tck (by assumption) (by assumption); omega) | (have hk := rtck (by assumption) (by assumption); omega) | (have hk := eck (by assumption) (by assumption) (by assumption); omega) | (have hk := tv (by assumption) (by assumption); omega) | (have hk := rtv (by assumption) (by assumption); omega)) (by first | omega | (have hk := bc (by assumption) (by assumption); omega) | (have hk := tck (by assumption) (by assumption); omega) | (have hk := rtck (by assumption) (by assumption); omega) | (have hk := eck (by assumption) (by assumption) (by assumption); omega) | (have hk := tv (by assumption) (by assumption); omega) | (have hk := rtv (by assumption) (by assumption); omega))
  refine ab (bn rfl rfl b2) (lD a4 rfl rfl rfl (bN (ay.neq_127 a2 a4) rfl rfl (nS ?_)))
  refine co hres rfl ?_ ?_ <;> clear hres <;> intro c hres <;> try simp only [qa] at c
  ·refine sR (mB rfl (nS ?_))
   exact rR hres rfl rfl rfl
  ·refine az (dc (ah (ai (bN dz rfl rfl (mV rfl (aw (cq ?_)))))))
   have hbd := dm a8
   have hinc : wr (a0 + 1) = a0 + 1 := dt (by omega) (by omega)
   erw [hinc]
   exact wC (ih   (by omega) (by omega) (Mem.sub a1 (.cons _ .slnil)) hres) rfl

theorem cx1 {x0 : au} {x1 : au} {v0 v1 : PV} (r0 : au.t.R x0 v0) (r1 : au.t.R x1 v1) : FnR Tryz.prog 42 [v0, v1] (vb (il x0 x1)) := by
 refine fnS (R := RF42) bq2 (fun _ h => h) rfl fun res hres => ?_
 unfold il at hres
 refine sR (ab (db rfl (TR.cnt au.t r0)) (ab (db rfl (TR.cnt au.t r1)) (mB rfl (nS (ae (sR (fL rfl (au.g_Priority r0) rfl rfl (fL rfl (au.g_Priority r1) rfl rfl ?_))))))))
 refine bN jc rfl rfl (mV rfl ?_)
 refine bt 8 (d := 20) (v := vb ((!decide (x0.Priority = x1.Priority)) || (!decide ((x0.Keys.length : Int) = (x1.Keys.length : Int))))) ?_ ?_
 ·intro S Q r
  cases a6 : (!decide (x0.Priority = x1.Priority))
  ·intro k
   have a2 := a6
   try simp only [qa] at a2
   obtain ⟨b3, a7, a3⟩ := au.g_Keys r0
   refine af rfl rfl (bb rfl a7) (af rfl rfl (ba rfl (TR.cnt (tSl ay.t) a3) (TR.agg (tSl ay.t) a3)) (af rfl rfl (ca rfl (bq a3 Tryz.underlying38 _)) ?_))
   obtain ⟨a9, a8, a1⟩ := au.g_Keys r1
   refine af rfl rfl (bb rfl a8) (af rfl rfl (ba rfl (TR.cnt (tSl ay.t) a1) (TR.agg (tSl ay.t) a1)) (af rfl rfl (ca rfl (bq a1 Tryz.underlying38 _)) (af rfl rfl (bd rfl rfl jc) ?_)))
   exact gK rfl rfl rfl rfl rfl k
  ·exact gN 7 rfl rfl rfl rfl rfl rfl
 refine nS ?_
 refine co hres rfl ?_ ?_ <;> clear hres <;> intro a0 hres <;> have a4 := a0 <;> try simp only [qa] at a4
 ·refine sR (mB rfl (nS ?_))
  exact rR hres rfl rfl rfl
 ·refine az (ah (ae (sR (gL (au.g_Keys r0) rfl rfl rfl fun b1 a5 => (ab (ca rfl (bq a5 Tryz.underlying38 _)) (mI rfl (nS (bh ?_))))))))
  refine wC (vx r1 a0 a5 ?_  rfl (by omega) (Mem.sub (Mem.nil ⟨0, []⟩) .slnil) hres) rfl
  ·intro b0 b2 hres
   refine fa (ah (sR (mB rfl (nS ?_))))
   exact rR hres rfl rfl rfl

def RF82 (res : Int) (r : PV) : Prop := r = vi res
theorem kr {S : List Fr} {res : Int} {x0 : List bm} {x1 : bm → Bool} {v0 v1 : PV} (r0 : (tSl bm.t).R x0 v0) (r1 : (tFn Tryz.prog bm.t tB).R x1 v1) {K0 : Unit → Int}
  (a8 : K0 () = res → PX Tryz.prog 0 S (QR Tryz.prog [(4, none)] (RF82 res)) [] ⟨0, []⟩) :
  ∀ {m : Nat} {a0 : Int} (a7 : m = Int.toNat ((x0.length : Int) - a0)) (a3 : 0 ≤ a0), bp x0 x1 K0 m a0 = res → RC Tryz.prog (.loop ci5) S (QR Tryz.prog [(4, none)] (RF82 res)) [(8, vi a0), (7, vi (x0.length : Int)), (1, v1), (0, v0)] ⟨0, []⟩ := by
 intro m
 induction m with
 | zero =>
  intro a0 a7 a3 hres
  rw [bp] at hres
  refine br (sR (bN ck rfl rfl (nS (ae ?_))))
  refine bf rfl ?_ ?_ <;> intro c <;> try simp only [qa] at c
  ·omega
  refine di (dv (ct ?_))
  exact wP (a8  hres) rfl
 | succ m ih =>
  intro a0 a7 a3 hres
  rw [bp] at hres
  refine br (sR (bN ck rfl rfl (nS (ae ?_))))
  refine bf rfl ?_ ?_ <;> intro c <;> try simp only [qa] at c
  rotate_left
  ·omega
  refine az (ah (ae (bh (sR (mV rfl (mV rfl (nR (mV rfl ?_))))))))
  refine mV rfl (mV rfl ?_)
  obtain ⟨a4, a5, a2⟩ := cr (i := a0) r0 (by first | omega | (have hk := bc (by assumption) (by assumption); omega) | (have hk := tck (by assumption) (by assumption); omega) | (have hk := rtck (by assumption) (by assumption); omega) | (have hk := eck (by assumption) (by assumption) (by assumption); omega) | (have hk := tv (by assumption) (by assumption); omega) | (have hk := rtv (by assumption) (by assumption); omega)) (by first | omega | (have hk := bc (by assumption) (by assumption); omega) | (have hk := tck (by assumption) (by assumption); omega) | (have hk := rtck (by assumption) (by assumption); omega) | (have hk := eck (by assumption) (by assumption) (by assumption); omega) | (have hk := tv (by assumption) (by assumption); omega) | (have hk := rtv (by assumption) (by assumption); omega))
  refine ab (bn rfl rfl a5) (lD a2 rfl rfl rfl ?_)
  refine as1 rfl r1 rfl (show bm.t.R (ix x0 a0) a4 from a2) (fun a6 a1 => ?_)
  have a1 : a6 = vb (x1 (ix x0 a0)) := a1; subst a1
  refine nS ?_
  refine co hres rfl ?_ ?_ <;> clear hres <;> intro c hres <;> try simp only [qa] at c
  ·refine sR (mV rfl (mV rfl (nS ?_)))
   exact rR hres rfl rfl rfl
  ·refine az (dc (ah (ai (bN dz rfl rfl (mV rfl (aw (cq ?_)))))))
   have hbd := dm r0
   have hinc : wr (a0 + 1) = a0 + 1 := dt (by omega) (by omega)
   erw [hinc]
   exact wC (ih   (by omega) (by omega) hres) rfl

theorem dh0 {x0 : List bm} {x1 : bm → Bool} {v0 v1 : PV} (r0 : (tSl bm.t).R x0 v0) (r1 : (tFn Tryz.prog bm.t tB).R x1 v1) : FnR Tryz.prog 82 [v0, v1] (vi (fx x0 x1)) := by
 refine fnS (R := RF82) cb1 (fun _ h => h) rfl fun res hres => ?_
 unfold fx at hres
 refine sR (mI rfl (nS (ae (sR (mV rfl (ab (ca rfl (bq r0 Tryz.underlying85 _)) (mI rfl (nS ?_))))))))
 refine bh ?_
 refine wC (kr r0 r1 ?_  rfl (by omega) hres) rfl
 ·intro  hres
  refine fa (ah (sR (mI rfl (nS ?_))))
  exact rR hres rfl rfl rfl

def RF84 (res : (List (BitVec 32))) (r : PV) : Prop := (tSl kg).R res r
theorem vt {S : List Fr} {res : (List (BitVec 32))} {x0 : au} {b9 : PV} (hb : x0.Keys.length ≤ 20) (c0 : (tSl ay.t).R x0.Keys b9) {K0 : (List (BitVec 32)) → (List (BitVec 32))}
  (d4 : ∀ {a1 : List (BitVec 32)} {a0 : List PV} {a2 : PV} (a4 : All2 kg.R a1 a0) (a6 : isL a2 = true) (a3 : Wri a2 a0) (a5 : a1.length ≤ 4611686018427387904) {h : Heap} (M0 : Mem h [⟨a2, 64, 1, a0⟩]), K0 a1 = res → PX Tryz.prog 0 S (QR Tryz.prog [(2, none)] (RF84 res)) [(3, a2)] h) :
  ∀ {m : Nat} {a7 : Int} {a1 : List (BitVec 32)} {a0 : List PV} {a2 : PV} (a4 : All2 kg.R a1 a0) (a6 : isL a2 = true) (a3 : Wri a2 a0) (a5 : a1.length ≤ 4611686018427387904) (d1 : m = Int.toNat ((x0.Keys.length : Int) - a7)) (c1 : 0 ≤ a7) (b0 : (a1.length : Int) ≤ a7) {h : Heap} (M0 : Mem h [⟨a2, 64, 1, a0⟩]), iu x0 K0 m a7 a1 = res → RC Tryz.prog (.loop cd1) S (QR Tryz.prog [(2, none)] (RF84 res)) [(9, vi a7), (8, vi (x0.Keys.length : Int)), (7, b9), (3, a2)] h := by
 have hb' := hb
 try simp only [qa] at hb'
 intro m
 induction m with
 | zero =>
  intro a7 a1 a0 a2 a4 a6 a3 a5 d1 c1 b0 h M0 hres
  rw [iu] at hres
  refine br (sR (bN ck rfl rfl (nS (ae ?_))))
  refine bf rfl ?_ ?_ <;> intro c <;> try simp only [qa] at c
  ·omega
  refine di (dv (ct ?_))
  exact wP (d4 a4 a6 a3 a5 (Mem.sub M0 (.cons_cons _ .slnil)) hres) rfl
 | succ m ih =>
  intro a7 a1 a0 a2 a4 a6 a3 a5 d1 c1 b0 h M0 hres
  rw [iu] at hres
  refine br (sR (bN ck rfl rfl (nS (ae ?_))))
  refine bf rfl ?_ ?_ <;> intro c <;> try simp only [qa] at c
  rotate_left
  ·omega
  refine az (ah (ae (bh (sR ?_))))
  obtain ⟨c3, c9, b2⟩ := cr (i := a7) c0 (by first | omega | (have hk := bc (by assumption) (by assumption); omega) | (have hk := tck (by assumption) (by assumption); omega) | (have hk := rtck (by assumption) (by assumption); omega) | (have hk := eck (by assumption) (by assumption) (by assumption); omega) | (have hk := tv (by assumption) (by assumption); omega) | (have hk := rtv (by assumption) (by assumption); omega)) (by first | omega | (have hk := bc (by assumption) (by assumption); omega) | (have hk := tck (by assumption) (by assumption); omega) | (have hk := rtck (by assumption) (by assumption); omega) | (have hk := eck (by assumption) (by assumption) (by assumption); omega) | (have hk := tv (by assumption) (by assumption); omega) | (have hk := rtv (by assumption) (by assumption); omega))
  refine ab (bn rfl rfl c9) (lD b2 rfl rfl rfl ?_)
  refine dk (x := .agg [da 0#32, da 0#32]) M0 rfl rfl (fun c5 d0 d5 c6 => ?_)
  refine cz (k := 0) (v := c3) c6 rfl rfl rfl (TR.cnt ay.t b2) (fun b5 a9 => ?_)
  replace a9 : Mem b5 [⟨.op c5 d0 0, 127, 2, [c3]⟩, ⟨a2, 64, 1, a0⟩] := a9
  refine nS (ai (mV rfl (ab (bz rfl) (ab (dg (k := 0) a9 rfl rfl (ay.g_Value b2)) (ab (v := .fs true [da ((ix x0.Keys a7).Value)]) (ly rfl (all_cons rfl oh)) ?_)))))
  have c8 : (tSl kg).R ([(ix x0.Keys a7).Value] : List (BitVec 32)) (.fs true [da ((ix x0.Keys a7).Value)]) := zl ⟨rfl, trivial⟩ (by simp)
  obtain ⟨a8, b7, b1⟩ := zg (t := kg) (h := b5) c8
  have b4 : fits (a0.length + a8.length) 4 = true := by rw [All2.length_eq a4, All2.length_eq b1]; (try simp only [List.length_cons, List.length_nil]); exact qs (by omega) (by omega)
  refine sx (k := 1) (es := a0) (news := a8) a9 rfl rfl rfl a6 a3 b7 b4 (fun d3 d2 c7 b8 c4 => ?_)
  have b3 : All2 kg.R (a1 ++ ([(ix x0.Keys a7).Value] : List (BitVec 32))) (a0 ++ a8) := All2.app a4 b1
  have b6 : (a1 ++ ([(ix x0.Keys a7).Value] : List (BitVec 32))).length ≤ 4611686018427387904 := by rw [← All2.length_eq b3, List.length_append]; exact af2 b4
  refine mV rfl (aw (dc (ah (ai (bN dz rfl rfl (mV rfl (aw (cq ?_))))))))
  have hbd := dm c0
  have hinc : wr (a7 + 1) = a7 + 1 := dt (by omega) (by omega)
  erw [hinc]
  exact wC (ih  b3 c7 b8 b6 (by omega) (by omega) (by first | omega | (simp; done) | (simp only [List.length_append, List.length_cons, List.length_nil, List.length_set]; omega)) (Mem.sub c4 (.cons _ (.cons_cons _ .slnil))) hres) rfl

theorem da5 {x0 : au} {v0 : PV} (r0 : au.t.R x0 v0) (hb : x0.Keys.length ≤ 20) : ∃ r, FnR Tryz.prog 84 [v0] r ∧ (tSl kg).R (js x0) r := by
 refine fnT (R := RF84) bn9 rfl fun res hres => ?_
 unfold js at hres
 refine sR (ab (db rfl (TR.cnt au.t r0)) (ab (v := nilS) (ak rfl) (nR (ab (v := nilS) (ak rfl) (nS (ae (sR (gL (au.g_Keys r0) rfl rfl rfl fun b3 a7 => ?_))))))))
 refine ab (ca rfl (bq a7 Tryz.underlying38 _)) (mI rfl (nS (bh ?_)))
 have a9 := su (sz := 1) (es := []) (Mem.nil ⟨0, []⟩) 64 (.inl ⟨none, rfl, rfl⟩) (by simp)
 refine wC (vt hb a7 ?_  aL rfl (.inl rfl) (by first | decide | simp) rfl (by omega) (by first | omega | (simp; done) | (simp only [List.length_append, List.length_cons, List.length_nil, List.length_set]; omega)) (Mem.sub a9 (.cons_cons _ .slnil)) hres) rfl
 ·intro a5 a3 a6 a1 a2 a4 a0 b4 b0 hres
  refine fa (ah (sR (mV rfl (mV rfl (nS ?_)))))
  obtain ⟨b2, b1, a8⟩ := zd (P := Tryz.prog) (k := 0) (t := kg) b0 rfl a2 a1 (Nat.le_trans a0 (by decide))
  subst hres
  exact fc (.tmp rfl .nil) b1 a8

theorem bk4 {P : Program} {h : Heap} {cs ds : List PV} (H : DeepCL P h cs ds) : Deep P h (.agg cs) (.agg ds) := bp9 H.closed fun k hk w0 F0 x us R hv => H.vrl hk R hv
theorem bi9 {P : Program} {h : Heap} {L : List Ent} {k id ver : Nat} {ty : TypeId} {sz : Nat} {cs ds : List PV} (M : Mem h L) (hk : L[k]? = some ⟨.op id ver 0, ty, sz, [.agg cs]⟩) (H : DeepCL P h cs ds) : DeepC P h (.op id ver 0) (.fp (.agg ds)) := by
 obtain ⟨h1, x', cs', h2, h3, h4⟩ := M.atF hk
 simp only [List.cons.injEq, and_true] at h2
 subst h2
 simp only [PV.cellsOf, Option.some.injEq] at h3
 subst h3
 refine ⟨by simpa [closed] using H.closed, rfl, fun k hk' w0 F0 y us R hv => ?_⟩
 simp only [VRC] at hv ⊢
 obtain ⟨b, hj, rfl⟩ := hv
 obtain ⟨cur, hcur, hcl, hvr⟩ := jf R (hk' _ _ h4) hj
 exact ⟨b, 0, cur.toList.take cs.length, rfl, .inr (R.own _ _ _ hj), by simpa using jg hcur 0 cs.length, H.vrl hk' R hvr⟩
theorem cx5 {cc cs ds : List PV} {a off : Nat} (hs : (cc.drop a).take cs.length = cs) (hl : off + ds.length ≤ cs.length) (ha : a + cs.length ≤ cc.length) : spl cc a (spl cs off ds) = spl cc (a + off) ds := by
 have hcc : cc = cc.take a ++ (cs ++ cc.drop (a + cs.length)) := by
  conv => lhs; rw [← List.take_append_drop a cc, ← List.take_append_drop cs.length (cc.drop a), hs, List.drop_drop]
 have hn : (spl cs off ds).length = cs.length := by simp [spl]; omega
 generalize hA : cc.take a = A at hcc
 generalize cc.drop (a + cs.length) = B at hcc
 have hAl : A.length = a := by rw [← hA, List.length_take]; omega
 subst hcc
 subst hAl
 have e1 : (A ++ (cs ++ B)).take (A.length + off) = A ++ cs.take off := by rw [List.take_append, List.take_of_length_le (by omega), show A.length + off - A.length = off by omega, List.take_append, show off - cs.length = 0 by omega]; simp
 have e2 : (A ++ (cs ++ B)).drop (A.length + off + ds.length) = cs.drop (off + ds.length) ++ B := by rw [List.drop_append, List.drop_of_length_le (by omega), show A.length + off + ds.length - A.length = off + ds.length by omega, List.drop_append, show off + ds.length - cs.length = 0 by omega]; simp
 have e3 : (A ++ (cs ++ B)).take A.length = A := by simp
 have e4 : (A ++ (cs ++ B)).drop (A.length + (spl cs off ds).length) = B := by rw [hn, List.drop_append, List.drop_of_length_le (by omega)]; simp
 have e5 : spl (A ++ (cs ++ B)) A.length (spl cs off ds) = A ++ (spl cs off ds ++ B) := by
  show List.take _ _ ++ (_ ++ List.drop _ _) = _
  rw [e3, e4]
 rw [e5]
 simp only [spl, e1, e2, List.append_assoc]
theorem bx7 {h : Heap} {L : List Ent} {k id ver n i off : Nat} {ty : TypeId} {sz : Nat} {es cs ds : List PV} {v : PV} (M : Mem h L) (hk : L[k]? = some ⟨.os id ver 0 n, ty, sz, es⟩) (hi : es[i]? = some (.agg cs)) (hv : v.cellsOf = some ds) (hl : off + ds.length ≤ cs.length) :
  ∃ h', storeR h ds.length (.op id ver (0 + i * sz + off)) v = some (.tup [], h') ∧ Mem h' (L.set k ⟨.os id ver 0 n, ty, sz, es.set i (.agg (spl cs off ds))⟩) := by
 obtain ⟨h1, hn, cc, h2, h3⟩ := M.atF hk
 obtain ⟨hil, hie⟩ := List.getElem?_eq_some_iff.1 hi
 obtain ⟨h4, h5⟩ := yo h1 h2 hi
 simp only [PV.cellsOf, Option.some.injEq] at h5
 have hcs : cs.length = sz := by have := h1 _ (List.mem_of_getElem? hi); simpa [cnt] using this
 have hsp : spl cc (i * sz) (spl cs off ds) = spl cc (i * sz + off) ds := cx5 (by rw [hcs, ← h5]) hl (by omega)
 have hsl : (spl cs off ds).length = sz := by simp [spl]; omega
 have hrc := yl (v := .agg (spl cs off ds)) h1 h2 hil rfl hsl
 refine ⟨hput h id (.cells ver ty true (spl cc (i * sz + off) ds)), ?_, M.upd hk ⟨fun x hx => ?_, by simp [hn], _, hrc, by rw [hsp]; simp [mj h3]⟩ (fun i hi => .inl hi) fun i hi hne => ?_⟩
 ·rw [ab1, h3, Nat.zero_add]
  simp only [storeB, hv]
  rw [if_pos ⟨trivial, trivial, by omega⟩]
 ·rcases List.mem_or_eq_of_mem_set hx with h6 | h6
  ·exact h1 x h6
  ·rw [h6]; simp [cnt, hsl]
 ·exact jo _ _ _ _ fun e => hne (by simp [idOf, e])
theorem cl8 {P : Program} {S : List Fr} {Q : Post} {E : TEnv} {h : Heap} {L : List Ent} {hf : Bool} {r : List AOper} {o o' : Operand} {k id ver n i off sz' : Nat} {ty : TypeId} {sz : Nat} {es cs ds : List PV} {v : PV} (M : Mem h L) (eo : evE E o = some (.op id ver (0 + i * sz + off))) (ev' : evE E o' = some v) (hk : L[k]? = some ⟨.os id ver 0 n, ty, sz, es⟩) (hi : es[i]? = some (.agg cs)) (hv : v.cellsOf = some ds) (hn : ds.length = sz') (hl : off + ds.length ≤ cs.length)
  (K : ∀ h', Mem h' (L.set k ⟨.os id ver 0 n, ty, sz, es.set i (.agg (spl cs off ds))⟩) → RD P r S Q E h') : RD P (⟨none, .store sz' o o', none, hf⟩ :: r) S Q E h := by
 subst hn
 obtain ⟨h', h1, h2⟩ := bx7 M hk hi hv hl
 exact xy ⟨rfl, fun T hT => by show storeR h ds.length (ev T o) (ev T o') = _; rw [du hT eo, du hT ev', h1]⟩ (K h' h2)
theorem cc2 (ad : Option Addr) (ox oy : Operand) : ∃ b, binF Tryz.prog .eql 85 ox oy (.sc (.slice ad 0 0)) nilS = some (vb b) := by
 cases ad with
 | none => exact ⟨true, by kernel_rfl⟩
 | some a => exact ⟨false, by cases a; kernel_rfl⟩
theorem cj2 (tg : Bool) (es : List PV) (ox oy : Operand) : binF Tryz.prog .eql 85 ox oy (.fs tg es) nilS = some (vb false) := rfl
theorem bu8 {l : List bm} {v : PV} (r : (tSl bm.t).R l v) (ox oy : Operand) : ∃ b, binF Tryz.prog .eql 85 ox oy v nilS = some (vb b) ∧ (b = true → l = []) := by
 obtain ⟨⟨es, he, hl⟩, hb⟩ := r
 rcases he with ⟨ad, rfl, rfl⟩ | ⟨tg, rfl⟩
 ·obtain ⟨b, h⟩ := cc2 ad ox oy
  refine ⟨b, h, fun _ => ?_⟩
  cases l with
  | nil => rfl
  | cons _ _ => simp [All2] at hl
 ·exact ⟨false, cj2 tg es ox oy, fun h => by cases h⟩
theorem da1 {x0 : List bm} {v0 : PV} (r0 : (tSl bm.t).R x0 v0) (hb : x0.length ≤ 2000000) : ∃ r, FnR Tryz.prog 79 [v0] r ∧ (tSl bm.t).R x0 r := by
 refine fnE bv7 (by simp) ?_
 refine ae (ai (ab (v := nilS) (ak rfl) (aw (ah (ae (ae (ai (ab (ak rfl) ?_))))))))
 obtain ⟨b, e1, e2⟩ := bu8 r0 (.tmp 3) (.const (.slice none 0 0))
 refine ab (bd rfl rfl e1) (aw (ah (bf rfl (fun hc => ?_) fun hc => ?_)))
 ·have hx := e2 hc
  refine ae (ai (ab (v := nilS) (ak rfl) (aw (ah ?_))))
  exact fc (.tmp rfl .nil) (cj rfl) (by rw [hx]; exact gq)
 ·refine az (ah (ae (ai ?_)))
  refine ab (v := .fs true []) (ly rfl oh) (ab (ak rfl) ?_)
  have MA := su (sz := 3) (es := []) (Mem.nil ⟨0, []⟩) 112 (.inr rfl) (by simp)
  obtain ⟨nw, sr, ar⟩ := zg (t := bm.t) (h := ⟨0, []⟩) r0
  have ff : fits (([] : List PV).length + nw.length) 24 = true := by rw [All2.length_eq ar]; (try simp only [List.length_cons, List.length_nil]); exact qs (by omega) (by omega)
  refine sx (k := 0) (es := ([] : List PV)) (news := nw) MA rfl rfl rfl rfl (.inl rfl) sr ff (fun a h n wr M => ?_)
  refine ab (ak rfl) (aw (ah ?_))
  obtain ⟨v1, d1, r1⟩ := zd (P := Tryz.prog) (k := 0) (t := bm.t) M rfl n ar (Nat.le_trans (show x0.length ≤ 4611686018427387904 by omega) (by decide))
  exact fc (.tmp rfl .nil) d1 r1
def zTV : PV := .agg [vs [], nilS, nilS, vi 0, nilS, vi 0]
theorem ds1 : ax.t.R zT zTV := ⟨_, _, _, rfl, gq, gq, gq⟩
theorem dh9 {x0 : aa} {x1 : Int} {v0 : PV} (r0 : aa.t.R x0 v0) (h0 : 0 ≤ x1) (h1 : x1 < x0.Tables.length) (h2 : x1 ≤ 1000000) (h3 : (ix x0.Tables x1).Keys.length ≤ 2000) : ∃ r, FnR Tryz.prog 43 [v0, vi x1] r ∧ aa.t.R (ownP x0 x1) r := by
 refine fnE bv8 (by simp) ?_
 refine ae (ai (ab (db rfl (TR.cnt aa.t r0)) ?_))
 refine dk (x := .agg [vs [], nilS, nilS, nilS, nilS, nilS, nilS, nilS, nilS]) (Mem.nil _) rfl rfl (fun i4 w4 h4 M4 => aw (ah ?_))
 refine ae (ai (ab (ak rfl) (ab (bd rfl rfl dz) ?_)))
 have hinc : wr (x1 + 1) = x1 + 1 := dt (by omega) (by omega)
 have hfit : fits (x1 + 1).toNat 104 = true := qs (by omega) (Nat.le_trans (Nat.mul_le_mul_right 104 (show (x1 + 1).toNat ≤ 1000001 by omega)) (by decide))
 refine bj5 (m := x1 + 1) (zs := [vs [], nilS, nilS, vi 0, nilS, vi 0]) (zz := zTV) M4 (by omega) (by show some (vi (wr (x1 + 1))) = _; rw [hinc]) (by show some (vi (wr (x1 + 1))) = _; rw [hinc]) rfl rfl rfl hfit (fun i8 w8 h8 M8 => ?_)
 refine ab (v := .agg [vs [], nilS, nilS, nilS, nilS, .os i8 w8 0 (x1 + 1).toNat, nilS, nilS, nilS]) (nj (cs := [vs [], nilS, nilS, nilS, nilS, .os i8 w8 0 (x1 + 1).toNat, nilS, nilS, nilS]) rfl rfl) ?_
 refine dk (x := .agg [vs [], nilS, nilS, nilS, nilS, nilS, nilS, nilS, nilS]) M8 rfl rfl (fun i5 w5 h5 M5 => ?_)
 refine cz (k := 0) (v := .agg [vs [], nilS, nilS, nilS, nilS, .os i8 w8 0 (x1 + 1).toNat, nilS, nilS, nilS]) M5 rfl rfl rfl rfl (fun h6 M6 => aw (ah ?_))
 replace M6 : Mem h6 [⟨.op i5 w5 0, 31, 9, [.agg [vs [], nilS, nilS, nilS, nilS, .os i8 w8 0 (x1 + 1).toNat, nilS, nilS, nilS]]⟩, ⟨.os i8 w8 0 (x1 + 1).toNat, 87, 6, List.replicate (x1 + 1).toNat zTV⟩, ⟨.op i4 w4 0, 31, 9, [.agg [vs [], nilS, nilS, nilS, nilS, nilS, nilS, nilS, nilS]]⟩] := M6
 refine ae (ai ?_)
 refine ab (bz rfl) (ab (dg (k := 0) (off := 5) (w := .os i8 w8 0 (x1 + 1).toNat) M6 rfl rfl rfl) (ab (ak rfl) ?_))
 obtain ⟨wt, gt, rt⟩ := aa.g_Tables r0
 refine ab (bb rfl gt) (ab (ba rfl (TR.cnt _ rt) (TR.agg _ rt)) (ab (ak rfl) ?_))
 obtain ⟨e0, a0, q0⟩ := cr (i := x1) rt h0 h1
 obtain ⟨wk, gk, rk⟩ := ax.g_Keys q0
 refine ab (bn rfl rfl a0) (ab (bb rfl gk) (ab (ba rfl (TR.cnt _ rk) (TR.agg _ rk)) ?_))
 obtain ⟨d, f1, s1⟩ := da1 rk (by omega)
 refine cL f1 rfl rfl (aq (TR.clo _ rk) bg) ?_
 refine ab (v := .op i8 w8 (0 + x1.toNat * 6)) (bn rfl rfl (by have := cz2 (id := i8) (ver := w8) (off := 0) (n := (x1 + 1).toNat) (j := x1.toNat) (k := .i64) (by omega) 6; rw [Int.toNat_of_nonneg h0] at this; exact this)) (ab (bz rfl) ?_)
 refine cl8 (k := 1) (cs := [vs [], nilS, nilS, vi 0, nilS, vi 0]) (ds := [d]) M6 rfl rfl rfl (by rw [List.getElem?_replicate, if_pos (by omega)]; rfl) (zf (TR.cnt _ s1) (TR.agg _ s1)) rfl (by simp) (fun h7 M7 => aw (ah ?_))
 replace M7 : Mem h7 [⟨.op i5 w5 0, 31, 9, [.agg [vs [], nilS, nilS, nilS, nilS, .os i8 w8 0 (x1 + 1).toNat, nilS, nilS, nilS]]⟩, ⟨.os i8 w8 0 (x1 + 1).toNat, 87, 6, (List.replicate (x1 + 1).toNat zTV).set x1.toNat (.agg [vs [], d, nilS, vi 0, nilS, vi 0])⟩, ⟨.op i4 w4 0, 31, 9, [.agg [vs [], nilS, nilS, nilS, nilS, nilS, nilS, nilS, nilS]]⟩] := M7
 refine ae (ai (ab (gi (k := 0) M7 rfl rfl rfl) ?_))
 refine cz (k := 2) (v := .agg [vs [], nilS, nilS, nilS, nilS, .os i8 w8 0 (x1 + 1).toNat, nilS, nilS, nilS]) M7 rfl rfl rfl rfl (fun h9 M9 => aw (ah ?_))
 replace M9 : Mem h9 [⟨.op i5 w5 0, 31, 9, [.agg [vs [], nilS, nilS, nilS, nilS, .os i8 w8 0 (x1 + 1).toNat, nilS, nilS, nilS]]⟩, ⟨.os i8 w8 0 (x1 + 1).toNat, 87, 6, (List.replicate (x1 + 1).toNat zTV).set x1.toNat (.agg [vs [], d, nilS, vi 0, nilS, vi 0])⟩, ⟨.op i4 w4 0, 31, 9, [.agg [vs [], nilS, nilS, nilS, nilS, .os i8 w8 0 (x1 + 1).toNat, nilS, nilS, nilS]]⟩] := M9
 have hA : All2 ax.t.R (ownP x0 x1).Tables ((List.replicate (x1 + 1).toNat zTV).set x1.toNat (.agg [vs [], d, nilS, vi 0, nilS, vi 0])) := (All2.rep ds1 _).set ⟨_, _, _, rfl, s1, gq, gq⟩
 obtain ⟨r, d1, s2⟩ := bj1 (P := Tryz.prog) (M9.at (k := 1) rfl) rfl hA.clo
 have cl : ∀ v, closed v = true → DeepC Tryz.prog h9 v v := fun v hv => eg hv
 refine fc (.cell rfl (ga (k := 2) M9 rfl rfl) .nil) (bk4 (ds := [vs [], nilS, nilS, nilS, nilS, r, nilS, nilS, nilS]) ⟨cl _ rfl, cl _ rfl, cl _ rfl, cl _ rfl, cl _ rfl, d1, cl _ rfl, cl _ rfl, cl _ rfl, trivial⟩) ?_
 exact ⟨_, _, _, _, _, _, _, _, rfl, gq, gq, gq, gq, ⟨⟨_, s2, hA⟩, by show ((List.replicate _ _).set _ _).length ≤ _; simp; omega⟩, gq, gq, gq⟩
theorem ef3 {x0 c0 : am} {v0 w0 : PV} (r0 : am.t.R x0 v0) (a0 : am.t.R c0 w0) : FnR Tryz.prog 41 [v0, .fp w0] (vb (il x0.Entry c0.Entry)) := by
 obtain ⟨r, h1, rfl⟩ : ∃ r, FnR Tryz.prog 41 [v0, .fp w0] r ∧ r = vb (il x0.Entry c0.Entry) := by
  refine fnE bv0 (by simp) ?_
  refine ae (ai (ab (db rfl (TR.cnt am.t r0)) (ab (v := vb false) (ak rfl) (aw (ah ?_)))))
  obtain ⟨we, ge, re⟩ := am.g_Entry r0
  obtain ⟨wf, gf, rf⟩ := am.g_Entry a0
  refine ae (ai (ab (bb rfl ge) (ab (ba rfl (TR.cnt _ re) (TR.agg _ re)) (ab (bb rfl gf) (ab (ba rfl (TR.cnt _ rf) (TR.agg _ rf)) ?_)))))
  refine cL (cx1 re rf) rfl rfl (aq (TR.clo _ re) (aq (TR.clo _ rf) bg)) (ab (ak rfl) (aw (ah ?_)))
  exact fc (.tmp rfl .nil) (cj rfl) rfl
 exact h1
theorem ec5 {c0 : am} {w0 : PV} (a0 : am.t.R c0 w0) : (tFn Tryz.prog am.t tB).R (fun r => il r.Entry c0.Entry) (.fn (.func 41) [] [.fp w0]) :=
 ⟨41, [], _, rfl, rfl, by simp [closedL, closed, TR.clo _ a0], fun a va ra => ⟨_, ef3 ra a0, rfl⟩⟩
theorem ed7 {x0 : bm} {v0 : PV} (r0 : bm.t.R x0 v0) : FnR Tryz.prog 83 [v0] (vb (decide (x0.Kind = 2))) := by
 obtain ⟨r, h1, rfl⟩ : ∃ r, FnR Tryz.prog 83 [v0] r ∧ r = vb (decide (x0.Kind = 2)) := by
  refine fnE ca8 (by simp) ?_
  refine ae (ai (ab (db rfl (TR.cnt bm.t r0)) (ab (v := vb false) (ak rfl) (aw (ah ?_)))))
  refine ae (ai (ab (bb rfl (bm.g_Kind r0)) (ab (ba rfl rfl rfl) (ab (bd rfl rfl ld) (ab (ak rfl) (aw (ah ?_)))))))
  exact fc (.tmp rfl .nil) (cj rfl) rfl
 exact h1
theorem ec3 : (tFn Tryz.prog bm.t tB).R (fun k => decide (k.Kind = 2)) (.fn (.func 83) [] []) :=
 ⟨83, [], [], rfl, rfl, rfl, fun a va ra => ⟨_, ed7 ra, rfl⟩⟩
def nilP : PV := .sc (.pointer none)
def trF : Tr → PV
 | .nil => nilP
 | .node l r s v => .fp (.agg [trF l, trF r, vb s, vi v])
def TrM : Tr → PV → List Ent → Prop
 | .nil, p, L => p = nilP ∧ L = []
 | .node l r s v, p, L => ∃ id ver pl pr Ll Lr, p = .op id ver 0 ∧ L = ⟨.op id ver 0, 151, 4, [.agg [pl, pr, vb s, vi v]]⟩ :: (Ll ++ Lr) ∧ TrM l pl Ll ∧ TrM r pr Lr
theorem ac5 : ∀ t, closed (trF t) = true
 | .nil => rfl
 | .node l r s v => by simp [trF, closed, closedL, ac5 l, ac5 r]
theorem ab5 : ∀ t, cnt (trF t) = some 1
 | .nil => rfl
 | .node _ _ _ _ => rfl
theorem ab8 : ∀ t, (trF t).isAgg = false
 | .nil => rfl
 | .node _ _ _ _ => rfl
theorem TrM.cnt {t : Tr} {p : PV} {L : List Ent} (H : TrM t p L) : cnt p = some 1 := by
 cases t with
 | nil => rw [H.1]; rfl
 | node l r s v => obtain ⟨_, _, _, _, _, _, rfl, _⟩ := H; rfl
theorem TrM.agg {t : Tr} {p : PV} {L : List Ent} (H : TrM t p L) : p.isAgg = false := by
 cases t with
 | nil => rw [H.1]; rfl
 | node l r s v => obtain ⟨_, _, _, _, _, _, rfl, _⟩ := H; rfl
theorem TrM.deep {P : Program} {h : Heap} {L0 : List Ent} (M : Mem h L0) : ∀ {t : Tr} {p : PV} {L : List Ent}, TrM t p L → (∀ e ∈ L, e ∈ L0) → DeepC P h p (trF t)
 | .nil, p, L, H, _ => by rw [H.1]; exact eg rfl
 | .node l r s v, p, L, H, hs => by
  obtain ⟨id, ver, pl, pr, Ll, Lr, rfl, rfl, h1, h2⟩ := H
  obtain ⟨k, hk⟩ := List.getElem?_of_mem (hs _ List.mem_cons_self)
  exact bi9 M hk ⟨TrM.deep M h1 fun e he => hs e (by simp [he]), TrM.deep M h2 fun e he => hs e (by simp [he]), eg rfl, eg rfl, trivial⟩
theorem au3 {P : Program} {h : Heap} {v d : PV} (H : DeepC P h v d) : DeepC P h (.fp v) (.fp d) := by
 refine ⟨H.1, rfl, fun k hk w0 F0 x us R hv => ?_⟩
 simp only [VRC] at hv ⊢
 obtain ⟨b, o, xs, rfl, hF, hc, hr⟩ := hv
 exact ⟨b, o, xs, rfl, (VRC_sees (P := P) (nq R) (.fp (.agg [])) _ rfl (by simp only [VRC]; exact ⟨b, o, [], rfl, hF, by intro j u hj; simp at hj, trivial⟩) |> fun q => by simp only [VRC] at q; obtain ⟨b', o', xs', e, hF', _⟩ := q; simp at e; rw [e.1]; exact hF'), hc, H.2.2 k hk w0 F0 x xs R hr⟩
def triP (w : Int) (p : PV) : PV := .fp (.agg [vi w, p])
theorem ar3 {P : Program} {h : Heap} {L0 : List Ent} (M : Mem h L0) {t : Tr} {p : PV} {L : List Ent} {w : Int} (H : TrM t p L) (hs : ∀ e ∈ L, e ∈ L0) : Deep P h (triP w p) (triP w (trF t)) :=
 (au3 (v := .agg [vi w, p]) (d := .agg [vi w, trF t]) ⟨by simp [closed, closedL, ac5], rfl, fun k hk w0 F0 x us R hv => by
  have H2 : DeepCL P h [vi w, p] [vi w, trF t] := ⟨eg rfl, TrM.deep M H hs, trivial⟩
  simp only [VRC] at hv ⊢
  exact H2.vrl hk R hv⟩).deep
theorem bw1 {w : Int} {l r : Tr} {s : Bool} {v : Int} : FnR Tryz.prog 96 [triP w (trF (.node l r s v))] (vb true) := by
 obtain ⟨r', h1, rfl⟩ : ∃ r', FnR Tryz.prog 96 [triP w (trF (.node l r s v))] r' ∧ r' = vb true := by
  refine fnE bv5 (by simp) ?_
  refine ae (ai (ab (v := vb false) (ak rfl) (aw (ah ?_))))
  refine ae (ai (ab (ak rfl) (ab (v := vb true) (bd rfl rfl rfl) (ab (ak rfl) ?_))))
  refine af rfl rfl (ak rfl) (af rfl rfl (bv rfl rfl) (af rfl rfl (bb (w := trF (.node l r s v)) rfl rfl) (af rfl rfl (ba rfl rfl rfl) ?_)))
  refine af rfl rfl (v := vb true) (bd rfl rfl rfl) (ab (v := vb true) (lr rfl rfl rfl rfl) (ab (ak rfl) (aw (ah ?_))))
  exact fc (.tmp rfl .nil) (cj rfl) rfl
 exact h1
theorem bq5 {w : Int} {p : PV} {x : BitVec 32} {n : Int} (hp : cnt p = some 1) (ha : p.isAgg = false) : FnR Tryz.prog 97 [triP w p, da x, vi n] (vb (pfx w x n)) := by
 obtain ⟨r', h1, rfl⟩ : ∃ r', FnR Tryz.prog 97 [triP w p, da x, vi n] r' ∧ r' = vb (pfx w x n) := by
  refine fnE bu4 (by simp) ?_
  refine ae (ai (ab (v := vb false) (ak rfl) (aw (ah ?_))))
  refine ae (ai (ab (ak rfl) (ab (v := vb (decide (0 ≤ n))) (bd rfl rfl od) (ab (ak rfl) ?_))))
  refine bt 7 (d := 16) (v := vb (decide (0 ≤ n) && decide (n ≤ w))) ?_ ?_
  ·intro S Q r
   cases decide (0 ≤ n)
   ·exact gN 6 rfl rfl rfl rfl rfl rfl
   ·intro k
    refine af rfl rfl (ak rfl) (af rfl rfl (ak rfl) (af rfl rfl (bv rfl rfl) (af rfl rfl (bb (w := vi w) rfl rfl) (af rfl rfl (ba rfl rfl rfl) (af rfl rfl (bd rfl rfl at5) ?_)))))
    exact gK rfl rfl rfl rfl rfl k
  refine mV rfl ?_
  refine bt 7 (d := 24) (v := vb (pfx w x n)) ?_ ?_
  ·intro S Q r
   unfold pfx
   cases (decide (0 ≤ n) && decide (n ≤ w))
   ·exact gN 6 rfl rfl rfl rfl rfl rfl
   ·intro k
    refine af rfl rfl (ak rfl) (af rfl rfl (ak rfl) (af rfl rfl (bv rfl rfl) (af rfl rfl (bb (w := vi w) rfl rfl) (af rfl rfl (ba rfl rfl rfl) ?_))))
    refine fw rfl rfl (mc rfl rfl (aq rfl (aq rfl bg)) ad8) ?_
    exact gK rfl rfl rfl rfl rfl k
  refine ab (ak rfl) (aw (ah ?_))
  exact fc (.tmp rfl .nil) (cj rfl) rfl
 exact h1
theorem bs7 {w : Int} {p : PV} {x : BitVec 32} {d : Int} (h0 : 0 ≤ d) (h1 : d < w) (h2 : w ≤ 32) : FnR Tryz.prog 98 [triP w p, da x, vi d] (da (bitT w x d)) := by
 obtain ⟨r', h1, rfl⟩ : ∃ r', FnR Tryz.prog 98 [triP w p, da x, vi d] r' ∧ r' = da (bitT w x d) := by
  refine fnE bu0 (by simp) ?_
  refine ae (ai (ab (v := da 0#32) (ak rfl) (aw (ah ?_))))
  have e1 : wr (w - 1) = w - 1 := dt (by omega) (by omega)
  have e2 : wr (w - 1 - d) = w - 1 - d := dt (by omega) (by omega)
  refine ae (ai (ab (ak rfl) (ab (ak rfl) (ab (bv rfl rfl) (ab (bb (w := vi w) rfl rfl) (ab (ba rfl rfl rfl) ?_))))))
  refine ab (v := vi (w - 1)) (bd rfl rfl (by rw [← e1]; exact ak8)) (ab (ak rfl) (ab (v := vi (w - 1 - d)) (bd rfl rfl (by rw [← e2]; exact ak8)) ?_))
  refine ab (bd rfl rfl (bf7 (by omega))) (ab (bd (b := da 1#32) rfl rfl at8) (ab (ak rfl) (aw (ah ?_))))
  exact fc (.tmp rfl .nil) (cj rfl) rfl
 exact h1
def Zip (p0 : PV) (R0 : List Ent) (b : PV) (R : List Ent) (plug : Tr → Tr) : Prop := ∀ s Ls, TrM s b Ls → ∃ L', TrM (plug s) p0 L' ∧ (Ls ++ R).Perm (L' ++ R0)
theorem bw4 (p0 : PV) (R0 : List Ent) : Zip p0 R0 p0 R0 id := fun s Ls H => ⟨Ls, H, .refl _⟩
theorem dw8 {p0 : PV} {R0 R : List Ent} {plug : Tr → Tr} {id ver : Nat} {pl pr : PV} {Lr : List Ent} {r : Tr} {s : Bool} {v : Int} (Z : Zip p0 R0 (.op id ver 0) R plug) (hr : TrM r pr Lr) : Zip p0 R0 pl (⟨.op id ver 0, 151, 4, [.agg [pl, pr, vb s, vi v]]⟩ :: (Lr ++ R)) fun q => plug (.node q r s v) := fun q Ls H => by
 obtain ⟨L', h1, h2⟩ := Z (.node q r s v) _ ⟨id, ver, pl, pr, Ls, Lr, rfl, rfl, H, hr⟩
 refine ⟨L', h1, .trans ?_ h2⟩
 classical exact List.perm_iff_count.2 fun a => by simp only [List.count_append, List.count_cons, List.cons_append]; omega
theorem dr0 {p0 : PV} {R0 R : List Ent} {plug : Tr → Tr} {id ver : Nat} {pl pr : PV} {Ll : List Ent} {l : Tr} {s : Bool} {v : Int} (Z : Zip p0 R0 (.op id ver 0) R plug) (hl : TrM l pl Ll) : Zip p0 R0 pr (⟨.op id ver 0, 151, 4, [.agg [pl, pr, vb s, vi v]]⟩ :: (Ll ++ R)) fun q => plug (.node l q s v) := fun q Ls H => by
 obtain ⟨L', h1, h2⟩ := Z (.node l q s v) _ ⟨id, ver, pl, pr, Ll, Ls, rfl, rfl, hl, H⟩
 refine ⟨L', h1, .trans ?_ h2⟩
 classical exact List.perm_iff_count.2 fun a => by simp only [List.count_append, List.count_cons, List.cons_append]; omega
theorem ar4 {P : Program} {h : Heap} {p0 b : PV} {R0 R Ls : List Ent} {plug : Tr → Tr} {s : Tr} {w : Int} (Z : Zip p0 R0 b R plug) (H : TrM s b Ls) (M : Mem h (Ls ++ R)) : Deep P h (triP w p0) (triP w (trF (plug s))) := by
 obtain ⟨L', h1, h2⟩ := Z s Ls H
 exact ar3 (M.perm h2) h1 fun e he => by simp [he]
theorem dj3 {w : Int} {h : Heap} {R : List Ent} (hm : dl w ≠ 0#32) (M : Mem h R) : ∃ r h', FnX Tryz.prog 85 [vi w] h r h' ∧ ∃ p L, r = .tup [triP w p, vi 0] ∧ TrM (.node .nil .nil false 0) p L ∧ Mem h' (L ++ R) := by
 refine fnX bx3 (by simp) ?_
 refine ae (ai (ab (v := nilP) (ak rfl) (ab (v := vi 0) (ak rfl) (aw (ah ?_)))))
 refine ae (ae (ai (ab (ak rfl) (cL uz rfl rfl (aq rfl bg) ?_))))
 refine ab (v := vb (decide (dl w = 0#32))) (bd (b := da 0#32) rfl rfl bb7) (aw (ah (bf rfl (fun hc => ?_) fun hc => ?_)))
 ·simp only [decide_eq_true_eq] at hc; exact absurd hc hm
 ·refine az (ah (ae (ai (ab (ak rfl) ?_))))
  refine ab (v := .agg [nilP, nilP, vb false, vi 0]) (nj (cs := [nilP, nilP, vb false, vi 0]) rfl rfl) ?_
  refine xr M rfl rfl (fun i9 w9 h9 M9 => ?_)
  refine ab (v := .agg [vi w, .op i9 w9 0]) (nj (cs := [vi w, .op i9 w9 0]) rfl rfl) (ab (db rfl rfl) (ab (ak rfl) (ab (v := vi 0) (ak rfl) (aw (ah ?_)))))
  exact ml (.tmp rfl (.tmp rfl .nil)) ⟨.op i9 w9 0, _, rfl, ⟨i9, w9, nilP, nilP, [], [], rfl, rfl, ⟨rfl, rfl⟩, ⟨rfl, rfl⟩⟩, M9⟩
theorem ay4 {S : List Fr} {Q : Post} {w n i : Int} {x : BitVec 32} {p0 : PV} {R0 : List Ent} {res : Tr} (hn : n ≤ w) (hw : w ≤ 32)
  (K : ∀ {h : Heap} {b : PV} {Ls R : List Ent} {l r : Tr} {s : Bool} {v : Int} {plug : Tr → Tr}, TrM (.node l r s v) b Ls → Zip p0 R0 b R plug → plug (fin i (.node l r s v)) = res → Mem h (Ls ++ R) → PX Tryz.prog 1 S Q [(9, b), (3, vi i)] h) :
  ∀ (m : Nat) {d : Int} {h : Heap} {b : PV} {Ls R : List Ent} {l r : Tr} {s : Bool} {v : Int} {plug : Tr → Tr}, m = (n - d).toNat → 0 ≤ d → d ≤ n → TrM (.node l r s v) b Ls → Zip p0 R0 b R plug → plug (ins w x i m d (.node l r s v)) = res → Mem h (Ls ++ R) →
   RC Tryz.prog (.loop al9) S Q [(27, vi d), (26, vi n), (9, b), (3, vi i), (1, da x), (0, triP w p0)] h
 | 0, d, h, b, Ls, R, l, r, s, v, plug, hm, h0, h1, HT, Z, hp, M => by
  refine br ?_
  refine ae (ai (ab (bd rfl rfl ck) (aw (ah (ae (bf rfl (fun hc => ?_) fun hc => ?_))))))
  ·simp only [decide_eq_true_eq] at hc; omega
  ·exact di (dv (ct (wP (K HT Z hp M) rfl)))
 | m + 1, d, h, b, Ls, R, l, r, s, v, plug, hm, h0, h1, HT, Z, hp, M => by
  have hlt : d < n := by omega
  refine br ?_
  refine ae (ai (ab (bd rfl rfl ck) (aw (ah (ae (bf rfl (fun hc => ?_) fun hc => ?_))))))
  ·refine az (ah (ae (bh (ae (ai (ab (ak rfl) (ab (ak rfl) (aw (ah ?_)))))))))
   have hinc : wr (d + 1) = d + 1 := dt (by omega) (by omega)
   have hz := ar4 (P := Tryz.prog) (w := w) Z HT M
   refine ae (ai (ab (ak rfl) (ab (ak rfl) (ab (ak rfl) ?_))))
   refine px (v := da (bitT w x d)) (uw rfl rfl (ny hz (ny (cj rfl) (ny (cj rfl) yr))) (bs7 h0 (by omega) hw) rfl) (ab (ak rfl) (aw (ah ?_)))
   obtain ⟨id, ver, pl, pr, Ll, Lr, rfl, rfl, hl, hr⟩ := HT
   rcases aa3 w x d with hb | hb
   ·rw [hb]
    have a1 : plug (.node (ins w x i m (d + 1) (mk l)) r s v) = res := by rw [← hp, ins, hb]; rfl
    have a0 : ∀ {h' : Heap} {q : PV} {Lq : List Ent} {l' r' : Tr} {s' : Bool} {v' : Int}, mk l = .node l' r' s' v' → TrM (.node l' r' s' v') q Lq → Mem h' (⟨.op id ver 0, 151, 4, [.agg [q, pr, vb s, vi v]]⟩ :: (Lq ++ (Lr ++ R))) →
      RC Tryz.prog (.loop al9) S Q [(27, vi (d + 1)), (26, vi n), (9, q), (3, vi i), (1, da x), (0, triP w p0)] h' := fun {h' q Lq l' r' s' v'} em H' M' =>
     ay4 hn hw K m (plug := fun q => plug (.node q r s v)) (by omega) (by omega) (by omega) H' (dw8 Z hr) (by rw [em] at a1; exact a1) (M'.perm (by classical exact List.perm_iff_count.2 fun a => by simp only [List.count_append, List.count_cons, List.cons_append]; omega))
    replace M : Mem h (⟨.op id ver 0, 151, 4, [.agg [pl, pr, vb s, vi v]]⟩ :: (Ll ++ Lr ++ R)) := M
    refine ae (ae (ai (ab (ak rfl) (ab (ak rfl) (ab (bv rfl rfl) (ab (bz rfl) (ab (v := .op id ver (0 + 0 + 0 * 1)) (mn rfl rfl rfl) ?_)))))))
    refine ab (dg (k := 0) (off := 0) (w := pl) M rfl rfl (by have e1 := TrM.agg hl; exact mk1 e1)) ?_
    cases l with
    | nil =>
     obtain ⟨rfl, rfl⟩ := hl
     refine ab (v := vb true) (bd rfl rfl rfl) (aw (ah (bf rfl (fun hd => ?_) fun hd => by cases hd)))
     refine ai (ab (ak rfl) (ab (ak rfl) ?_))
     refine ab (v := .agg [nilP, nilP, vb false, vi 0]) (nj (cs := [nilP, nilP, vb false, vi 0]) rfl rfl) ?_
     refine xr M rfl rfl (fun i2 w2 h2 M2 => ?_)
     refine ab (bv rfl rfl) (ab (bz rfl) (ab (v := .op id ver (0 + 0 + 0 * 1)) (mn rfl rfl rfl) ?_))
     refine mr (k := 1) (off := 0) (v := .op i2 w2 0) M2 rfl rfl rfl rfl rfl (by simp) (fun h3 M3 => aw (ah ?_))
     replace M3 : Mem h3 (⟨.op i2 w2 0, 151, 4, [.agg [nilP, nilP, vb false, vi 0]]⟩ :: ⟨.op id ver 0, 151, 4, [.agg [.op i2 w2 0, pr, vb s, vi v]]⟩ :: ([] ++ Lr ++ R)) := M3
     refine ai (ab (ak rfl) (ab (ak rfl) (ab (bv rfl rfl) (ab (bz rfl) (ab (v := .op id ver (0 + 0 + 0 * 1)) (mn rfl rfl rfl) ?_)))))
     refine ab (dg (k := 1) (off := 0) (w := .op i2 w2 0) M3 rfl rfl rfl) (ab (ak rfl) (aw (dc (ah ?_))))
     refine ai (ab (bd rfl rfl dz) (ab (ak rfl) (aw (cq ?_))))
     refine mf ?_ (a0 rfl ⟨i2, w2, nilP, nilP, [], [], rfl, rfl, ⟨rfl, rfl⟩, ⟨rfl, rfl⟩⟩ (M3.perm (by classical exact List.perm_iff_count.2 fun a => by simp only [List.count_append, List.count_cons, List.count_nil, List.cons_append]; omega)))
     exact kx (by show some (vi (wr (d + 1))) = _; rw [hinc]) (sB rfl)
    | node l1 r1 s1 v1 =>
     have a2 := hl
     obtain ⟨ia, va, pa, pb, La, Lb, rfl, rfl, ha, hb'⟩ := a2
     refine ab (v := vb false) (bd rfl rfl rfl) (aw (ah (bf rfl (fun hd => by cases hd) fun hd => ?_)))
     refine az (ah ?_)
     refine ai (ab (ak rfl) (ab (ak rfl) (ab (bv rfl rfl) (ab (bz rfl) (ab (v := .op id ver (0 + 0 + 0 * 1)) (mn rfl rfl rfl) ?_)))))
     refine ab (dg (k := 0) (off := 0) (w := .op ia va 0) M rfl rfl rfl) (ab (ak rfl) (aw (dc (ah ?_))))
     refine ai (ab (bd rfl rfl dz) (ab (ak rfl) (aw (cq ?_))))
     refine mf ?_ (a0 rfl hl (M.perm (by classical exact List.perm_iff_count.2 fun a => by simp only [List.count_append, List.count_cons, List.cons_append]; omega)))
     exact kx (by show some (vi (wr (d + 1))) = _; rw [hinc]) (sB rfl)
   ·rw [hb]
    have a1 : plug (.node l (ins w x i m (d + 1) (mk r)) s v) = res := by rw [← hp, ins, hb]; rfl
    have a0 : ∀ {h' : Heap} {q : PV} {Lq : List Ent} {l' r' : Tr} {s' : Bool} {v' : Int}, mk r = .node l' r' s' v' → TrM (.node l' r' s' v') q Lq → Mem h' (⟨.op id ver 0, 151, 4, [.agg [pl, q, vb s, vi v]]⟩ :: (Lq ++ (Ll ++ R))) →
      RC Tryz.prog (.loop al9) S Q [(27, vi (d + 1)), (26, vi n), (9, q), (3, vi i), (1, da x), (0, triP w p0)] h' := fun {h' q Lq l' r' s' v'} em H' M' =>
     ay4 hn hw K m (plug := fun q => plug (.node l q s v)) (by omega) (by omega) (by omega) H' (dr0 Z hl) (by rw [em] at a1; exact a1) (M'.perm (by classical exact List.perm_iff_count.2 fun a => by simp only [List.count_append, List.count_cons, List.cons_append]; omega))
    replace M : Mem h (⟨.op id ver 0, 151, 4, [.agg [pl, pr, vb s, vi v]]⟩ :: (Ll ++ Lr ++ R)) := M
    refine ae (ae (ai (ab (ak rfl) (ab (ak rfl) (ab (bv rfl rfl) (ab (bz rfl) (ab (v := .op id ver (0 + 0 + 1 * 1)) (mn rfl rfl rfl) ?_)))))))
    refine ab (dg (k := 0) (off := 1) (w := pr) M rfl rfl (by have e1 := TrM.agg hr; exact mk1 e1)) ?_
    cases r with
    | nil =>
     obtain ⟨rfl, rfl⟩ := hr
     refine ab (v := vb true) (bd rfl rfl rfl) (aw (ah (bf rfl (fun hd => ?_) fun hd => by cases hd)))
     refine ai (ab (ak rfl) (ab (ak rfl) ?_))
     refine ab (v := .agg [nilP, nilP, vb false, vi 0]) (nj (cs := [nilP, nilP, vb false, vi 0]) rfl rfl) ?_
     refine xr M rfl rfl (fun i2 w2 h2 M2 => ?_)
     refine ab (bv rfl rfl) (ab (bz rfl) (ab (v := .op id ver (0 + 0 + 1 * 1)) (mn rfl rfl rfl) ?_))
     refine mr (k := 1) (off := 1) (v := .op i2 w2 0) M2 rfl rfl rfl rfl rfl (by simp) (fun h3 M3 => aw (ah ?_))
     replace M3 : Mem h3 (⟨.op i2 w2 0, 151, 4, [.agg [nilP, nilP, vb false, vi 0]]⟩ :: ⟨.op id ver 0, 151, 4, [.agg [pl, .op i2 w2 0, vb s, vi v]]⟩ :: (Ll ++ [] ++ R)) := M3
     refine ai (ab (ak rfl) (ab (ak rfl) (ab (bv rfl rfl) (ab (bz rfl) (ab (v := .op id ver (0 + 0 + 1 * 1)) (mn rfl rfl rfl) ?_)))))
     refine ab (dg (k := 1) (off := 1) (w := .op i2 w2 0) M3 rfl rfl rfl) (ab (ak rfl) (aw (dc (ah ?_))))
     refine ai (ab (bd rfl rfl dz) (ab (ak rfl) (aw (cq ?_))))
     refine mf ?_ (a0 rfl ⟨i2, w2, nilP, nilP, [], [], rfl, rfl, ⟨rfl, rfl⟩, ⟨rfl, rfl⟩⟩ (M3.perm (by classical exact List.perm_iff_count.2 fun a => by simp only [List.count_append, List.count_cons, List.count_nil, List.cons_append]; omega)))
     exact kx (by show some (vi (wr (d + 1))) = _; rw [hinc]) (sB rfl)
    | node l1 r1 s1 v1 =>
     have a2 := hr
     obtain ⟨ia, va, pa, pb, La, Lb, rfl, rfl, ha, hb'⟩ := a2
     refine ab (v := vb false) (bd rfl rfl rfl) (aw (ah (bf rfl (fun hd => by cases hd) fun hd => ?_)))
     refine az (ah ?_)
     refine ai (ab (ak rfl) (ab (ak rfl) (ab (bv rfl rfl) (ab (bz rfl) (ab (v := .op id ver (0 + 0 + 1 * 1)) (mn rfl rfl rfl) ?_)))))
     refine ab (dg (k := 0) (off := 1) (w := .op ia va 0) M rfl rfl rfl) (ab (ak rfl) (aw (dc (ah ?_))))
     refine ai (ab (bd rfl rfl dz) (ab (ak rfl) (aw (cq ?_))))
     refine mf ?_ (a0 rfl hr (M.perm (by classical exact List.perm_iff_count.2 fun a => by simp only [List.count_append, List.count_cons, List.cons_append]; omega)))
     exact kx (by show some (vi (wr (d + 1))) = _; rw [hinc]) (sB rfl)
  ·simp only [decide_eq_false_iff_not] at hc; omega
theorem cv9 {w n i : Int} {x : BitVec 32} {h : Heap} {R L : List Ent} {p : PV} {l r : Tr} {s : Bool} {v : Int} (HT : TrM (.node l r s v) p L) (M : Mem h (L ++ R)) (hw : w ≤ 32) :
  ∃ r' h', FnX Tryz.prog 87 [triP w p, da x, vi n, vi i] h r' h' ∧ ∃ L', TrM (insT w x n i (.node l r s v)) p L' ∧ Mem h' (L' ++ R) := by
 refine fnX bs9 (by simp) ?_
 have hz := ar4 (P := Tryz.prog) (w := w) (bw4 p R) HT M
 refine ae (ai (ab (v := vi 0) (ak rfl) (aw (ah ?_))))
 refine ae (bh (ae (ai (ab (ak rfl) ?_))))
 refine px (v := vb true) (uw rfl rfl (ny hz yr) bw1 rfl) (ab (ft (k := true) rfl) (ab (ak rfl) (aw (ah (bf rfl (fun hd => by cases hd) fun hd => ?_)))))
 refine ae (ai (ab (ak rfl) (ab (ak rfl) (ab (ak rfl) ?_))))
 refine px (v := vb (pfx w x n)) (uw rfl rfl (ny hz (ny (cj rfl) (ny (cj rfl) yr))) (bq5 (ab5 _) (ab8 _)) rfl) (ab (ft rfl) (ab (ak rfl) (aw (ah (bf rfl (fun hd => ?_) fun hd => ?_)))))
 ·have hd : pfx w x n = false := by simpa using hd
  refine ae (ai (ab (v := vi 9) (ak rfl) (aw (ah ?_))))
  refine ml (.tmp rfl .nil) ⟨L, ?_, M⟩
  unfold insT
  rw [if_neg (by rw [hd]; simp)]
  exact HT
 ·have hd : pfx w x n = true := by simpa using hd
  have a2 := hd
  simp only [pfx, Bool.and_eq_true, decide_eq_true_eq] at a2
  refine az (dc (ah (ae (ai (ab (ak rfl) (ab (bv rfl rfl) (ab (bb (w := p) rfl (mk1 (TrM.agg HT))) (ab (ba rfl (TrM.cnt HT) (TrM.agg HT)) (ab (ak rfl) (aw (ah ?_)))))))))))
  refine ae (ae (ai (ab (ak rfl) (ab (v := vi 0) (ak rfl) (aw (ah (bh ?_)))))))
  refine wC (ay4 (x := x) (i := i) (n := n) (w := w) (res := insT w x n i (.node l r s v)) (by omega) hw ?_ n.toNat (d := 0) (by omega) (by omega) (by omega) HT (bw4 p R) (by unfold insT; rw [if_pos hd]; rfl) M) rfl
  ·intro h1 b Ls R1 l1 r1 s1 v1 plug H1 Z1 a0 M1
   obtain ⟨id, ver, pl, pr, Ll, Lr, rfl, rfl, hl, hr⟩ := H1
   have a1 : Mem h1 (⟨.op id ver 0, 151, 4, [.agg [pl, pr, vb s1, vi v1]]⟩ :: (Ll ++ Lr ++ R1)) := M1
   refine fa (ah (ae (ae (ai (ab (ak rfl) (ab (bv rfl rfl) (ab (bz rfl) (ab (dg (k := 0) (off := 2) (w := vb s1) a1 rfl rfl rfl) (aw (ah (bf rfl (fun he => ?_) fun he => ?_)))))))))))
   ·refine ae (ai (ab (v := vi 7) (ak rfl) (aw (ah ?_))))
    obtain ⟨L', h2, h3⟩ := Z1 (.node l1 r1 s1 v1) _ (show TrM (.node l1 r1 s1 v1) _ _ from ⟨id, ver, pl, pr, Ll, Lr, rfl, rfl, hl, hr⟩)
    refine ml (.tmp rfl .nil) ⟨L', ?_, M1.perm h3⟩
    rw [← a0]
    rw [dw3 he]
    exact h2
   ·refine az (ah (ae (ai (ab (ak rfl) (ab (ak rfl) (ab (ak rfl) (ab (bv rfl rfl) (ab (bz rfl) ?_))))))))
    refine mr (k := 0) (off := 2) (v := vb true) a1 rfl rfl rfl rfl rfl (by simp) (fun h3 M3 => ?_)
    refine ab (bv rfl rfl) (ab (bz rfl) ?_)
    refine mr (k := 0) (off := 3) (cs := [pl, pr, vb true, vi v1]) (v := vi i) M3 rfl rfl rfl rfl rfl (by simp) (fun h4 M4 => aw (ah ?_))
    refine ae (ai (ab (v := vi 0) (ak rfl) (aw (ah ?_))))
    obtain ⟨L', h2, h5⟩ := Z1 (.node l1 r1 true i) _ (show TrM (.node l1 r1 true i) _ _ from ⟨id, ver, pl, pr, Ll, Lr, rfl, rfl, hl, hr⟩)
    refine ml (.tmp rfl .nil) ⟨L', ?_, Mem.perm M4 h5⟩
    rw [← a0]
    rw [dx5 he]
    exact h2
theorem am6 (w : Int) (t : Tr) : closed (triP w (trF t)) = true := by simp [triP, closed, closedL, ac5]
theorem eb6 (l r : Tr) : iaddrAR 2 1 false (.fp (.agg [trF l, trF r])) (da 0#32) = some (.fp (trF l)) := by cases l <;> rfl
theorem ee9 (l r : Tr) : iaddrAR 2 1 false (.fp (.agg [trF l, trF r])) (da 1#32) = some (.fp (trF r)) := by cases r <;> rfl
theorem az6 {S : List Fr} {Q : Post} {w : Int} {x : BitVec 32} {p : PV} {res : Int × Int × Bool} (hw : w ≤ 32) (hpc : closed (triP w p) = true)
  (K : PX Tryz.prog 0 S Q [(6, vb res.2.2), (5, vi res.2.1), (4, vi res.1)] ⟨0, []⟩) : ∀ (t : Tr) {d : Int} {a : Int × Int × Bool}, 0 ≤ d → d ≤ w → (t ≠ .nil ∨ d ≤ w) → lkT w x t d a = res →
   RC Tryz.prog (.loop cm7) S Q [(8, vi d), (7, trF t), (6, vb a.2.2), (5, vi a.2.1), (4, vi a.1), (1, da x), (0, triP w p)] ⟨0, []⟩
 | .nil, d, a, h0, h1, _, hp => by
  refine br ?_
  refine ae (ai (ab (ak rfl) (ab (v := vb false) (bd rfl rfl rfl) (aw (ah (ae (bf rfl (fun hc => by cases hc) fun hc => ?_)))))))
  have hp : a = res := hp
  subst hp
  exact di (dv (ct (wP K rfl)))
 | .node l r s v, d, a, h0, h1, _, hp => by
  refine br ?_
  refine ae (ai (ab (ak rfl) (ab (v := vb true) (bd rfl rfl rfl) (aw (ah (ae (bf rfl (fun hc => ?_) fun hc => by cases hc)))))))
  refine az (ah (ae (bh (ae (ae (ai (ab (ak rfl) (ab (bv rfl rfl) (ab (bb (w := vb s) rfl rfl) (ab (ba rfl rfl rfl) (aw (ah ?_))))))))))))
  refine xm (F := fun b S Q => ∀ (a' : Int × Int × Bool), a' = (if s = true then (v, d, true) else a) → RC Tryz.prog b S Q [(8, vi d), (7, trF (.node l r s v)), (6, vb a'.2.2), (5, vi a'.2.1), (4, vi a'.1), (1, da x), (0, triP w p)] ⟨0, []⟩) ?_ ?_
  ·intro a' ha
   rw [lkT, ← ha] at hp
   have hinc : d < w → wr (d + 1) = d + 1 := fun h => dt (by omega) (by omega)
   refine ae (ae (ai (ab (ak rfl) (ab (ak rfl) (ab (bv rfl rfl) (ab (bb (w := vi w) rfl rfl) (ab (ba rfl rfl rfl) (ab (bd rfl rfl ld) (aw (ah (bf rfl (fun he => ?_) fun he => ?_)))))))))))
   ·simp only [decide_eq_true_eq] at he
    rw [if_pos he] at hp
    subst hp
    exact di (dv (dr9 rfl (dv (ct (wP K rfl)))))
   ·simp only [decide_eq_false_iff_not] at he
    rw [if_neg he] at hp
    have hlt : d < w := by omega
    refine az (ah (ai (ab (ak rfl) (ab (ak rfl) (ab (ak rfl) (ab (ak rfl) ?_))))))
    have f1 := bs7 (w := w) (p := p) (x := x) (d := d) h0 hlt hw
    rcases aa3 w x d with hb | hb
    ·rw [if_pos hb] at hp
     rw [hb] at f1
     refine cL f1 rfl rfl (aq hpc (aq rfl (aq rfl bg))) ?_
     refine ab (bv rfl rfl) (ab (bb (w := .agg [trF l, trF r]) rfl rfl) (ab (v := .fp (trF l)) (mn rfl rfl (eb6 l r)) (ab (ba rfl (ab5 _) (ab8 _)) (ab (ak rfl) (aw (dc (ah ?_)))))))
     refine ai (ab (ak rfl) (ab (bd rfl rfl dz) (ab (ak rfl) (aw (cq ?_)))))
     refine mf ?_ (az6 hw hpc K l (d := d + 1) (a := a') (by omega) (by omega) (.inr (by omega)) hp)
     exact kx (by show some (vi (wr (d + 1))) = _; rw [hinc hlt]) (sB rfl)
    ·rw [if_neg (by rw [hb]; decide)] at hp
     rw [hb] at f1
     refine cL f1 rfl rfl (aq hpc (aq rfl (aq rfl bg))) ?_
     refine ab (bv rfl rfl) (ab (bb (w := .agg [trF l, trF r]) rfl rfl) (ab (v := .fp (trF r)) (mn rfl rfl (ee9 l r)) (ab (ba rfl (ab5 _) (ab8 _)) (ab (ak rfl) (aw (dc (ah ?_)))))))
     refine ai (ab (ak rfl) (ab (bd rfl rfl dz) (ab (ak rfl) (aw (cq ?_)))))
     refine mf ?_ (az6 hw hpc K r (d := d + 1) (a := a') (by omega) (by omega) (.inr (by omega)) hp)
     exact kx (by show some (vi (wr (d + 1))) = _; rw [hinc hlt]) (sB rfl)
  ·intro J
   refine bf rfl (fun hs => ?_) fun hs => ?_
   ·refine ai (ab (ak rfl) (ab (bv rfl rfl) (ab (bb (w := vi v) rfl rfl) (ab (ba rfl rfl rfl) (ab (ak rfl) (ab (ak rfl) (ab (ak rfl) (ab (v := vb true) (ak rfl) (aw (ah ?_))))))))))
    exact wC (J (v, d, true) (by rw [if_pos hs])) rfl
   ·refine az (ah ?_)
    exact wC (J a (by rw [if_neg (by rw [hs]; simp)])) rfl
theorem dd4 {w : Int} {x : BitVec 32} {l r : Tr} {s : Bool} {v : Int} (hw : w ≤ 32) : FnR Tryz.prog 52 [triP w (trF (.node l r s v)), da x] (.tup [vi (lkR w x (.node l r s v)).1, vi (lkR w x (.node l r s v)).2.1, vb (lkR w x (.node l r s v)).2.2]) := by
 generalize hres : lkR w x (.node l r s v) = res
 obtain ⟨r', h1, rfl⟩ : ∃ r', FnR Tryz.prog 52 [triP w (trF (.node l r s v)), da x] r' ∧ r' = .tup [vi res.1, vi res.2.1, vb res.2.2] := by
  refine fnE cb3 (by simp) ?_
  refine ae (ai (ab (v := vi 0) (ak rfl) (ab (v := vi 0) (ak rfl) (ab (v := vb false) (ak rfl) (aw (ah ?_))))))
  refine ae (ae (ai (ab (ak rfl) ?_)))
  refine cL bw1 rfl rfl (aq (am6 _ _) bg) (ab (ft (k := true) rfl) (ab (ak rfl) ?_))
  refine af rfl rfl (ak rfl) (af rfl rfl (ak rfl) ?_)
  refine fw rfl rfl (mc rfl rfl (aq (am6 _ _) (aq rfl (aq rfl bg))) (bq5 (ab5 _) (ab8 _))) ?_
  refine af rfl rfl (ft (k := pfx w x 0) rfl) (ab (v := vb (!pfx w x 0)) (lr rfl rfl rfl rfl) (aw (ah (bf rfl (fun hd => ?_) fun hd => ?_))))
  ·have hd : pfx w x 0 = false := by simpa using hd
   unfold lkR at hres
   rw [if_neg (by rw [hd]; simp)] at hres
   subst hres
   refine ae (ai (ab (v := vi 0) (ak rfl) (ab (v := vi 0) (ak rfl) (ab (v := vb false) (ak rfl) (aw (ah ?_))))))
   exact fc (.tmp rfl (.tmp rfl (.tmp rfl .nil))) (cj rfl) rfl
  ·have hd : pfx w x 0 = true := by simpa using hd
   unfold lkR at hres
   rw [if_pos hd] at hres
   have a0 := hd
   simp only [pfx, Bool.and_eq_true, decide_eq_true_eq] at a0
   refine az (ah (ae (ai (ab (ak rfl) (ab (bv rfl rfl) (ab (bb (w := trF (.node l r s v)) rfl rfl) (ab (ba rfl rfl rfl) (ab (ak rfl) (aw (ah ?_))))))))))
   refine ae (ae (ai (ab (v := vi 0) (ak rfl) (aw (ah (bh ?_))))))
   refine wC (az6 (x := x) (w := w) (p := trF (.node l r s v)) (res := res) hw (am6 _ _) ?_ (.node l r s v) (d := 0) (a := (0, 0, false)) (by omega) (by omega) (.inr (by omega)) hres) rfl
   ·refine fa (ah (ae (ai (ab (ak rfl) (ab (ak rfl) (ab (ak rfl) (ab (ak rfl) (ab (ak rfl) (ab (ak rfl) (aw (ah ?_)))))))))))
    exact fc (.tmp rfl (.tmp rfl (.tmp rfl .nil))) (cj rfl) rfl
 exact h1
theorem by6 : ∀ l : List (BitVec 32), closedL (l.map da) = true
 | [] => rfl
 | _ :: l => by simp [closedL, closed, by6 l]
theorem ar6 {P : Program} {E : TEnv} {h : Heap} {hf : Bool} {x i : Operand} {id ver off len sz : Nat} {agg : Bool} {k : Int} (ex : evE E x = some (.op id ver off)) (ei : evE E i = some (vi k)) (h0 : 0 ≤ k) (h1 : k < len) : OV P (.iaddrA len sz agg x i) hf E h (.op id ver (off + k.toNat * sz)) :=
 ⟨rfl, fun T hT => by
  simp only [opQ, du hT ex, du hT ei]
  rw [if_pos ⟨h0, h1⟩]⟩
def exV (e : Ex) : PV := .agg (vi e.n :: e.v.map da)
theorem ay5 {e : Ex} (h : ExB e) : cnt (exV e) = some 7 := by
 unfold exV cnt
 simp [PV.cellsOf, h.ln]
theorem de1 {n : Int} {l : List (BitVec 32)} {x : BitVec 32} {k : Nat} (hk : k < l.length) : spl (vi n :: l.map da) (1 + k) [da x] = vi n :: (l.set k x).map da := by
 unfold spl
 rw [show 1 + k = k + 1 by omega, List.take_succ_cons, List.cons_append]
 congr 1
 rw [List.map_set, List.set_eq_take_append_cons_drop, if_pos (by simpa using hk)]
 simp
theorem ct5 {S : List Fr} {Q : Post} {x0 : List (BitVec 32)} {x1 : Int} {v0 : PV} (q : (tSl kg).R x0 v0) (hl : x0.length ≤ 1000000) {i4 w4 i5 w5 : Nat} {z4 : PV}
  (K : ∀ {h : Heap}, Mem h [⟨.op i5 w5 0, 90, 7, [exV (pk x0 x1)]⟩, ⟨.op i4 w4 0, 90, 7, [z4]⟩] → PX Tryz.prog 0 S Q [(5, .op i5 w5 0), (4, .op i4 w4 0)] h) :
  ∀ (m : Nat) {i : Int} {st : Ex} {h : Heap}, m = Int.toNat ((x0.length : Int) - i) → 0 ≤ i → i ≤ x0.length → ExB st → pkL x0 x1 m i st = pk x0 x1 → Mem h [⟨.op i5 w5 0, 90, 7, [exV st]⟩, ⟨.op i4 w4 0, 90, 7, [z4]⟩] →
   RC Tryz.prog (.loop bi4) S Q [(10, vi i), (9, vi (x0.length : Int)), (8, v0), (5, .op i5 w5 0), (4, .op i4 w4 0), (1, vi x1)] h
 | 0, i, st, h, hm, h0, h1, hb, hp, M => by
  refine br ?_
  refine ae (ai (ab (bd rfl rfl ck) (aw (ah (ae (bf rfl (fun hc => ?_) fun hc => ?_))))))
  ·simp only [decide_eq_true_eq] at hc; omega
  ·have hp : st = pk x0 x1 := hp
   rw [hp] at M
   exact di (dv (ct (wP (K M) rfl)))
 | m + 1, i, st, h, hm, h0, h1, hb, hp, M => by
  have hlt : i < (x0.length : Int) := by omega
  refine br ?_
  refine ae (ai (ab (bd rfl rfl ck) (aw (ah (ae (bf rfl (fun hc => ?_) fun hc => ?_))))))
  ·refine az (ah (ae (bh (ae (ai (mV rfl ?_))))))
   obtain ⟨g0, e0, q0⟩ := cr (i := i) q h0 hlt
   have q0 : g0 = da (ix x0 i) := q0
   subst q0
   refine ab (bn rfl rfl e0) (ab (ba rfl rfl rfl) (mV rfl (mV rfl (aw (ah ?_)))))
   have fin : ∀ {h' : Heap} {st' : Ex}, ExB st' → pkL x0 x1 m (i + 1) st' = pk x0 x1 → Mem h' [⟨.op i5 w5 0, 90, 7, [exV st']⟩, ⟨.op i4 w4 0, 90, 7, [z4]⟩] →
     RC Tryz.prog (.loop bi4) S Q [(10, vi (i + 1)), (9, vi (x0.length : Int)), (8, v0), (5, .op i5 w5 0), (4, .op i4 w4 0), (1, vi x1)] h' := fun b p M' => ct5 q hl K m (by omega) (by omega) (by omega) b p M'
   have hinc : wr (i + 1) = i + 1 := dt (by omega) (by omega)
   have g0 : fieldR 0 1 false (exV st) = some (vi st.n) := rfl
   refine ae (ai (mV rfl (mV rfl (ab (v := vb (!decide (i = x1))) (bd rfl rfl jc) (mV rfl ?_)))))
   refine bt 4 (d := 22) (v := vb (!decide (i = x1) && decide (st.n < 6))) ?_ ?_
   ·intro S Q r
    cases (!decide (i = x1))
    ·exact gN 3 rfl rfl rfl rfl rfl rfl
    ·intro k
     refine af rfl rfl (bz rfl) (af rfl rfl (dg (k := 0) M rfl rfl g0) (af rfl rfl (bd rfl rfl ck) ?_))
     exact gK rfl rfl rfl rfl rfl k
   refine aw (ah (bf rfl (fun hd => ?_) fun hd => ?_))
   ·have hs : pkS x1 st i (ix x0 i) = ⟨st.n + 1, st.v.set st.n.toNat (ix x0 i)⟩ := by unfold pkS; rw [if_pos hd]
    have a1 : st.n < 6 := by simp only [Bool.and_eq_true, decide_eq_true_eq] at hd; exact hd.2
    have hk : st.n.toNat < st.v.length := by have := hb.ln; have := hb.lo; omega
    have hb' := hb.step (wo := x1) (i := i) (x := ix x0 i)
    rw [pkL, hs] at hp
    rw [hs] at hb'
    refine ae (ai (ab (bz rfl) (ab (dg (k := 0) M rfl rfl g0) (mV rfl (ab (bz rfl) ?_)))))
    refine ab (ar6 rfl rfl hb.lo a1) ?_
    refine mr (off := 1 + st.n.toNat) (k := 0) (v := da (ix x0 i)) M (by show some (PV.op i5 w5 (0 + 1 + st.n.toNat * 1)) = some (PV.op i5 w5 (0 + (1 + st.n.toNat))); rw [show 0 + 1 + st.n.toNat * 1 = 0 + (1 + st.n.toNat) by omega]) rfl rfl rfl rfl (by simp; omega) (fun h2 M2 => aw (ah ?_))
    rw [de1 hk] at M2
    replace M2 : Mem h2 [⟨.op i5 w5 0, 90, 7, [exV ⟨st.n, st.v.set st.n.toNat (ix x0 i)⟩]⟩, ⟨.op i4 w4 0, 90, 7, [z4]⟩] := M2
    have g1 : fieldR 0 1 false (exV ⟨st.n, st.v.set st.n.toNat (ix x0 i)⟩) = some (vi st.n) := rfl
    refine ai (ab (bz rfl) (ab (dg (k := 0) M2 rfl rfl g1) (ab (bd rfl rfl dz) (ab (bz rfl) ?_))))
    have a0 : wr (st.n + 1) = st.n + 1 := dt (by have := hb.lo; omega) (by omega)
    refine mr (off := 0) (k := 0) (v := vi (st.n + 1)) M2 rfl (by show some (vi (wr (st.n + 1))) = _; rw [a0]) rfl rfl rfl (by simp) (fun h3 M3 => aw ?_)
    replace M3 : Mem h3 [⟨.op i5 w5 0, 90, 7, [exV ⟨st.n + 1, st.v.set st.n.toNat (ix x0 i)⟩]⟩, ⟨.op i4 w4 0, 90, 7, [z4]⟩] := M3
    refine dc (ah (ai (ab (bd rfl rfl dz) (mV rfl (aw (cq ?_))))))
    refine mf ?_ (fin hb' hp M3)
    exact kx (by show some (vi (wr (i + 1))) = _; rw [hinc]) (sB rfl)
   ·have hs : pkS x1 st i (ix x0 i) = st := by unfold pkS; rw [if_neg (by rw [hd]; simp)]
    rw [pkL, hs] at hp
    refine az (dc (ah (ai (ab (bd rfl rfl dz) (mV rfl (aw (cq ?_)))))))
    refine mf ?_ (fin hb hp M)
    exact kx (by show some (vi (wr (i + 1))) = _; rw [hinc]) (sB rfl)
  ·simp only [decide_eq_false_iff_not] at hc; omega
theorem bo8 {x0 : List (BitVec 32)} {x1 : Int} {v0 : PV} (r0 : (tSl kg).R x0 v0) (hl : x0.length ≤ 1000000) : FnR Tryz.prog 51 [v0, vi x1] (exV (pk x0 x1)) := by
 obtain ⟨r, h1, rfl⟩ : ∃ r, FnR Tryz.prog 51 [v0, vi x1] r ∧ r = exV (pk x0 x1) := by
  refine fnE br0 (by simp) ?_
  refine ae (ai (dk (x := exV ⟨0, List.replicate 6 0#32⟩) (Mem.nil _) rfl rfl (fun i4 w4 h4 M4 => aw (ah ?_))))
  refine ae (ai (dk (x := exV ⟨0, List.replicate 6 0#32⟩) M4 rfl rfl (fun i5 w5 h5 M5 => aw (ah ?_))))
  have b0 : ExB ⟨0, List.replicate 6 0#32⟩ := ⟨by decide, by decide, rfl⟩
  have hB : ExB (pk x0 x1) := ExB.pkL _ _ b0
  refine ae (ae (ai (mV rfl (ab (ca rfl (bq r0 Tryz.underlying33 _)) (mV rfl (aw (ah (bh ?_))))))))
  refine wC (ct5 (x1 := x1) r0 hl ?_ x0.length (i := 0) (by omega) (by omega) (by omega) b0 rfl M5) rfl
  ·intro h M
   refine fa (ah (ae (ai (ab (gi (k := 0) M rfl rfl rfl) ?_))))
   refine cz (k := 1) (v := exV (pk x0 x1)) M rfl rfl rfl (ay5 hB) (fun h' M' => aw (ah ?_))
   exact fc (.cell rfl (ga (k := 1) M' rfl rfl) .nil) (cj (by simp [exV, closed, closedL]; exact by6 _)) rfl
 exact h1
theorem ao2 : ∀ {a b : List (Value × PV)}, a.map encKV = b.map encKV → a = b
 | [], [], _ => rfl
 | [], _ :: _, h => by simp at h
 | _ :: _, [], h => by simp at h
 | (k, v) :: a, (k', v') :: b, h => by
  simp only [List.map_cons, List.cons.injEq] at h
  have h1 := h.1
  simp only [encKV, PV.agg.injEq, List.cons.injEq, PV.sc.injEq, and_true] at h1
  rw [h1.1, h1.2, ao2 h.2]
def exL (e : Ex) : List Value := .int .i64 e.n :: e.v.map fun x => .int .u32 (x.toNat : Int)
def KS : List IntKind := [.i64, .u32, .u32, .u32, .u32, .u32, .u32]
theorem ai6 : ∀ l : List (BitVec 32), scW (l.map da) = some (l.map fun x => .int .u32 (x.toNat : Int))
 | [] => rfl
 | x :: l => by
  have := ai6 l
  simp only [List.map_cons]
  show (scW (l.map da)).map _ = _
  rw [this]
  rfl
theorem ag2 : ∀ l : List (BitVec 32), numsB (List.replicate l.length .u32) (l.map fun x => .int .u32 (x.toNat : Int)) = true
 | [] => rfl
 | x :: l => by
  simp only [List.length_cons, List.replicate_succ, List.map_cons, numsB, Bool.and_eq_true, beq_self_eq_true, true_and]
  refine ⟨?_, ag2 l⟩
  have := x.isLt
  simp only [Lit.wf, Bool.and_eq_true, decide_eq_true_eq]
  exact ⟨by show (0 : Int) ≤ _; omega, by show (x.toNat : Int) ≤ 4294967295; omega⟩
theorem aa1 {e : Ex} (h : ExB e) : numsB KS (exL e) = true := by
 have := ag2 e.v
 rw [h.ln] at this
 show numsB (.i64 :: List.replicate 6 .u32) (exL e) = true
 simp only [exL, numsB, Bool.and_eq_true, beq_self_eq_true, true_and]
 refine ⟨?_, this⟩
 have := h.lo
 have := h.hi
 simp only [Lit.wf, Bool.and_eq_true, decide_eq_true_eq]
 exact ⟨by show (-9223372036854775808 : Int) ≤ _; omega, by show _ ≤ (9223372036854775807 : Int); omega⟩
theorem bd0 {e : Ex} (h : ExB e) : keyP KS (exV e) = some (exL e) := by
 have h1 : scW (vi e.n :: e.v.map da) = some (exL e) := by
  show (scW (e.v.map da)).map _ = _
  rw [ai6]
  rfl
 simp only [keyP, exV, h1, aa1 h, cond_true]
theorem aj6 : ∀ {a b : List (BitVec 32)}, (a.map fun x => Value.int .u32 (x.toNat : Int)) = (b.map fun x => Value.int .u32 (x.toNat : Int)) → a = b
 | [], [], _ => rfl
 | [], _ :: _, h => by simp at h
 | _ :: _, [], h => by simp at h
 | x :: a, y :: b, h => by
  simp only [List.map_cons, List.cons.injEq, Value.int.injEq, true_and] at h
  have := aj6 h.2
  have e1 : x = y := BitVec.eq_of_toNat_eq (by have := h.1; omega)
  rw [e1, this]
theorem ce4 {a b : Ex} (h : exL a = exL b) : a = b := by
 cases a; cases b
 simp only [exL, List.cons.injEq, Value.int.injEq, true_and] at h
 rw [h.1, aj6 h.2]
theorem ad3 {a b : Ex} (ha : ExB a) (hb : ExB b) : isW (exL a) (.agg (exL b).toArray) = true ↔ b = a := by
 rw [xj (aa1 ha) (by simpa [kindW] using aa1 hb)]
 simp only [Value.agg.injEq]
 exact ⟨fun h => ce4 (by simpa using congrArg Array.toList h), fun h => by rw [h]⟩
def exM (l : List (Ex × PV)) : List (Value × PV) := l.map fun p => (.agg (exL p.1).toArray, p.2)
structure MapB {α : Type} (l : List (Ex × α)) : Prop where
 ok : ∀ p ∈ l, ExB p.1
 ds : l.Pairwise fun a b => a.1 ≠ b.1
theorem aw5 {l : List (Ex × PV)} (h : ∀ p ∈ l, ExB p.1) : (exM l).all (fun e => kindW KS e.1) = true := by
 rw [List.all_eq_true]
 intro x hx
 obtain ⟨p, hp, rfl⟩ := List.mem_map.1 hx
 simpa [kindW] using aa1 (h p hp)
theorem ad2 : ∀ {l : List (Ex × PV)}, MapB l → distW (exM l) = true
 | [], _ => rfl
 | p :: l, h => by
  obtain ⟨h1, h2⟩ := List.pairwise_cons.1 h.ds
  have ih := ad2 (l := l) ⟨fun q hq => h.ok q (by simp [hq]), h2⟩
  simp only [exM, List.map_cons, distW, Bool.and_eq_true]
  refine ⟨?_, ih⟩
  rw [List.all_eq_true]
  intro x hx
  obtain ⟨q, hq, rfl⟩ := List.mem_map.1 hx
  simp only [Bool.not_eq_true']
  rw [Bool.eq_false_iff]
  intro hc
  have := (ad3 (h.ok p (by simp)) (h.ok q (by simp [hq]))).1 (by simpa using hc)
  exact h1 q hq this.symm
theorem bg3 {e : Ex} (he : ExB e) : ∀ {l : List (Ex × PV)}, (∀ p ∈ l, ExB p.1) → getW (exL e) (exM l) = wget l e
 | [], _ => rfl
 | p :: l, h => by
  have ih := bg3 he (l := l) fun q hq => h q (by simp [hq])
  have hp := h p (by simp)
  simp only [exM, List.map_cons, getW, wget]
  cases hi : isW (exL e) (.agg (exL p.1).toArray) with
  | true => rw [if_pos ((ad3 he hp).1 hi)]; rfl
  | false =>
   rw [if_neg fun hc => by rw [(ad3 he hp).2 hc] at hi; cases hi]
   exact ih
theorem bh6 {e : Ex} (he : ExB e) {v : PV} : ∀ {l : List (Ex × PV)}, (∀ p ∈ l, ExB p.1) → putW (exL e) v (exM l) = exM (wput l e v)
 | [], _ => rfl
 | p :: l, h => by
  have ih := bh6 he (v := v) (l := l) fun q hq => h q (by simp [hq])
  have hp := h p (by simp)
  simp only [exM, List.map_cons, putW, wput]
  cases hi : isW (exL e) (.agg (exL p.1).toArray) with
  | true => rw [if_pos ((ad3 he hp).1 hi)]; rfl
  | false =>
   rw [if_neg fun hc => by rw [(ad3 he hp).2 hc] at hi; cases hi]
   simp only [cond_false, List.map_cons, List.cons.injEq, true_and]
   exact ih
theorem bc9 {α : Type} {e : Ex} (he : ExB e) {v : α} : ∀ {l : List (Ex × α)}, MapB l → MapB (wput l e v) ∧ ∀ q ∈ wput l e v, q.1 = e ∨ ∃ p ∈ l, p.1 = q.1
 | [], _ => ⟨⟨fun p hp => by rw [List.mem_singleton.1 hp]; exact he, List.pairwise_singleton ..⟩, fun q hq => by rw [List.mem_singleton.1 hq]; exact .inl rfl⟩
 | p :: l, h => by
  obtain ⟨h1, h2⟩ := List.pairwise_cons.1 h.ds
  obtain ⟨hB, hk⟩ := bc9 he (v := v) (l := l) ⟨fun q hq => h.ok q (by simp [hq]), h2⟩
  unfold wput
  by_cases hc : p.1 = e
  ·rw [if_pos hc]
   refine ⟨⟨fun q hq => ?_, List.pairwise_cons.2 ⟨fun q hq => by show e ≠ q.1; rw [← hc]; exact h1 q hq, h2⟩⟩, fun q hq => ?_⟩
   ·rcases List.mem_cons.1 hq with rfl | hq
    ·exact he
    ·exact h.ok q (by simp [hq])
   ·rcases List.mem_cons.1 hq with rfl | hq
    ·exact .inl rfl
    ·exact .inr ⟨q, by simp [hq], rfl⟩
  ·rw [if_neg hc]
   refine ⟨⟨fun q hq => ?_, List.pairwise_cons.2 ⟨fun q hq => ?_, hB.ds⟩⟩, fun q hq => ?_⟩
   ·rcases List.mem_cons.1 hq with rfl | hq
    ·exact h.ok _ (by simp)
    ·exact hB.ok q hq
   ·rcases hk q hq with e1 | ⟨r, hr, e1⟩
    ·rw [e1]; exact hc
    ·rw [← e1]; exact h1 r hr
   ·rcases List.mem_cons.1 hq with rfl | hq
    ·exact .inr ⟨_, by simp, rfl⟩
    ·rcases hk q hq with e1 | ⟨r, hr, e1⟩
     ·exact .inl e1
     ·exact .inr ⟨r, by simp [hr], e1⟩
def exE (l : List (Ex × PV)) : List PV := (exM l).map encKV
theorem bm4 {h : Heap} {L : List Ent} {k id ver : Nat} {ty : TypeId} {l : List (Ex × PV)} {e : Ex} {z : Value} {ok : Bool} (M : Mem h L) (hk : L[k]? = some ⟨.om id ver, ty, 2, exE l⟩) (hB : MapB l) (he : ExB e) :
  lookW h KS z ok (.om id ver) (exV e) = some (bif ok then .tup [(wget l e).getD (.ofConst z), vb (wget l e).isSome] else (wget l e).getD (.ofConst z), h) := by
 obtain ⟨h1, ms, h2, h3⟩ := M.atF hk
 have hms : ms = exM l := (ao2 h2).symm
 subst hms
 simp only [blk] at h3
 simp only [lookW, bd0 he, h3]
 rw [if_pos ⟨trivial, aw5 hB.ok, ad2 hB⟩, bg3 he hB.ok]
theorem at7 {α : Type} {e : Ex} {v : α} : ∀ {l : List (Ex × α)}, ∀ q ∈ wput l e v, q = (e, v) ∨ q ∈ l
 | [], q, hq => .inl (List.mem_singleton.1 hq)
 | p :: l, q, hq => by
  unfold wput at hq
  split at hq
  ·rcases List.mem_cons.1 hq with h | h
   ·exact .inl h
   ·exact .inr (by simp [h])
  ·rcases List.mem_cons.1 hq with h | h
   ·exact .inr (by simp [h])
   ·rcases at7 q h with h | h
    ·exact .inl h
    ·exact .inr (by simp [h])
theorem cm4 {l : List (Ex × PV)} {e : Ex} {v : PV} (h1 : ∀ x ∈ exE l, cnt x = some 2) (hv : cnt v = some 1) : ∀ x ∈ exE (wput l e v), cnt x = some 2 := by
 intro x hx
 obtain ⟨y, hy, rfl⟩ := List.mem_map.1 hx
 obtain ⟨q, hq, rfl⟩ := List.mem_map.1 hy
 rcases at7 q hq with rfl | hq
 ·rfl
 ·exact h1 _ (List.mem_map.2 ⟨_, List.mem_map.2 ⟨q, hq, rfl⟩, rfl⟩)
theorem bn7 {h : Heap} {L : List Ent} {k id ver : Nat} {ty : TypeId} {l : List (Ex × PV)} {e : Ex} {v : PV} (M : Mem h L) (hk : L[k]? = some ⟨.om id ver, ty, 2, exE l⟩) (hB : MapB l) (he : ExB e) (hv : cnt v = some 1) :
  ∃ h', updW h KS (.om id ver) (exV e) v = some (.tup [], h') ∧ Mem h' (L.set k ⟨.om id ver, ty, 2, exE (wput l e v)⟩) := by
 obtain ⟨h1, ms, h2, h3⟩ := M.atF hk
 have hms : ms = exM l := (ao2 h2).symm
 subst hms
 have a0 := h3
 simp only [blk] at a0
 refine ⟨hput h id (.mp ver (exM (wput l e v))), ?_, M.upd hk ⟨?_, _, rfl, by simp [mj h3]⟩ (fun i hi => .inl hi) fun i hi hne => ?_⟩
 ·simp only [updW, bd0 he, a0]
  rw [if_pos ⟨trivial, aw5 hB.ok, ad2 hB⟩, bh6 he hB.ok]
  rfl
 ·intro x hx
  exact cm4 h1 hv x hx
 ·exact jo _ _ _ _ fun e => hne (by simp [idOf, e])
theorem ue {P : Program} {S : List Fr} {Q : Post} {E : TEnv} {h : Heap} {L : List Ent} {r : List AOper} {hf : Bool} {d k id ver : Nat} {ty tm tk te : TypeId} {l : List (Ex × PV)} {e : Ex} {z : Value} {ok : Bool} {o o' : Operand} (M : Mem h L) (ex : evE E o = some (.om id ver)) (ei : evE E o' = some (exV e)) (hk : L[k]? = some ⟨.om id ver, ty, 2, exE l⟩) (hB : MapB l) (he : ExB e)
  (K : RD P r S Q ((d, bif ok then .tup [(wget l e).getD (.ofConst z), vb (wget l e).isSome] else (wget l e).getD (.ofConst z)) :: E) h) : RD P (⟨some d, .lookupW tm tk te KS z ok o o', none, hf⟩ :: r) S Q E h :=
 wu ⟨rfl, fun T hT => by show lookW h KS z ok (ev T o) (ev T o') = _; rw [du hT ex, du hT ei]; exact bm4 M hk hB he⟩ K
theorem bf0 {P : Program} {S : List Fr} {Q : Post} {E : TEnv} {h : Heap} {L : List Ent} {r : List AOper} {hf : Bool} {k id ver : Nat} {ty tm tk : TypeId} {l : List (Ex × PV)} {e : Ex} {v : PV} {o o' o'' : Operand} (M : Mem h L) (ex : evE E o = some (.om id ver)) (ei : evE E o' = some (exV e)) (ev' : evE E o'' = some v) (hk : L[k]? = some ⟨.om id ver, ty, 2, exE l⟩) (hB : MapB l) (he : ExB e) (hv : cnt v = some 1)
  (K : ∀ h', Mem h' (L.set k ⟨.om id ver, ty, 2, exE (wput l e v)⟩) → RD P r S Q E h') : RD P (⟨none, .mapUpdW tm tk KS o o' o'', none, hf⟩ :: r) S Q E h := by
 obtain ⟨h', h1, h2⟩ := bn7 M hk hB he hv
 exact xy ⟨rfl, fun T hT => by show updW h KS (ev T o) (ev T o') (ev T o'') = _; rw [du hT ex, du hT ei, du hT ev', h1]⟩ (K h' h2)
def mpV (l : List (Ex × Int)) : List (Ex × PV) := l.map fun q => (q.1, vi q.2)
theorem bf8 {e : Ex} {i : Int} : ∀ l : List (Ex × Int), mpV (wput l e i) = wput (mpV l) e (vi i)
 | [] => rfl
 | p :: l => by
  have ih := bf8 (e := e) (i := i) l
  unfold mpV at ih
  simp only [mpV, wput, List.map_cons]
  by_cases h : p.1 = e
  ·rw [if_pos h, if_pos h]; rfl
  ·rw [if_neg h, if_neg h, List.map_cons, ih]
theorem bd6 {e : Ex} : ∀ l : List (Ex × Int), wget (mpV l) e = (wget l e).map vi
 | [] => rfl
 | p :: l => by
  have ih := bd6 (e := e) l
  unfold mpV at ih
  simp only [mpV, wget, List.map_cons]
  by_cases h : p.1 = e
  ·rw [if_pos h, if_pos h]; rfl
  ·rw [if_neg h, if_neg h, ih]
theorem cv2 {l : List (Ex × Int)} (h : MapB l) : MapB (mpV l) :=
 ⟨fun p hp => by obtain ⟨q, hq, rfl⟩ := List.mem_map.1 hp; exact h.ok q hq, List.pairwise_map.2 h.ds⟩
theorem MapB.nil {α : Type} : MapB ([] : List (Ex × α)) := ⟨fun p hp => (by cases hp), List.Pairwise.nil⟩
theorem MapB.put {α : Type} {l : List (Ex × α)} (h : MapB l) {e : Ex} (he : ExB e) (v : α) : MapB (wput l e v) := (bc9 he h).1
/-! Tries in a map -/
def TsM (w : Int) : List (Ex × Tr) → List (Ex × PV) → List Ent → Prop
 | [], [], N => N = []
 | (e, t) :: ts, (e', p) :: ps, N => e = e' ∧ ∃ pr Nt Ns, p = triP w pr ∧ t ≠ .nil ∧ TrM t pr Nt ∧ N = Nt ++ Ns ∧ TsM w ts ps Ns
 | _, _, _ => False
theorem TsM.B {w : Int} : ∀ {ts : List (Ex × Tr)} {ps : List (Ex × PV)} {N : List Ent}, TsM w ts ps N → ps.map (·.1) = ts.map (·.1)
 | [], [], _, _ => rfl
 | (e, t) :: ts, (e', p) :: ps, N, H => by
  obtain ⟨rfl, pr, Nt, Ns, _, _, _, _, h⟩ := H
  simp [h.B]
 | [], _ :: _, _, H => H.elim
 | _ :: _, [], _, H => H.elim
theorem am3 {α β : Type} {l : List (Ex × α)} {k : List (Ex × β)} (h : k.map (·.1) = l.map (·.1)) (H : MapB l) : MapB k := by
 refine ⟨fun p hp => ?_, ?_⟩
 ·have : p.1 ∈ l.map (·.1) := h ▸ List.mem_map.2 ⟨p, hp, rfl⟩
  obtain ⟨q, hq, e⟩ := List.mem_map.1 this
  exact e ▸ H.ok q hq
 ·have h1 : (l.map (·.1)).Pairwise (· ≠ ·) := List.pairwise_map.2 H.ds
  rw [← h] at h1
  exact List.pairwise_map.1 h1
theorem TsM.absent {w : Int} {e : Ex} : ∀ {ts : List (Ex × Tr)} {ps : List (Ex × PV)} {N : List Ent}, TsM w ts ps N → wget ts e = none → wget ps e = none
 | [], [], _, _, _ => rfl
 | (a, t) :: ts, (b, p) :: ps, N, H, hn => by
  obtain ⟨rfl, pr, Nt, Ns, _, _, _, _, h⟩ := H
  unfold wget at hn ⊢
  by_cases hc : a = e
  ·rw [if_pos hc] at hn; cases hn
  ·rw [if_neg hc] at hn ⊢
   exact h.absent hn
 | [], _ :: _, _, H, _ => H.elim
 | _ :: _, [], _, H, _ => H.elim
theorem TsM.found {w : Int} {e : Ex} {t : Tr} : ∀ {ts : List (Ex × Tr)} {ps : List (Ex × PV)} {N : List Ent}, TsM w ts ps N → wget ts e = some t →
  ∃ pr Nt Nr, wget ps e = some (triP w pr) ∧ t ≠ .nil ∧ TrM t pr Nt ∧ N.Perm (Nt ++ Nr) ∧ ∀ t' Nt', t' ≠ .nil → TrM t' pr Nt' → ∃ N', TsM w (wput ts e t') ps N' ∧ (Nt' ++ Nr).Perm N'
 | (a, u) :: ts, (b, p) :: ps, N, H, hs => by
  obtain ⟨rfl, pr, Nt, Ns, rfl, h1, h2, rfl, h3⟩ := H
  unfold wget at hs ⊢
  by_cases hc : a = e
  ·rw [if_pos hc] at hs ⊢
   simp only [Option.some.injEq] at hs
   subst hs
   refine ⟨pr, Nt, Ns, rfl, h1, h2, .refl _, fun t' Nt' g1 g2 => ⟨Nt' ++ Ns, ?_, .refl _⟩⟩
   unfold wput
   rw [if_pos hc]
   exact ⟨hc.symm, pr, Nt', Ns, rfl, g1, g2, rfl, h3⟩
  ·rw [if_neg hc] at hs ⊢
   obtain ⟨qr, Mt, Mr, k1, k2, k3, k4, k5⟩ := h3.found hs
   refine ⟨qr, Mt, Nt ++ Mr, k1, k2, k3, ?_, fun t' Nt' g1 g2 => ?_⟩
   ·refine (k4.append_left Nt).trans ?_
    classical exact List.perm_iff_count.2 fun a => by simp only [List.count_append]; omega
   ·obtain ⟨N', j1, j2⟩ := k5 t' Nt' g1 g2
    refine ⟨Nt ++ N', ?_, .trans ?_ (j2.append_left Nt)⟩
    ·unfold wput
     rw [if_neg hc]
     exact ⟨rfl, pr, Nt, N', rfl, h1, h2, rfl, j1⟩
    ·classical exact List.perm_iff_count.2 fun a => by simp only [List.count_append]; omega
 | [], [], _, _, hs => by cases hs
 | [], _ :: _, _, H, _ => H.elim
 | _ :: _, [], _, H, _ => H.elim
theorem TsM.new {w : Int} {e : Ex} {t : Tr} {pr : PV} {Nt : List Ent} (ht : t ≠ .nil) (hT : TrM t pr Nt) : ∀ {ts : List (Ex × Tr)} {ps : List (Ex × PV)} {N : List Ent}, TsM w ts ps N → wget ts e = none → ∃ N', TsM w (wput ts e t) (wput ps e (triP w pr)) N' ∧ (Nt ++ N).Perm N'
 | [], [], N, H, _ => by
  have H : N = [] := H
  subst H
  exact ⟨Nt ++ [], ⟨rfl, pr, Nt, [], rfl, ht, hT, rfl, rfl⟩, .refl _⟩
 | (a, u) :: ts, (b, p) :: ps, N, H, hn => by
  obtain ⟨rfl, qr, Mt, Ns, rfl, h1, h2, rfl, h3⟩ := H
  unfold wget at hn
  by_cases hc : a = e
  ·rw [if_pos hc] at hn; cases hn
  ·rw [if_neg hc] at hn
   obtain ⟨N', j1, j2⟩ := h3.new ht hT hn
   refine ⟨Mt ++ N', ?_, .trans ?_ (j2.append_left Mt)⟩
   ·unfold wput
    rw [if_neg hc, if_neg hc]
    exact ⟨rfl, qr, Mt, N', rfl, h1, h2, rfl, j1⟩
   ·classical exact List.perm_iff_count.2 fun a => by simp only [List.count_append]; omega
 | [], _ :: _, _, H, _ => H.elim
 | _ :: _, [], _, H, _ => H.elim
theorem retell {P : Program} {w0 : World} {F0 : Nat → Prop} {h : Heap} {x : Cx} (R : RelP P w0 F0 h x) {id ver : Nat} {ty : TypeId} {mt : Bool} {cs cs' : List PV} (hb : blk h id = some (.cells ver ty mt cs)) (hl : cs'.length = cs.length) (hc : ∀ us, VRL P x cs us → VRL P x cs' us) :
  RelP P w0 F0 (hput h id (.cells ver ty mt cs')) x := by
 have hb' : h.bl[id]? = some (.cells ver ty mt cs) := hb
 have look : ∀ (i : Nat) b, (hput h id (.cells ver ty mt cs')).bl[i]? = some b → (i = id ∧ b = .cells ver ty mt cs') ∨ (i ≠ id ∧ h.bl[i]? = some b) := by
  intro i b hi
  by_cases e : i = id
  ·subst e
   have := si h i (.cells ver ty mt cs') (mj hb)
   simp only [blk] at this
   rw [this] at hi
   exact .inl ⟨rfl, (Option.some.inj hi).symm⟩
  ·have := jo h id i (.cells ver ty mt cs') (fun e' => e e'.symm)
   simp only [blk] at this
   rw [this] at hi
   exact .inr ⟨e, hi⟩
 refine ⟨R.below, R.f0, R.fsub, R.fnew, R.own, R.fresh, fun i j bi bj b h1 h2 h3 h4 => ?_, fun i bi hi => ?_⟩
 ·have g1 : ∃ b', h.bl[i]? = some b' ∧ b'.ver = bi.ver := by
   rcases look i bi h1 with ⟨rfl, rfl⟩ | ⟨_, h5⟩
   ·exact ⟨_, hb', rfl⟩
   ·exact ⟨_, h5, rfl⟩
  have g2 : ∃ b', h.bl[j]? = some b' ∧ b'.ver = bj.ver := by
   rcases look j bj h2 with ⟨rfl, rfl⟩ | ⟨_, h5⟩
   ·exact ⟨_, hb', rfl⟩
   ·exact ⟨_, h5, rfl⟩
  obtain ⟨b1, e1, e2⟩ := g1
  obtain ⟨b2, e3, e4⟩ := g2
  exact R.inj i j b1 b2 b e1 e3 (by rw [e2]; exact h3) (by rw [e4]; exact h4)
 ·rcases look i bi hi with ⟨rfl, rfl⟩ | ⟨hne, h5⟩
  ·intro b hj
   obtain ⟨⟨cur, h1, h2, h3⟩, h4⟩ := R.hr i _ hb' b hj
   exact ⟨⟨cur, h1, by omega, by rw [hl]; exact hc _ h3⟩, h4⟩
  ·exact R.hr i bi h5
theorem ay8 {P : Program} {S : List Fr} {Q : Post} {E : TEnv} {h : Heap} {L : List Ent} {r : List AOper} {k j id ver n a b : Nat} {ty ty' : TypeId} {sz sz' : Nat} {es cs cs' : List PV} (M : Mem h L) (hk : L[k]? = some ⟨.os id ver 0 n, ty, sz, es⟩) (hj : L[j]? = some ⟨.op a b 0, ty', sz', [.agg cs]⟩)
  (hF : FrzL (.os id ver 0 n) (.fs false es) cs cs') (hl : cs'.length = cs.length) (K : ∀ h', Mem h' ((L.set j ⟨.op a b 0, ty', sz', [.agg cs']⟩).eraseIdx k) → RS P r S Q E h') : RS P r S Q E h := by
 have hne : k ≠ j := fun e => by subst e; rw [hk] at hj; cases hj
 obtain ⟨hc, hn, ds, h1, h2⟩ := M.atF hk
 obtain ⟨hcj, x', a3, j1, j2, j3⟩ := M.atF hj
 simp only [List.cons.injEq, and_true] at j1
 subst j1
 simp only [PV.cellsOf, Option.some.injEq] at j2
 subst j2
 have hia : id ≠ a := fun e => lu M.dis hj hne hk a rfl (by simp [idOf, e])
 have a0 : blk (hput h id (.cells ver ty false ds)) a = some (.cells b ty' true cs) := by rw [jo h id a _ hia]; exact j3
 have hM : Mem (hput (hput h id (.cells ver ty false ds)) a (.cells b ty' true cs')) ((L.set j ⟨.op a b 0, ty', sz', [.agg cs']⟩).eraseIdx k) := by
  refine ⟨fun e he => ?_, (yf (e' := ⟨.op a b 0, ty', sz', [.agg cs']⟩) M.dis hj fun x hx ha i h1 h2 => ha i h1 h2).sublist (List.eraseIdx_sublist ..)⟩
  obtain ⟨i, hi⟩ := List.getElem?_of_mem he
  rw [List.getElem?_eraseIdx] at hi
  have hik : ∃ i, i ≠ k ∧ (L.set j ⟨.op a b 0, ty', sz', [.agg cs']⟩)[i]? = some e := by
   split at hi
   ·exact ⟨i, by omega, hi⟩
   ·exact ⟨i + 1, by omega, hi⟩
  obtain ⟨i, hik, hi⟩ := hik
  by_cases hij : i = j
  ·subst hij
   rw [List.getElem?_set_self (List.getElem?_eq_some_iff.1 hj).1] at hi
   simp only [Option.some.injEq] at hi
   subst hi
   have hcn := hcj _ (List.mem_singleton.2 rfl)
   simp only [cnt, Option.some.injEq] at hcn
   refine ⟨by simp [cnt]; omega, _, cs', rfl, rfl, si _ _ _ ?_⟩
   exact mj a0
  ·rw [List.getElem?_set_ne (fun e => hij e.symm)] at hi
   have a1 := lu M.dis hk hik hi
   have a2 := lu M.dis hj hij hi
   refine (M.ent e (List.mem_of_getElem? hi)).frame fun q hq _ => ?_
   rw [jo _ a q _ fun e' => a2 a rfl (by rw [hq, e']), jo h id q _ fun e' => a1 id rfl (by rw [hq, e'])]
 intro T hT
 refine bi6 (T' := T) (h' := hput (hput h id (.cells ver ty false ds)) a (.cells b ty' true cs')) ?_ (K _ hM _ hT)
 intro w0 F0 n' x act R hTm
 obtain ⟨y, ew, eJ, Ex, hFr, R'⟩ := R.freeze h2
 have hb : ∀ us, VRC P y (.os id ver 0 n) us → VRC P y (.fs false es) us := fun us hv => by
  have hone : ∃ u, us = [u] := by
   simp only [VRC] at hv
   obtain ⟨b, cap, _, e, _⟩ := hv
   exact ⟨_, e⟩
  obtain ⟨u, rfl⟩ := hone
  exact VR_frozen (u := u) R' (si h id _ (mj h2)) (fun b hj => hFr b (by rw [← eJ]; exact hj)) hn h1 hc hv
 exact ⟨y, ew, Ex, retell R' a0 hl (fun us hv => FrzL.conv hb hF us hv), hTm.ext Ex⟩
theorem bi8 {v d : PV} : ∀ cs : List PV, FrzL v d cs cs
 | [] => .nil
 | c :: cs => .cons (.same c) (bi8 cs)
theorem ay9 {P : Program} {S : List Fr} {Q : Post} {E : TEnv} {h : Heap} {L : List Ent} {r : List AOper} {k j a b : Nat} {v : PV} {ty ty' : TypeId} {sz sz' : Nat} {es : List PV} {cs : PV → List PV} (M : Mem h L) (hk : L[k]? = some ⟨v, ty, sz, es⟩) (hj : L[j]? = some ⟨.op a b 0, ty', sz', [.agg (cs v)]⟩)
  (hne : isL v = true) (hF : ∀ d, FrzL v d (cs v) (cs d)) (hl : ∀ d, (cs d).length = (cs v).length) (K : ∀ d h', IsSl d es → Mem h' ((L.set j ⟨.op a b 0, ty', sz', [.agg (cs d)]⟩).eraseIdx k) → RS P r S Q E h') : RS P r S Q E h := by
 have hv := (M.atF hk).2
 have hsame : L.set j ⟨.op a b 0, ty', sz', [.agg (cs v)]⟩ = L := by
  obtain ⟨hlt, e⟩ := List.getElem?_eq_some_iff.1 hj
  rw [← e]; exact List.set_getElem_self hlt
 have same : IsSl v es → RS P r S Q E h := fun hs => K v h hs (by rw [hsame]; exact M.sub (List.eraseIdx_sublist ..))
 cases v with
 | os id ver off n =>
  cases off with
  | zero => exact ay8 M hk hj (hF _) (hl _) fun h' M' => K _ h' (.inr ⟨false, rfl⟩) M'
  | succ off => exact hv.elim
 | fs t es' =>
  cases t with
  | true => have e : es' = es := hv; exact same (.inr ⟨true, by rw [e]⟩)
  | false => exact hv.elim
 | sc u =>
  unfold EntV at hv
  split at hv <;> first | exact hv.elim | skip
  all_goals first | (rename_i heq; cases heq; exact same (.inl ⟨_, rfl, hv⟩)) | (rename_i heq; cases heq)
 | _ => first | exact hv.elim | (simp [isL] at hne)
theorem ad0 {P : Program} {h : Heap} {id ver : Nat} : DeepC P h (.om id ver) .junk := ⟨rfl, rfl, fun k hk w0 F0 x us R hv => by simp only [VRC]⟩
def ixC (pc : List PV) (t kd : Int) (wv rv : PV) (lp : Int) (m1 m2 : PV) : List PV := pc ++ [vi t, vi kd, wv, rv, vi lp, m1, m2]
theorem de9 {a0 a1 a2 a3 a4 a5 a6 a7 a8 wv rv m1 m2 : PV} {t kd lp : Int} {l : List am} (rr : (tSl am.t).R l rv) : FnR Tryz.prog 18 [.fp (.agg (ixC [a0, a1, a2, a3, a4, a5, a6, a7, a8] t kd wv rv lp m1 m2))] (vi (l.length : Int)) := by
 obtain ⟨r, h1, rfl⟩ : ∃ r, FnR Tryz.prog 18 [.fp (.agg (ixC [a0, a1, a2, a3, a4, a5, a6, a7, a8] t kd wv rv lp m1 m2))] r ∧ r = vi (l.length : Int) := by
  refine fnE bx9 (by simp) ?_
  refine ae (ai (ab (v := vi 0) (ak rfl) (aw (ah ?_))))
  refine ae (ae (ai (ab (ak rfl) (ab (v := vb false) (bd rfl rfl rfl) (aw (ah (bf rfl (fun hc => by cases hc) fun hc => ?_)))))))
  refine az (ah (ae (ai (ab (ak rfl) (ab (bv rfl rfl) (ab (bb (w := rv) rfl (mk1 (TR.agg _ rr))) (ab (ba rfl (TR.cnt _ rr) (TR.agg _ rr)) (ab (ca rfl (bq rr Tryz.underlying32 _)) (ab (ak rfl) (aw (ah ?_)))))))))))
  exact fc (.tmp rfl .nil) (cj rfl) rfl
 exact h1
theorem bo7 {S : List Fr} {res : Bool} {W : List Int} {k : List (BitVec 32)} {wv kv : PV} (rw_ : (tSl tI).R W wv) (rk : (tSl kg).R k kv) (hl : k.length = W.length)
  (K : res = true → PX Tryz.prog 0 S (QR Tryz.prog [(4, none)] fun r => r = vb res) [] ⟨0, []⟩) : ∀ (m : Nat) {i : Int}, m = Int.toNat ((W.length : Int) - i) → 0 ≤ i → i ≤ W.length → fitsL W k m i = res →
   RC Tryz.prog (.loop cs4) S (QR Tryz.prog [(4, none)] fun r => r = vb res) [(12, vi i), (11, vi (W.length : Int)), (10, wv), (1, kv)] ⟨0, []⟩
 | 0, i, hm, h0, h1, hp => by
  refine br ?_
  refine ae (ai (ab (bd rfl rfl ck) (aw (ah (ae (bf rfl (fun hc => ?_) fun hc => ?_))))))
  ·simp only [decide_eq_true_eq] at hc; omega
  ·have hp : true = res := hp
   exact di (dv (ct (wP (K hp.symm) rfl)))
 | m + 1, i, hm, h0, h1, hp => by
  have hlt : i < (W.length : Int) := by omega
  have hb := dm rw_
  refine br ?_
  refine ae (ai (ab (bd rfl rfl ck) (aw (ah (ae (bf rfl (fun hc => ?_) fun hc => ?_))))))
  ·refine az (ah (ae (bh (ae (ai (ab (ak rfl) (ab (bn rfl rfl (slI rw_ h0 hlt)) (ab (ba rfl rfl rfl) (ab (ak rfl) (ab (ak rfl) (aw (ah ?_))))))))))))
   refine ae (ai (ab (ak rfl) (ab (ak rfl) (ab (bn rfl rfl (zr rk h0 (by omega))) (ab (ba rfl rfl rfl) (ab (ak rfl) ?_))))))
   refine cL ad8 rfl rfl (aq rfl (aq rfl bg)) (ab (ft rfl) (aw (ah (bf rfl (fun hd => ?_) fun hd => ?_))))
   ·rw [fitsL, if_pos hd] at hp
    subst hp
    refine ae (ai (ab (v := vb false) (ak rfl) (aw (ah ?_))))
    exact fc (.tmp rfl .nil) (cj rfl) rfl
   ·rw [fitsL, if_neg (by rw [hd]; simp)] at hp
    have hinc : wr (i + 1) = i + 1 := dt (by omega) (by omega)
    refine az (dc (ah (ai (ab (bd rfl rfl dz) (ab (ak rfl) (aw (cq ?_)))))))
    refine mf ?_ (bo7 rw_ rk hl K m (i := i + 1) (by omega) (by omega) (by omega) hp)
    exact kx (by show some (vi (wr (i + 1))) = _; rw [hinc]) (sB rfl)
  ·simp only [decide_eq_false_iff_not] at hc; omega
theorem dd0 {a0 a1 a2 a3 a4 a5 a6 a7 a8 wv rv m1 m2 kv : PV} {t kd lp : Int} {W : List Int} {k : List (BitVec 32)} (rw_ : (tSl tI).R W wv) (rk : (tSl kg).R k kv) (hl : k.length = W.length) : FnR Tryz.prog 50 [.fp (.agg (ixC [a0, a1, a2, a3, a4, a5, a6, a7, a8] t kd wv rv lp m1 m2)), kv] (vb (fitsK W k)) := by
 generalize hres : fitsK W k = res
 obtain ⟨r, h1, rfl⟩ : ∃ r, FnR Tryz.prog 50 [.fp (.agg (ixC [a0, a1, a2, a3, a4, a5, a6, a7, a8] t kd wv rv lp m1 m2)), kv] r ∧ r = vb res := by
  refine fnE bp1 (by simp) ?_
  refine ae (ai (ab (v := vb false) (ak rfl) (aw (ah ?_))))
  refine ae (ae (ai (ab (ak rfl) (ab (bv rfl rfl) (ab (bb (w := wv) rfl (mk1 (TR.agg _ rw_))) (ab (ba rfl (TR.cnt _ rw_) (TR.agg _ rw_)) (ab (ca rfl (bq rw_ Tryz.underlying29 _)) (ab (v := vi 0) (ak rfl) (aw (ah (bh ?_)))))))))))
  refine wC (bo7 rw_ rk hl (res := res) ?_ W.length (i := 0) (by omega) (by omega) (by omega) hres) rfl
  ·intro hr
   refine fa (ah (ae (ai (ab (v := vb true) (ak rfl) (aw (ah ?_))))))
   exact fc (.tmp rfl .nil) (cj rfl) (by rw [hr]; rfl)
 exact h1
theorem cd5 (w : Int) (p : PV) : cnt (triP w p) = some 1 := rfl
theorem aw7 {S : List Fr} {Q : Post} {ixi ixv m1 u1 m2 u2 : Nat} {a0 a1 a2 a3 a4 a5 a6 a7 a8 wv rv : PV} {t kd lp : Int} {W : List Int} {l : List am} {R : List Ent} {res : IxS} (rw_ : (tSl tI).R W wv) (rr : (tSl am.t).R l rv) (HB : RowB W lp l)
  (K : ∀ {h : Heap} {ps : List (Ex × PV)} {N : List Ent}, TsM (ix W lp) res.2 ps N → MapB res.1 → MapB res.2 → Mem h (⟨.op ixi ixv 0, 69, 16, [.agg (ixC [a0, a1, a2, a3, a4, a5, a6, a7, a8] t kd wv rv lp (.om m1 u1) (.om m2 u2))]⟩ :: ⟨.om m1 u1, 66, 2, exE (mpV res.1)⟩ :: ⟨.om m2 u2, 67, 2, exE ps⟩ :: (N ++ R)) → PX Tryz.prog 0 S Q [] h) :
  ∀ (m : Nat) {i : Int} {st : IxS} {h : Heap} {ps : List (Ex × PV)} {N : List Ent}, m = Int.toNat ((l.length : Int) - i) → 0 ≤ i → i ≤ l.length → MapB st.1 → MapB st.2 → TsM (ix W lp) st.2 ps N → bL (ix W lp) lp l m i st = res →
   Mem h (⟨.op ixi ixv 0, 69, 16, [.agg (ixC [a0, a1, a2, a3, a4, a5, a6, a7, a8] t kd wv rv lp (.om m1 u1) (.om m2 u2))]⟩ :: ⟨.om m1 u1, 66, 2, exE (mpV st.1)⟩ :: ⟨.om m2 u2, 67, 2, exE ps⟩ :: (N ++ R)) →
   RC Tryz.prog (.loop bc6) S Q [(37, vi i), (36, vi (l.length : Int)), (35, rv), (0, .op ixi ixv 0)] h
 | 0, i, st, h, ps, N, hm, h0, h1, hB1, hB2, HT, hp, M => by
  refine br ?_
  refine ae (ai (ab (bd rfl rfl ck) (aw (ah (ae (bf rfl (fun hc => ?_) fun hc => ?_))))))
  ·simp only [decide_eq_true_eq] at hc; omega
  ·have hp : st = res := hp
   subst hp
   exact di (dv (ct (wP (K HT hB1 hB2 M) rfl)))
 | m + 1, i, st, h, ps, N, hm, h0, h1, hB1, hB2, HT, hp, M => by
  have hlt : i < (l.length : Int) := by omega
  have hn := HB.n
  have hinc : wr (i + 1) = i + 1 := dt (by omega) (by omega)
  have b0 := HB.k i h0 hlt
  refine br ?_
  refine ae (ai (ab (bd rfl rfl ck) (aw (ah (ae (bf rfl (fun hc => ?_) fun hc => ?_))))))
  ·obtain ⟨g, e0, q0⟩ := cr (i := i) rr h0 hlt
   obtain ⟨we, ge, re⟩ := am.g_Entry q0
   obtain ⟨c1, c2, rfl, qk, qa⟩ := q0
   refine az (ah (ae (bh (ae (ai (mV rfl (ab (bn rfl rfl e0) (ab (ba rfl rfl rfl) ?_))))))))
   refine dk (x := .agg [vi 0, nilS, vi 0, vi 0, nilS]) M rfl rfl (fun i3 w3 h3 M3 => mV rfl ?_)
   refine cz (k := 0) (v := .agg [vi (ix l i).ID, c1, vi (ix l i).Entry.Priority, vi (ix l i).Entry.Call.Action, c2]) M3 rfl rfl rfl rfl (fun h4 M4 => aw (ah ?_))
   obtain ⟨kv, b5, rk⟩ := da5 re b0
   have hvl : (js (ix l i).Entry).length ≤ 1000000 := by rw [za, List.length_map]; omega
   have he : ExB (bE lp (ix l i)) := pk_B _ _
   refine ae (ai (ab (bz rfl) (ab (dg (k := 0) (off := 1) M4 rfl rfl ge) ?_)))
   refine cL b5 rfl rfl (aq (TR.clo _ re) bg) (mV rfl (ab (bv rfl rfl) (ab (bz rfl) (ab (dg (k := 1) (off := 13) (w := vi lp) M4 rfl rfl rfl) ?_))))
   refine cL (bo8 rk hvl) rfl rfl (aq (TR.clo _ rk) (aq rfl bg)) ?_
   refine dk (x := exV exz) M4 rfl rfl (fun i5 w5 h5 M5 => ?_)
   refine cz (k := 0) (v := exV (bE lp (ix l i))) M5 rfl rfl rfl (ay5 he) (fun h6 M6 => aw (ah ?_))
   replace M6 : Mem h6 (⟨.op i5 w5 0, 90, 7, [exV (bE lp (ix l i))]⟩ :: ⟨.op i3 w3 0, 44, 5, [.agg [vi (ix l i).ID, c1, vi (ix l i).Entry.Priority, vi (ix l i).Entry.Call.Action, c2]]⟩ :: ⟨.op ixi ixv 0, 69, 16, [.agg (ixC [a0, a1, a2, a3, a4, a5, a6, a7, a8] t kd wv rv lp (.om m1 u1) (.om m2 u2))]⟩ :: ⟨.om m1 u1, 66, 2, exE (mpV st.1)⟩ :: ⟨.om m2 u2, 67, 2, exE ps⟩ :: (N ++ R)) := M6
   refine ae (ae (ai (mV rfl (ab (bv rfl rfl) (ab (bz rfl) (ab (dg (k := 2) (off := 13) (w := vi lp) M6 rfl rfl rfl) (ab (bd rfl rfl ck) (aw (ah (bf rfl (fun hc => ?_) fun hc => ?_))))))))))
   ·simp only [decide_eq_true_eq] at hc
    have hs : bS (ix W lp) lp (ix l i) i st = (wput st.1 (bE lp (ix l i)) i, st.2) := by unfold bS; rw [if_pos hc]
    rw [bL, hs] at hp
    refine ae (ai (mV rfl (ab (bv rfl rfl) (ab (bz rfl) (ab (dg (k := 2) (off := 14) (w := .om m1 u1) M6 rfl rfl rfl) (ab (gi (k := 0) M6 rfl rfl rfl) (mV rfl ?_)))))))
    refine bf0 (k := 3) (v := vi i) M6 rfl rfl rfl rfl (cv2 hB1) he rfl (fun h7 M7 => aw (ah ?_))
    rw [← bf8] at M7
    refine di (dv (fa (ah (ai (ab (bd rfl rfl dz) (mV rfl (aw (cq ?_))))))))
    refine mf ?_ (aw7 rw_ rr HB K m (i := i + 1) (st := (wput st.1 (bE lp (ix l i)) i, st.2)) (ps := ps) (N := N) (by omega) (by omega) (by omega) (hB1.put he i) hB2 HT hp (Mem.sub M7 (.cons _ (.cons _ (List.Sublist.refl _)))))
    exact kx (by show some (vi (wr (i + 1))) = _; rw [hinc]) (sB rfl)
   ·simp only [decide_eq_false_iff_not] at hc
    have hlp : 0 ≤ lp := by omega
    have hs : bS (ix W lp) lp (ix l i) i st = (st.1, wput st.2 (bE lp (ix l i)) (bT (ix W lp) lp (ix l i) i ((wget st.2 (bE lp (ix l i))).getD t0))) := by unfold bS; rw [if_neg (by omega)]
    obtain ⟨b2, c5, c4⟩ := HB.w hlp (by omega)
    obtain ⟨b8, b9⟩ := HB.lk i h0 hlt hlp
    rw [bL, hs] at hp
    refine az (ah (ae (ai (mV rfl (ab (bv rfl rfl) (ab (bz rfl) (ab (dg (k := 2) (off := 11) (w := wv) M6 rfl rfl (mk1 (TR.agg _ rw_))) (mV rfl (ab (bv rfl rfl) (ab (bz rfl) (ab (dg (k := 2) (off := 13) (w := vi lp) M6 rfl rfl rfl) ?_)))))))))))
    refine ab (bn rfl rfl (slI rw_ hlp b2)) (ab (ba rfl rfl rfl) (mV rfl (aw (ah ?_))))
    refine ae ?_
    refine xm (F := fun b S Q => ∀ {h : Heap} {ps : List (Ex × PV)} {N : List Ent} {ts : List (Ex × Tr)} {tr : Tr}, TsM (ix W lp) ts ps N → MapB ts → wget ts (bE lp (ix l i)) = some tr → bL (ix W lp) lp l m (i + 1) (st.1, wput ts (bE lp (ix l i)) (bT (ix W lp) lp (ix l i) i tr)) = res → Mem h (⟨.op i5 w5 0, 90, 7, [exV (bE lp (ix l i))]⟩ :: ⟨.op i3 w3 0, 44, 5, [.agg [vi (ix l i).ID, c1, vi (ix l i).Entry.Priority, vi (ix l i).Entry.Call.Action, c2]]⟩ :: ⟨.op ixi ixv 0, 69, 16, [.agg (ixC [a0, a1, a2, a3, a4, a5, a6, a7, a8] t kd wv rv lp (.om m1 u1) (.om m2 u2))]⟩ :: ⟨.om m1 u1, 66, 2, exE (mpV st.1)⟩ :: ⟨.om m2 u2, 67, 2, exE ps⟩ :: (N ++ R)) → RC Tryz.prog b S Q [(37, vi i), (36, vi (l.length : Int)), (35, rv), (5, vi (ix W lp)), (4, .op i5 w5 0), (3, .op i3 w3 0), (2, vi i), (0, .op ixi ixv 0)] h) ?_ ?_
    ·clear hp HT M M3 M4 M5 M6
     intro h ps N ts tr HT hBt hg hp M6
     obtain ⟨km, ek, qm⟩ := cr (i := lp) qk hlp b8
     refine ae (ai (ab (bz rfl) (ab (bz rfl) (ab (dg (k := 1) (off := 1) (w := c1) M6 rfl rfl (mk1 (TR.agg _ qk))) (mV rfl (ab (bv rfl rfl) (ab (bz rfl) (ab (dg (k := 2) (off := 13) (w := vi lp) M6 rfl rfl rfl) ?_))))))))
     refine ab (bn rfl rfl ek) (ab (ba rfl (TR.cnt _ qm) (TR.agg _ qm)) ?_)
     refine dk (x := .agg [da 0#32, da 0#32]) M6 rfl rfl (fun i8 w8 h8 M8 => ?_)
     refine cz (k := 0) (v := km) M8 rfl rfl rfl (TR.cnt _ qm) (fun h9 M9 => aw (ah ?_))
     refine ae (ae8 (k := 0) (E' := [(37, vi i), (36, vi (l.length : Int)), (35, rv), (8, .fp km), (5, vi (ix W lp)), (4, .op i5 w5 0), (2, vi i), (0, .op ixi ixv 0)]) M9 rfl (iy rfl (iy rfl (iy rfl (xu rfl (iy rfl (iy rfl (iy rfl (iy rfl ab7)))))))) (fun b1 a9 => ?_))
     replace a9 : Mem b1 (⟨.op i5 w5 0, 90, 7, [exV (bE lp (ix l i))]⟩ :: ⟨.op i3 w3 0, 44, 5, [.agg [vi (ix l i).ID, c1, vi (ix l i).Entry.Priority, vi (ix l i).Entry.Call.Action, c2]]⟩ :: ⟨.op ixi ixv 0, 69, 16, [.agg (ixC [a0, a1, a2, a3, a4, a5, a6, a7, a8] t kd wv rv lp (.om m1 u1) (.om m2 u2))]⟩ :: ⟨.om m1 u1, 66, 2, exE (mpV st.1)⟩ :: ⟨.om m2 u2, 67, 2, exE ps⟩ :: (N ++ R)) := a9
     refine ab (bb rfl (ay.g_Mask qm)) (ab (ba rfl rfl rfl) (mV rfl ?_))
     refine cL bq7 rfl rfl (aq rfl (aq rfl bg)) (mV rfl (ab (dq rfl rfl) (ab (dq rfl rfl) (mV rfl (mV rfl (aw (ah ?_)))))))
     obtain ⟨pr, Nt, Nr, g1, g2, g3, g4, g5⟩ := HT.found hg
     cases tr with
     | nil => exact absurd rfl g2
     | node tl tr_ ts_ tv =>
     refine ae (ai (mV rfl (aw (ah (bf rfl (fun hd => ?_) fun hd => ?_)))))
     ·refine tf ?_
      have hBp := am3 HT.B hBt
      refine cv (mV rfl (cw (cv (ab (bv rfl rfl) (cw (cv (ab (bz rfl) (cw ?_))))))))
      refine cv (ab (dg (k := 2) (off := 15) (w := .om m2 u2) a9 rfl rfl rfl) (cw (cv (ab (gi (k := 0) a9 rfl rfl rfl) (cw ?_)))))
      refine cv (ue (k := 4) a9 rfl rfl rfl hBp he (cw ?_))
      rw [g1]
      refine cv (ab (bb rfl (ay.g_Value qm)) (cw (cv (ab (ba rfl rfl rfl) (cw (cv (mV rfl (cw (cv (mV rfl (cw ?_)))))))))))
      have c3 : Mem b1 (Nt ++ (⟨.op i5 w5 0, 90, 7, [exV (bE lp (ix l i))]⟩ :: ⟨.op i3 w3 0, 44, 5, [.agg [vi (ix l i).ID, c1, vi (ix l i).Entry.Priority, vi (ix l i).Entry.Call.Action, c2]]⟩ :: ⟨.op ixi ixv 0, 69, 16, [.agg (ixC [a0, a1, a2, a3, a4, a5, a6, a7, a8] t kd wv rv lp (.om m1 u1) (.om m2 u2))]⟩ :: ⟨.om m1 u1, 66, 2, exE (mpV st.1)⟩ :: ⟨.om m2 u2, 67, 2, exE ps⟩ :: (Nr ++ R))) := a9.perm (by
       refine .trans (.cons _ (.cons _ (.cons _ (.cons _ (.cons _ (g4.append_right R)))))) ?_
       classical exact List.perm_iff_count.2 fun a => by simp only [List.count_append, List.count_cons, List.cons_append]; omega)
      obtain ⟨c7, c6, b7, L', k1, b4⟩ := cv9 (x := (ix (ix l i).Entry.Keys lp).Value) (n := (dh (ix (ix l i).Entry.Keys lp).Mask (ix W lp)).1) (i := i) g3 c3 c4
      refine bj7 (cap := []) rfl rfl b7 (am8 ?_)
      obtain ⟨N', k2, k3⟩ := g5 (bT (ix W lp) lp (ix l i) i (.node tl tr_ ts_ tv)) L' (cn8 (by simp)) k1
      have c0 : Mem c6 (⟨.op ixi ixv 0, 69, 16, [.agg (ixC [a0, a1, a2, a3, a4, a5, a6, a7, a8] t kd wv rv lp (.om m1 u1) (.om m2 u2))]⟩ :: ⟨.om m1 u1, 66, 2, exE (mpV st.1)⟩ :: ⟨.om m2 u2, 67, 2, exE ps⟩ :: (N' ++ R)) := by
       have b6 := b4.perm (L' := ⟨.op i5 w5 0, 90, 7, [exV (bE lp (ix l i))]⟩ :: ⟨.op i3 w3 0, 44, 5, [.agg [vi (ix l i).ID, c1, vi (ix l i).Entry.Priority, vi (ix l i).Entry.Call.Action, c2]]⟩ :: ⟨.op ixi ixv 0, 69, 16, [.agg (ixC [a0, a1, a2, a3, a4, a5, a6, a7, a8] t kd wv rv lp (.om m1 u1) (.om m2 u2))]⟩ :: ⟨.om m1 u1, 66, 2, exE (mpV st.1)⟩ :: ⟨.om m2 u2, 67, 2, exE ps⟩ :: (N' ++ R)) (by
        refine .trans ?_ (.cons _ (.cons _ (.cons _ (.cons _ (.cons _ (k3.append_right R))))))
        classical exact List.perm_iff_count.2 fun a => by simp only [List.count_append, List.count_cons, List.cons_append]; omega)
       exact Mem.sub b6 (.cons _ (.cons _ (List.Sublist.refl _)))
      refine dc (ah (ai (ab (bd rfl rfl dz) (mV rfl (aw (cq ?_))))))
      refine mf ?_ (aw7 rw_ rr HB K m (i := i + 1) (st := (st.1, wput ts (bE lp (ix l i)) (bT (ix W lp) lp (ix l i) i (.node tl tr_ ts_ tv)))) (ps := ps) (N := N') (by omega) (by omega) (by omega) hB1 (hBt.put he _) k2 hp c0)
      exact kx (by show some (vi (wr (i + 1))) = _; rw [hinc]) (sB rfl)
     ·rw [b9] at hd; cases hd
    ·intro J
     have hBp := am3 HT.B hB2
     refine ae (ai (mV rfl (ab (bv rfl rfl) (ab (bz rfl) (ab (dg (k := 2) (off := 15) (w := .om m2 u2) M6 rfl rfl rfl) (ab (gi (k := 0) M6 rfl rfl rfl) ?_))))))
     refine ue (k := 4) M6 rfl rfl rfl hBp he ?_
     cases hg : wget st.2 (bE lp (ix l i)) with
     | none =>
      rw [HT.absent hg]
      refine ab (v := vb true) (bd rfl rfl rfl) (aw (ah (bf rfl (fun hd => ?_) fun hd => by cases hd)))
      obtain ⟨c8, h7, b3, pr, Lt, rfl, k1, M7⟩ := dj3 c5 M6
      refine ae (pp (dx (mV rfl (dw (xb rfl rfl b3 (dx (mV rfl (dw (dx (ab (dq rfl rfl) (dw (dx (ab (dq rfl rfl) (dw (dx (mV rfl (dw (dx (mV rfl (dw (wz (ah ?_))))))))))))))))))))))
      refine ae (ai (mV rfl (ab (bd rfl rfl ld) (aw (ah (bf rfl (fun hd => ?_) fun hd => by simp at hd))))))
      have M8 := M7.perm (L' := ⟨.op i5 w5 0, 90, 7, [exV (bE lp (ix l i))]⟩ :: ⟨.op i3 w3 0, 44, 5, [.agg [vi (ix l i).ID, c1, vi (ix l i).Entry.Priority, vi (ix l i).Entry.Call.Action, c2]]⟩ :: ⟨.op ixi ixv 0, 69, 16, [.agg (ixC [a0, a1, a2, a3, a4, a5, a6, a7, a8] t kd wv rv lp (.om m1 u1) (.om m2 u2))]⟩ :: ⟨.om m1 u1, 66, 2, exE (mpV st.1)⟩ :: ⟨.om m2 u2, 67, 2, exE ps⟩ :: (Lt ++ (N ++ R))) (by
       classical exact List.perm_iff_count.2 fun a => by simp only [List.count_append, List.count_cons, List.cons_append]; omega)
      refine ai (mV rfl (ab (bv rfl rfl) (ab (bz rfl) (ab (dg (k := 2) (off := 15) (w := .om m2 u2) M8 rfl rfl rfl) (ab (gi (k := 0) M8 rfl rfl rfl) (mV rfl ?_))))))
      refine bf0 (k := 4) (v := triP (ix W lp) pr) M8 rfl rfl rfl rfl hBp he (cd5 _ _) (fun h9 M9 => aw (ah ?_))
      obtain ⟨N', k2, k3⟩ := HT.new (t := t0) (by simp [t0]) k1 hg
      refine wC (J (ps := wput ps (bE lp (ix l i)) (triP (ix W lp) pr)) (N := N') (ts := wput st.2 (bE lp (ix l i)) t0) (tr := t0) k2 (hB2.put he _) (by rw [xf, if_pos rfl]) (by rw [au4]; rw [hg] at hp; exact hp) (M9.perm ?_)) rfl
      ·refine .trans ?_ (.cons _ (.cons _ (.cons _ (.cons _ (.cons _ (k3.append_right R))))))
       show List.Perm (_ :: _ :: _ :: _ :: _ :: (Lt ++ (N ++ R))) _
       rw [List.append_assoc]
     | some tr =>
      obtain ⟨pr, Nt, Nr, g1, g2, g3, g4, g5⟩ := HT.found hg
      rw [g1]
      refine ab (v := vb false) (bd rfl rfl rfl) (aw (ah (bf rfl (fun hd => by cases hd) fun hd => ?_)))
      refine az (ah ?_)
      exact wC (J (ps := ps) (N := N) (ts := st.2) (tr := tr) HT hB2 hg (by rw [hg] at hp; exact hp) M6) rfl
  ·simp only [decide_eq_false_iff_not] at hc; omega
theorem TsM.nil_ (w : Int) : TsM w [] [] [] := rfl
theorem de2 {ixi ixv m1 u1 m2 u2 : Nat} {a0 a1 a2 a3 a4 a5 a6 a7 a8 wv rv : PV} {t kd : Int} {W : List Int} {l : List am} {R : List Ent} {h : Heap} {q : aa} (rq : aa.t.R q (.agg [a0, a1, a2, a3, a4, a5, a6, a7, a8])) (b0 : 0 ≤ t) (a9 : t < q.Tables.length) (rw_ : (tSl tI).R W wv) (rr : (tSl am.t).R l rv)
  (HB : kd ≠ 3 → RowB W (lpX (ix q.Tables t).Keys) l) (M : Mem h (⟨.op ixi ixv 0, 69, 16, [.agg (ixC [a0, a1, a2, a3, a4, a5, a6, a7, a8] t kd wv rv (-1) (.om m1 u1) (.om m2 u2))]⟩ :: ⟨.om m1 u1, 66, 2, []⟩ :: ⟨.om m2 u2, 67, 2, []⟩ :: R)) :
  ∃ r h', FnX Tryz.prog 46 [.op ixi ixv 0] h r h' ∧ r = .tup [] ∧ ∃ ps N, TsM (ix W (if kd = 3 then -1 else lpX (ix q.Tables t).Keys)) (bR kd W (lpX (ix q.Tables t).Keys) l).2 ps N ∧ MapB (bR kd W (lpX (ix q.Tables t).Keys) l).1 ∧ MapB (bR kd W (lpX (ix q.Tables t).Keys) l).2 ∧
   Mem h' (⟨.op ixi ixv 0, 69, 16, [.agg (ixC [a0, a1, a2, a3, a4, a5, a6, a7, a8] t kd wv rv (if kd = 3 then -1 else lpX (ix q.Tables t).Keys) (.om m1 u1) (.om m2 u2))]⟩ :: ⟨.om m1 u1, 66, 2, exE (mpV (bR kd W (lpX (ix q.Tables t).Keys) l).1)⟩ :: ⟨.om m2 u2, 67, 2, exE ps⟩ :: (N ++ R)) := by
 refine fnX ca6 (by simp) ?_
 refine ae (ae (ai (mV rfl (ab (bv rfl rfl) (ab (bz rfl) (ab (dg (k := 0) (off := 10) (w := vi kd) M rfl rfl rfl) (ab (bd rfl rfl ld) (aw (ah (bf rfl (fun hc => ?_) fun hc => ?_))))))))))
 ·simp only [decide_eq_true_eq] at hc
  refine ml .nil ⟨rfl, [], [], ?_⟩
  unfold bR
  rw [if_pos hc, if_pos hc]
  exact ⟨rfl, MapB.nil, MapB.nil, M⟩
 ·simp only [decide_eq_false_iff_not] at hc
  obtain ⟨wt, gt, rt⟩ := aa.g_Tables rq
  obtain ⟨e0, b1, q0⟩ := cr (i := t) rt b0 a9
  obtain ⟨wk, gk, rk⟩ := ax.g_Keys q0
  unfold bR
  rw [if_neg hc, if_neg hc]
  refine az (ah (ae (tf ?_)))
  refine cv (mV rfl (cw (cv (mV rfl (cw (cv (ab (bv rfl rfl) (cw (cv (ab (bz rfl) (cw (cv (ab (bz rfl) (cw ?_))))))))))))))
  refine cv (ab (dg (k := 0) (off := 5) (w := wt) M rfl rfl gt) (cw ?_))
  refine cv (mV rfl (cw (cv (ab (bv rfl rfl) (cw (cv (ab (bz rfl) (cw ?_))))))))
  refine cv (ab (dg (k := 0) (off := 9) (w := vi t) M rfl rfl rfl) (cw ?_))
  refine cv (ab (bn rfl rfl b1) (cw (cv (ab (bb rfl gk) (cw (cv (ab (ba rfl (TR.cnt _ rk) (TR.agg _ rk)) (cw ?_))))))))
  refine cv (cL (dh0 rk ec3) rfl rfl (aq (TR.clo _ rk) (aq rfl bg)) (cw ?_))
  refine cv (ab (bv rfl rfl) (cw (cv (ab (bz rfl) (cw ?_)))))
  refine cv (mr (off := 13) (k := 0) (v := vi (lpX (ix q.Tables t).Keys)) M rfl rfl rfl rfl rfl (by simp [ixC]) (fun h2 M2 => cw (am8 (ah ?_))))
  replace M2 : Mem h2 (⟨.op ixi ixv 0, 69, 16, [.agg (ixC [a0, a1, a2, a3, a4, a5, a6, a7, a8] t kd wv rv (lpX (ix q.Tables t).Keys) (.om m1 u1) (.om m2 u2))]⟩ :: ⟨.om m1 u1, 66, 2, []⟩ :: ⟨.om m2 u2, 67, 2, []⟩ :: R) := M2
  refine ae (ai (mV rfl (ab (bv rfl rfl) (ab (bz rfl) (ab (dg (k := 0) (off := 12) (w := rv) M2 rfl rfl (mk1 (TR.agg _ rr))) (ab (ca rfl (bq rr Tryz.underlying32 _)) (ab (v := vi 0) (ak rfl) (aw (ah (bh ?_))))))))))
  refine wC (aw7 rw_ rr (HB hc) (t := t) (kd := kd) (R := R) ?_ l.length (i := 0) (st := ([], [])) (ps := []) (N := []) (by omega) (by omega) (by omega) MapB.nil MapB.nil (TsM.nil_ _) rfl M2) rfl
  ·intro h3 ps N k1 k2 k3 M3
   exact fa (cp6 .nil ⟨rfl, ps, N, k1, k2, k3, M3⟩)
theorem br6 {S : List Fr} {p : aa} {t : Int} {l : List am} {v0 v2 : PV} {R : List Ent} {mi mv : Nat} {res : Int} {Φ : PV → Heap → Prop} (r0 : aa.t.R p v0) (r2 : (tSl am.t).R l v2)
  (Kb : ∀ {h : Heap}, res ≠ 0 → Mem h R → Φ (.tup [nilP, vi res]) h)
  (K : ∀ {h : Heap}, res = 0 → Mem h R → PX Tryz.prog 0 S (retPost Tryz.prog [(6, none), (7, none)] Φ) [(3, .fp v0), (2, v2), (1, vi t)] h) :
  ∀ (m : Nat) {i : Int} {z : List (Int × Bool)} {es : List PV} {h : Heap}, m = Int.toNat ((l.length : Int) - i) → 0 ≤ i → i ≤ l.length → All2 (tKV tB).R z es → newL p t l m i z = res → Mem h (⟨.om mi mv, 82, 2, es⟩ :: R) →
   RC Tryz.prog (.loop cj7) S (retPost Tryz.prog [(6, none), (7, none)] Φ) [(31, vi i), (30, vi (l.length : Int)), (29, v2), (10, .om mi mv), (3, .fp v0), (2, v2), (1, vi t)] h
 | 0, i, z, es, h, hm, h0, h1, hz, hp, M => by
  refine br ?_
  refine ae (ai (ab (bd rfl rfl ck) (aw (ah (ae (bf rfl (fun hc => ?_) fun hc => ?_))))))
  ·simp only [decide_eq_true_eq] at hc; omega
  ·have hp : (0 : Int) = res := hp
   exact di (dv (ct (wP (K hp.symm (Mem.sub M (.cons _ (List.Sublist.refl _)))) rfl)))
 | m + 1, i, z, es, h, hm, h0, h1, hz, hp, M => by
  have hlt : i < (l.length : Int) := by omega
  have hb := dm r2
  have hinc : wr (i + 1) = i + 1 := dt (by omega) (by omega)
  refine br ?_
  refine ae (ai (ab (bd rfl rfl ck) (aw (ah (ae (bf rfl (fun hc => ?_) fun hc => ?_))))))
  ·obtain ⟨g, e0, q0⟩ := cr (i := i) r2 h0 hlt
   obtain ⟨we, ge, re⟩ := am.g_Entry q0
   refine az (ah (ae (bh (ae (ai (mV rfl (ab (bn rfl rfl e0) (ab (ba rfl (TR.cnt _ q0) (TR.agg _ q0)) ?_))))))))
   refine dk (x := .agg [vi 0, nilS, vi 0, vi 0, nilS]) M rfl rfl (fun i3 w3 h3 M3 => mV rfl ?_)
   refine cz (k := 0) (v := g) M3 rfl rfl rfl (TR.cnt _ q0) (fun h4 M4 => aw (ah ?_))
   refine ae (ae (ae8 (k := 0) (E' := [(31, vi i), (30, vi (l.length : Int)), (29, v2), (12, .fp g), (11, vi i), (10, .om mi mv), (3, .fp v0), (2, v2), (1, vi t)]) M4 rfl (iy rfl (iy rfl (iy rfl (xu rfl (iy rfl (iy rfl (iy rfl (iy rfl (iy rfl ab7))))))))) (fun h5 M5 => ?_)))
   replace M5 : Mem h5 (⟨.om mi mv, 82, 2, es⟩ :: R) := M5
   refine ab (ba rfl (TR.cnt _ r0) (TR.agg _ r0)) (mV rfl (ab (bb rfl ge) (ab (ba rfl (TR.cnt _ re) (TR.agg _ re)) ?_)))
   refine cL (cy2 r0 re) rfl rfl (aq (TR.clo _ r0) (aq rfl (aq (TR.clo _ re) bg))) (mV rfl (aw (ah ?_)))
   rw [newL] at hp
   refine ae (ai (mV rfl (ab (bd rfl rfl jc) (aw (ah (bf rfl (fun hc => ?_) fun hc => ?_))))))
   ·replace hc : (!decide (li p t (ix l i).Entry = 0)) = true := hc
    rw [if_pos hc] at hp
    have a1 : li p t (ix l i).Entry ≠ 0 := by simpa using hc
    refine ae (ai (mV rfl (ab (v := nilP) (ak rfl) (mV rfl (aw (ah ?_))))))
    refine ml (.tmp rfl (.tmp rfl .nil)) ?_
    show Φ (.tup [nilP, vi _]) h5
    rw [hp]
    exact Kb (by rw [← hp]; exact a1) (Mem.sub M5 (.cons _ (List.Sublist.refl _)))
   ·replace hc : (!decide (li p t (ix l i).Entry = 0)) = false := hc
    rw [if_neg (by rw [hc]; simp)] at hp
    have hsl : ∃ tg fs, v2 = .fs tg fs ∧ All2 am.t.R l fs := by
     obtain ⟨⟨fs, hv, hl⟩, _⟩ := r2
     rcases hv with ⟨ad, rfl, rfl⟩ | ⟨tg, rfl⟩
     ·cases l with
      | nil => simp at hlt; omega
      | cons _ _ => simp [All2] at hl
     ·exact ⟨tg, fs, rfl, hl⟩
    obtain ⟨tg, fs, rfl, hfs⟩ := hsl
    have hsub : (tSl am.t).R (l.take i.toNat) (.fs (tg && (i.toNat == fs.length)) ((fs.drop 0).take (i.toNat - 0))) := by
     rw [List.drop_zero, Nat.sub_zero]
     exact zl (All2.take _ hfs) (by rw [List.length_take]; omega)
    obtain ⟨d, a2, a0⟩ := aw9 hsub (ec5 q0)
    have hfl := hfs.length
    refine az (ah (ae (ae (ai (mV rfl (mV rfl (ab (bu5 (l := 0) (u := i.toNat) rfl (vl := none) (vu := some (vi i)) rfl rfl rfl (by show (if 0 ≤ i then some i.toNat else none) = _; rw [if_pos h0]) (by omega) (by omega) (List.all_eq_true.2 fun x hx => by rw [hfs.cnt x hx]; rfl)) ?_)))))))
    refine ab (v := .fn (.func 41) [] [.fp g]) (vh rfl rfl) ?_
    refine cL a2 rfl rfl (aq (TR.clo _ hsub) (aq (by simp [closedL, closed, TR.clo _ q0]) bg)) (mV rfl (ab (dq rfl rfl) (ab (dq rfl rfl) ?_)))
    refine dk (x := .agg [vi 0, nilS, vi 0, vi 0, nilS]) M5 rfl rfl (fun i6 w6 h6 M6 => ?_)
    refine cz (k := 0) (v := d) M6 rfl rfl rfl (TR.cnt _ a0) (fun h7 M7 => mV rfl (aw (ah ?_)))
    replace M7 : Mem h7 (⟨.op i6 w6 0, 44, 5, [d]⟩ :: ⟨.om mi mv, 82, 2, es⟩ :: R) := M7
    have gid : fieldR 0 1 false g = some (vi (ix l i).ID) := by obtain ⟨_, _, rfl, _⟩ := q0; rfl
    refine ae (ai (mV rfl (mV rfl ?_)))
    refine bt 5 (d := 58) (v := vb ((cp (l.take i.toNat) fun x => il x.Entry (ix l i).Entry).2 || (mget z (ix l i).ID).getD false)) ?_ ?_
    ·intro S Q r
     cases (cp (l.take i.toNat) fun x => il x.Entry (ix l i).Entry).2
     ·intro k
      refine af rfl rfl (ak rfl) (af rfl rfl (bb rfl gid) (af rfl rfl (ba rfl rfl rfl) ?_))
      obtain ⟨v, k1, k2⟩ := aq8 (t := tB) (zero := false) (z := .bool false) (ix l i).ID false M7 (k := 1) rfl hz rfl
      have k2 : v = vb ((mget z (ix l i).ID).getD false) := k2
      subst k2
      refine cq1 rfl rfl ⟨rfl, fun T hT => by show lookM h7 (.bool false) false (ev T (.tmp 54)) (ev T (.tmp 56)) = _; rw [du hT rfl, du hT rfl, k1]⟩ ?_
      exact gK rfl rfl rfl rfl rfl k
     ·exact gN 4 rfl rfl rfl rfl rfl rfl
    refine aw (ah (bf rfl (fun hd => ?_) fun hd => ?_))
    ·rw [if_pos hd] at hp
     refine ae (ai (ab (v := nilP) (ak rfl) (ab (v := vi 7) (ak rfl) (aw (ah ?_)))))
     refine ml (.tmp rfl (.tmp rfl .nil)) ?_
     show Φ (.tup [nilP, vi 7]) h7
     rw [hp]
     exact Kb (by omega) (Mem.sub M7 (.cons _ (.cons _ (List.Sublist.refl _))))
    ·rw [if_neg (by rw [hd]; simp)] at hp
     refine az (ah (ai (mV rfl (ab (bb rfl gid) (ab (ba rfl rfl rfl) ?_)))))
     refine bg9 (t := tB) (k := 1) (b := true) M7 rfl rfl rfl rfl hz rfl (fun h8 es' M8 hz' => aw (dc (ah ?_)))
     refine ai (ab (bd rfl rfl dz) (mV rfl (aw (cq ?_))))
     refine mf ?_ (br6 r0 r2 Kb K m (i := i + 1) (by omega) (by omega) (by omega) hz' hp (Mem.sub M8 (.cons _ (List.Sublist.refl _))))
     exact kx (by show some (vi (wr (i + 1))) = _; rw [hinc]) (sB rfl)
  ·simp only [decide_eq_false_iff_not] at hc; omega
theorem cq6 {v d a0 a1 a2 a3 a4 a5 a6 a7 a8 wv m1 m2 : PV} {t kd lp : Int} : FrzL v d (ixC [a0, a1, a2, a3, a4, a5, a6, a7, a8] t kd wv v lp m1 m2) (ixC [a0, a1, a2, a3, a4, a5, a6, a7, a8] t kd wv d lp m1 m2) :=
 .cons (.same _) (.cons (.same _) (.cons (.same _) (.cons (.same _) (.cons (.same _) (.cons (.same _) (.cons (.same _) (.cons (.same _) (.cons (.same _) (.cons (.same _) (.cons (.same _) (.cons (.same _) (.cons .turn (.cons (.same _) (.cons (.same _) (.cons (.same _) .nil)))))))))))))))
theorem bq6 {S : List Fr} {Q : Post} {l : List am} {v2 wv : PV} {R : List Ent} {ixi ixv m1 u1 m2 u2 : Nat} {a0 a1 a2 a3 a4 a5 a6 a7 a8 : PV} {t kd : Int} (r2 : (tSl am.t).R l v2) (hs : ∀ r ∈ l, SR r) (hn : l.length ≤ 1000)
  (K : ∀ {h : Heap} {rv : PV} {es : List PV}, isL rv = true → All2 am.t.R l es → Mem h (⟨rv, 44, 5, es⟩ :: ⟨.op ixi ixv 0, 69, 16, [.agg (ixC [a0, a1, a2, a3, a4, a5, a6, a7, a8] t kd wv rv (-1) (.om m1 u1) (.om m2 u2))]⟩ :: ⟨.om m1 u1, 66, 2, []⟩ :: ⟨.om m2 u2, 67, 2, []⟩ :: R) → PX Tryz.prog 2 S Q [(16, .op ixi ixv 0)] h) :
  ∀ (m : Nat) {i : Int} {rv : PV} {es : List PV} {h : Heap}, m = Int.toNat ((l.length : Int) - i) → 0 ≤ i → i ≤ l.length → isL rv = true → Wri rv es → All2 am.t.R (l.take i.toNat) es →
   Mem h (⟨rv, 44, 5, es⟩ :: ⟨.op ixi ixv 0, 69, 16, [.agg (ixC [a0, a1, a2, a3, a4, a5, a6, a7, a8] t kd wv rv (-1) (.om m1 u1) (.om m2 u2))]⟩ :: ⟨.om m1 u1, 66, 2, []⟩ :: ⟨.om m2 u2, 67, 2, []⟩ :: R) →
   RC Tryz.prog (.loop ci6) S Q [(79, vi i), (78, vi (l.length : Int)), (77, v2), (16, .op ixi ixv 0)] h
 | 0, i, rv, es, h, hm, h0, h1, hne, hw, hl, M => by
  refine br ?_
  refine ae (ai (ab (bd rfl rfl ck) (aw (ah (ae (bf rfl (fun hc => ?_) fun hc => ?_))))))
  ·simp only [decide_eq_true_eq] at hc; omega
  ·rw [List.take_of_length_le (by omega)] at hl
   exact di (dv (ct (wP (K hne hl M) rfl)))
 | m + 1, i, rv, es, h, hm, h0, h1, hne, hw, hl, M => by
  have hlt : i < (l.length : Int) := by omega
  have hinc : wr (i + 1) = i + 1 := dt (by omega) (by omega)
  refine br ?_
  refine ae (ai (ab (bd rfl rfl ck) (aw (ah (ae (bf rfl (fun hc => ?_) fun hc => ?_))))))
  ·obtain ⟨g, e0, q0⟩ := cr (i := i) r2 h0 hlt
   refine az (ah (ae (bh (ae (ai (ab (bn rfl rfl e0) (ab (ba rfl (TR.cnt _ q0) (TR.agg _ q0)) ?_)))))))
   refine dk (x := .agg [vi 0, nilS, vi 0, vi 0, nilS]) M rfl rfl (fun i3 w3 h3 M3 => ?_)
   refine cz (k := 0) (v := g) M3 rfl rfl rfl (TR.cnt _ q0) (fun h4 M4 => aw (ah ?_))
   replace M4 : Mem h4 (⟨.op i3 w3 0, 44, 5, [g]⟩ :: ⟨rv, 44, 5, es⟩ :: ⟨.op ixi ixv 0, 69, 16, [.agg (ixC [a0, a1, a2, a3, a4, a5, a6, a7, a8] t kd wv rv (-1) (.om m1 u1) (.om m2 u2))]⟩ :: ⟨.om m1 u1, 66, 2, []⟩ :: ⟨.om m2 u2, 67, 2, []⟩ :: R) := M4
   have hrow : SR (ix l i) := by rw [oz h0 hlt]; exact hs _ (List.getElem_mem _)
   obtain ⟨d, b0, a9⟩ := an3 q0 hrow
   have b1 := (be6 M4 (k := 1) rfl hne)
   refine ai (mV rfl (mV rfl (ab (bv rfl rfl) (ab (bz rfl) (ab (dg (k := 2) (off := 12) (w := rv) M4 rfl rfl (mk1 b1.2)) (ab (gi (k := 0) M4 rfl rfl (TR.agg _ q0)) ?_))))))
   refine cL b0 rfl rfl (aq (TR.clo _ q0) bg) (ab (v := .fs true [d]) (ly rfl (all_cons (TR.cnt _ a9) oh)) ?_)
   have hlen := hl.length
   have hti : (l.take i.toNat).length = i.toNat := by rw [List.length_take]; omega
   have ff : fits (es.length + [d].length) 72 = true := qs (by simp only [List.length_cons, List.length_nil]; omega) (by simp only [List.length_cons, List.length_nil]; omega)
   refine sx (k := 1) (es := es) (news := [d]) M4 rfl rfl rfl hne hw (bt9 (.inr ⟨true, rfl⟩) (by intro y hy; rw [List.mem_singleton.1 hy]; exact TR.cnt _ a9)) ff (fun a h5 hna hwa M5 => ?_)
   replace M5 : Mem h5 (⟨.op i3 w3 0, 44, 5, [g]⟩ :: ⟨a, 44, 5, es ++ [d]⟩ :: ⟨.op ixi ixv 0, 69, 16, [.agg (ixC [a0, a1, a2, a3, a4, a5, a6, a7, a8] t kd wv rv (-1) (.om m1 u1) (.om m2 u2))]⟩ :: ⟨.om m1 u1, 66, 2, []⟩ :: ⟨.om m2 u2, 67, 2, []⟩ :: R) := M5
   refine ab (bv rfl rfl) (ab (bz rfl) ?_)
   refine mr (off := 12) (k := 2) (v := a) (ds := [a]) M5 rfl rfl rfl (be6 M5 (k := 1) rfl hna).1 rfl (by simp [ixC]) (fun h6 M6 => aw (dc (ah ?_)))
   replace M6 : Mem h6 (⟨.op i3 w3 0, 44, 5, [g]⟩ :: ⟨a, 44, 5, es ++ [d]⟩ :: ⟨.op ixi ixv 0, 69, 16, [.agg (ixC [a0, a1, a2, a3, a4, a5, a6, a7, a8] t kd wv a (-1) (.om m1 u1) (.om m2 u2))]⟩ :: ⟨.om m1 u1, 66, 2, []⟩ :: ⟨.om m2 u2, 67, 2, []⟩ :: R) := M6
   refine ai (ab (bd rfl rfl dz) (mV rfl (aw (cq ?_))))
   have hta : l.take (i + 1).toNat = l.take i.toNat ++ [ix l i] := by rw [show (i + 1).toNat = i.toNat + 1 by omega, List.take_succ_eq_append_getElem (by omega), oz h0 hlt]
   refine mf ?_ (bq6 r2 hs hn K m (i := i + 1) (by omega) (by omega) (by omega) hna hwa (by rw [hta]; exact All2.app hl ⟨a9, trivial⟩) (Mem.sub M6 (.cons _ (List.Sublist.refl _))))
   exact kx (by show some (vi (wr (i + 1))) = _; rw [hinc]) (sB rfl)
  ·simp only [decide_eq_false_iff_not] at hc; omega
def IsIx (p : aa) (t : Int) (l : List am) (x : PV) (L : List Ent) : Prop := ∃ a0 a1 a2 a3 a4 a5 a6 a7 a8 wv rv m1 u1 m2 u2 ps N, x = .fp (.agg (ixC [a0, a1, a2, a3, a4, a5, a6, a7, a8] t (en p t) wv rv (lpN p t) (.om m1 u1) (.om m2 u2))) ∧
 aa.t.R (ownP p t) (.agg [a0, a1, a2, a3, a4, a5, a6, a7, a8]) ∧ (tSl tI).R (dj p t) wv ∧ (tSl am.t).R l rv ∧ TsM (ix (dj p t) (lpN p t)) (bNd p t l).2 ps N ∧ MapB (bNd p t l).1 ∧ MapB (bNd p t l).2 ∧ L = ⟨.om m1 u1, 66, 2, exE (mpV (bNd p t l).1)⟩ :: ⟨.om m2 u2, 67, 2, exE ps⟩ :: N
theorem df6 {p : aa} {t : Int} {l : List am} {v0 v2 : PV} {h : Heap} {R : List Ent} (r0 : aa.t.R p v0) (r2 : (tSl am.t).R l v2) (hn : l.length ≤ 1000) (hs : ∀ r ∈ l, SR r) (hok : newE p t l = 0 → NewOK p t l) (M : Mem h R) :
  ∃ r h', FnX Tryz.prog 15 [v0, vi t, v2] h r h' ∧ ((newE p t l ≠ 0 ∧ r = .tup [nilP, vi (newE p t l)] ∧ Mem h' R) ∨ (newE p t l = 0 ∧ ∃ x L, r = .tup [x, vi 0] ∧ IsIx p t l x L ∧ Mem h' (L ++ R))) := by
 generalize hres : newE p t l = res at *
 refine fnX bo9 (by simp) ?_
 refine ae (ai (ab (db rfl (TR.cnt _ r0)) (ab (v := nilP) (ak rfl) (ab (v := vi 0) (ak rfl) (aw (ah ?_))))))
 unfold newE at hres
 refine ae (ae (ai (ab (ba rfl (TR.cnt _ r0) (TR.agg _ r0)) (mV rfl ?_))))
 refine cL (ba9 r0) rfl rfl (aq (TR.clo _ r0) (aq rfl bg)) (mV rfl (ab (dq rfl rfl) (ab (dq rfl rfl) (mV rfl (mV rfl (aw (ah ?_)))))))
 refine ae (ai (mV rfl (ab (bd rfl rfl jc) (aw (ah (bf rfl (fun hc => ?_) fun hc => ?_))))))
 ·replace hc : (!decide ((gc p t).2 = 0)) = true := hc
  rw [if_pos hc] at hres
  refine ae (ai (mV rfl (ab (v := nilP) (ak rfl) (mV rfl (aw (ah ?_))))))
  refine ml (.tmp rfl (.tmp rfl .nil)) (.inl ⟨by rw [← hres]; simpa using hc, ?_, M⟩)
  show PV.tup [nilP, vi _] = _
  rw [hres]
 ·replace hc : (!decide ((gc p t).2 = 0)) = false := hc
  rw [if_neg (by rw [hc]; simp)] at hres
  refine az (ah (ae (ai (aa2 M (fun mi mv h1 M1 => mV rfl (aw (ah ?_)))))))
  refine ae (ae (ai (mV rfl (ab (ca rfl (bq r2 Tryz.underlying32 _)) (ab (v := vi 0) (ak rfl) (aw (ah (bh ?_))))))))
  refine wC (br6 r0 r2 (res := res) (R := R) (fun {h'} hr M' => .inl ⟨hr, rfl, M'⟩) ?_ l.length (i := 0) (z := []) (es := []) (by omega) (by omega) (by omega) trivial hres M1) rfl
  ·intro h2 hr M2
   have OK := hok hr
   have hb := OK.b
   obtain ⟨pr, a4, a1⟩ := dh9 r0 OK.a OK.b OK.c OK.d
   obtain ⟨wv, a3, rw_⟩ := bw9 (x1 := t) r0
   refine fa (ah (ae (ai (ab (ba rfl (TR.cnt _ r0) (TR.agg _ r0)) (mV rfl ?_)))))
   refine cL a4 rfl rfl (aq (TR.clo _ r0) (aq rfl bg)) (mV rfl (ab (ba rfl (TR.cnt _ r0) (TR.agg _ r0)) (mV rfl ?_)))
   refine cL (by9 r0) rfl rfl (aq (TR.clo _ r0) (aq rfl bg)) (ab (ba rfl (TR.cnt _ r0) (TR.agg _ r0)) (mV rfl ?_))
   refine cL a3 rfl rfl (aq (TR.clo _ r0) (aq rfl bg)) ?_
   refine aa2 M2 (fun m1 u1 h3 M3 => aa2 M3 (fun m2 u2 h4 M4 => ?_))
   have a0 := a1
   obtain ⟨c1, c2, c3, c4, c5, c6, c7, c8, rfl, _⟩ := a0
   have hwv := rw_.1
   refine ab (v := .agg (ixC [vs (ownP p t).Name, c1, c2, c3, c4, c5, c6, c7, c8] t (en p t) wv nilS (-1) (.om m1 u1) (.om m2 u2))) (nj (cs := ixC [vs (ownP p t).Name, c1, c2, c3, c4, c5, c6, c7, c8] t (en p t) wv nilS (-1) (.om m1 u1) (.om m2 u2)) rfl (by obtain ⟨es, he, _⟩ := hwv; rcases he with ⟨ad, rfl, _⟩ | ⟨tg, rfl⟩ <;> rfl)) ?_
   refine xr M4 rfl rfl (fun ixi ixv h5 M5 => mV rfl (aw (ah ?_)))
   refine ae (ae (ai (mV rfl (ab (ca rfl (bq r2 Tryz.underlying32 _)) (ab (v := vi 0) (ak rfl) (aw (ah (bh ?_))))))))
   have M6 : Mem h5 (⟨nilS, 44, 5, []⟩ :: ⟨.op ixi ixv 0, 69, 16, [.agg (ixC [vs (ownP p t).Name, c1, c2, c3, c4, c5, c6, c7, c8] t (en p t) wv nilS (-1) (.om m1 u1) (.om m2 u2))]⟩ :: ⟨.om m1 u1, 66, 2, []⟩ :: ⟨.om m2 u2, 67, 2, []⟩ :: R) :=
    su (M5.perm (.cons _ (.swap _ _ _))) 44 (.inl ⟨none, rfl, rfl⟩) (by simp)
   refine wC (bq6 r2 hs hn (R := R) ?_ l.length (i := 0) (rv := nilS) (es := []) (by omega) (by omega) (by omega) rfl (.inl rfl) trivial M6) rfl
   ·intro h7 rv es hne hl M7
    refine fa (ah (ae (pp ?_)))
    refine ay9 (k := 0) (j := 1) (cs := fun v => ixC [vs (ownP p t).Name, c1, c2, c3, c4, c5, c6, c7, c8] t (en p t) wv v (-1) (.om m1 u1) (.om m2 u2)) M7 rfl rfl hne (fun d => cq6) (fun d => rfl) (fun d h8 hd M8 => ?_)
    replace M8 : Mem h8 (⟨.op ixi ixv 0, 69, 16, [.agg (ixC [vs (ownP p t).Name, c1, c2, c3, c4, c5, c6, c7, c8] t (en p t) wv d (-1) (.om m1 u1) (.om m2 u2))]⟩ :: ⟨.om m1 u1, 66, 2, []⟩ :: ⟨.om m2 u2, 67, 2, []⟩ :: R) := M8
    have rd : (tSl am.t).R l d := ⟨⟨es, hd, hl⟩, by omega⟩
    obtain ⟨a7, h9, a2, rfl, ps, N, k1, k2, k3, M9⟩ := de2 a1 OK.a (xd p t OK.a) rw_ rd (by rw [se p t OK.a]; exact OK.e) M8
    rw [se p t OK.a] at k1 k2 k3 M9
    refine dx (mV rfl (dw (xb rfl rfl a2 (wz (ah ?_)))))
    refine ae (pp ?_)
    refine ad4 (k := 0) (E' := [(16, .fp (.agg (ixC [vs (ownP p t).Name, c1, c2, c3, c4, c5, c6, c7, c8] t (en p t) wv d (lpN p t) (.om m1 u1) (.om m2 u2))))]) M9 rfl (xu rfl ab7) (fun a6 a5 => ?_)
    refine dx (mV rfl (dw (dx (mV rfl (dw (dx (ab (v := vi 0) (ak rfl) (dw (wz (ah ?_)))))))))) 
    exact ml (.tmp rfl (.tmp rfl .nil)) (.inr ⟨hr, _, _, rfl, ⟨_, _, _, _, _, _, _, _, _, wv, d, m1, u1, m2, u2, ps, N, rfl, a1, rw_, rd, k1, k2, k3, rfl⟩, a5⟩)
def zrowV : PV := .agg [vi 0, nilS, vi 0, vi 0, nilS]
theorem an4 : am.t.R zrow zrowV := ⟨nilS, nilS, rfl, gq, gq⟩
theorem bi2 {P : Program} {h : Heap} {a0 a1 a2 a3 a4 a5 a6 a7 a8 wv rv : PV} {t kd lp : Int} {m1 u1 m2 u2 : Nat} (hp : closed (.agg [a0, a1, a2, a3, a4, a5, a6, a7, a8]) = true) (hw : closed wv = true) (hr : closed rv = true) :
  Deep P h (.fp (.agg (ixC [a0, a1, a2, a3, a4, a5, a6, a7, a8] t kd wv rv lp (.om m1 u1) (.om m2 u2)))) (.fp (.agg (ixC [a0, a1, a2, a3, a4, a5, a6, a7, a8] t kd wv rv lp .junk .junk))) := by
 simp only [closed, closedL, Bool.and_eq_true] at hp
 refine (au3 (v := .agg (ixC [a0, a1, a2, a3, a4, a5, a6, a7, a8] t kd wv rv lp (.om m1 u1) (.om m2 u2))) (d := .agg (ixC [a0, a1, a2, a3, a4, a5, a6, a7, a8] t kd wv rv lp .junk .junk)) ⟨by simp [ixC, closed, closedL, hw, hr, hp], rfl, fun k hk w0 F0 x us R hv => ?_⟩).deep
 have H2 : DeepCL P h (ixC [a0, a1, a2, a3, a4, a5, a6, a7, a8] t kd wv rv lp (.om m1 u1) (.om m2 u2)) (ixC [a0, a1, a2, a3, a4, a5, a6, a7, a8] t kd wv rv lp .junk .junk) :=
  ⟨eg hp.1, eg hp.2.1, eg hp.2.2.1, eg hp.2.2.2.1, eg hp.2.2.2.2.1, eg hp.2.2.2.2.2.1, eg hp.2.2.2.2.2.2.1, eg hp.2.2.2.2.2.2.2.1, eg hp.2.2.2.2.2.2.2.2.1, eg rfl, eg rfl, eg hw, eg hr, eg rfl, ad0, ad0, trivial⟩
 simp only [VRC] at hv ⊢
 exact H2.vrl hk R hv
theorem dh1 {p : aa} {t : Int} {l : List am} {x kv : PV} {key : List (BitVec 32)} {h : Heap} {L R : List Ent} (I : IsIx p t l x L) (rk : (tSl kg).R key kv) (OK : FindOK p t l) (hs : ∀ r ∈ l, SR r) (M : Mem h (L ++ R)) :
  ∃ r h', FnX Tryz.prog 17 [x, kv] h r h' ∧ ∃ c0, r = .tup [c0, vb (findP p t l key).2] ∧ am.t.R (findP p t l key).1 c0 ∧ Mem h' (L ++ R) := by
 obtain ⟨a0, a1, a2, a3, a4, a5, a6, a7, a8, wv, rv, m1, u1, m2, u2, ps, N, rfl, rq, rw_, rr, HT, b5, b6, rfl⟩ := I
 generalize hres : findP p t l key = res
 refine fnX ca5 (by simp) ?_
 unfold ds9 be5 bf4 bf3
 have hpc := TR.clo _ rq
 refine ae (ai ?_)
 refine dk (x := zrowV) M rfl rfl (fun i4 w4 h4 M4 => ab (v := vb false) (ak rfl) (aw (ah ?_)))
 refine ae (ae (ai (mV rfl (ab (v := vb false) (bd rfl rfl rfl) (mV rfl ?_)))))
 refine af rfl rfl (ak rfl) (af rfl rfl (bv rfl rfl) (af rfl rfl (bb (w := .om m1 u1) rfl rfl) (af rfl rfl (ba rfl rfl rfl) ?_)))
 refine af rfl rfl (v := vb false) (bd rfl rfl rfl) (ab (v := vb false) (lr rfl rfl rfl rfl) (aw (ah (bf rfl (fun hc => by cases hc) fun hc => ?_))))
 obtain ⟨wt, gt, rt⟩ := aa.g_Tables rq
 obtain ⟨e0, b4, q0⟩ := cr (i := t) rt OK.a (xd p t OK.a)
 obtain ⟨wk, gk, rks⟩ := ax.g_Keys q0
 rw [se p t OK.a] at rks
 refine az (ah (ae (ai (mV rfl (ab (bv rfl rfl) (ab (bb (w := .agg [a0, a1, a2, a3, a4, a5, a6, a7, a8]) rfl rfl) (ab (bb (w := wt) rfl gt) (ab (ba rfl (TR.cnt _ rt) (TR.agg _ rt)) ?_))))))))
 refine mV rfl (ab (bv rfl rfl) (ab (bb (w := vi t) rfl rfl) (ab (ba rfl rfl rfl) (ab (bn rfl rfl b4) (ab (bb rfl gk) (ab (ba rfl (TR.cnt _ rks) (TR.agg _ rks)) (mV rfl (aw (ah ?_)))))))))
 refine ae (ae (ai (mV rfl (ab (bv rfl rfl) (ab (bb (w := vi (en p t)) rfl rfl) (ab (ba rfl rfl rfl) (ab (bd rfl rfl ld) (mV rfl ?_))))))))
 refine bt 6 (d := 46) (v := vb (decide (en p t = 3) || !decide ((key.length : Int) = ((ix p.Tables t).Keys.length : Int)))) ?_ ?_
 ·intro S Q r
  show RD _ _ S Q ((46, vb (decide (en p t = 3) || !decide ((key.length : Int) = ((ix p.Tables t).Keys.length : Int)))) :: (40, vb (decide (en p t = 3))) :: (39, vb (decide (en p t = 3))) :: _) _ → RD _ _ S Q ((40, vb (decide (en p t = 3))) :: (39, vb (decide (en p t = 3))) :: _) _
  cases decide (en p t = 3)
  ·intro k
   refine af rfl rfl (ak rfl) (af rfl rfl (ca rfl (bq rk Tryz.underlying33 _)) (af rfl rfl (ak rfl) (af rfl rfl (ca rfl (bq rks Tryz.underlying85 _)) (af rfl rfl (bd rfl rfl jc) ?_))))
   exact gK rfl rfl rfl rfl rfl k
  ·exact gN 5 rfl rfl rfl rfl rfl rfl
 refine mV rfl ?_
 refine bt 5 (d := 52) (v := vb (slowB p t key)) ?_ ?_
 ·intro S Q r
  unfold slowB
  cases hA : (decide (en p t = 3) || !decide ((key.length : Int) = ((ix p.Tables t).Keys.length : Int)))
  ·intro k
   have hkl : key.length = (dj p t).length := by
    rw [OK.w]
    simp only [Bool.or_eq_false_iff, Bool.not_eq_false', decide_eq_true_eq] at hA
    omega
   refine af rfl rfl (ak rfl) (af rfl rfl (ak rfl) ?_)
   refine fw rfl rfl (uw rfl rfl (ny (bi2 hpc (TR.clo _ rw_) (TR.clo _ rr)) (ny (cj (TR.clo _ rk)) yr)) (dd0 rw_ rk hkl) rfl) (af rfl rfl (ft rfl) ?_)
   exact gK rfl rfl rfl rfl rfl k
  ·exact gN 4 rfl rfl rfl rfl rfl rfl
 unfold findP at hres
 refine aw (ah (bf rfl (fun hc => ?_) fun hc => ?_))
 ·rw [if_pos hc] at hres
  obtain ⟨c0, b3, b0⟩ := dd3 (x1 := t) rq rr rk hs
  rw [hres] at b3 b0
  refine ae (tf ?_)
  refine cv (mV rfl (cw (cv (ab (bv rfl rfl) (cw (cv (ab (bb (w := .agg [a0, a1, a2, a3, a4, a5, a6, a7, a8]) rfl rfl) (cw (cv (ab (ba rfl rfl rfl) (cw ?_)))))))))))
  refine cv (mV rfl (cw (cv (ab (bv rfl rfl) (cw (cv (ab (bb (w := vi t) rfl rfl) (cw (cv (ab (ba rfl rfl rfl) (cw ?_)))))))))))
  refine cv (mV rfl (cw (cv (ab (bv rfl rfl) (cw (cv (ab (bb (w := rv) rfl (mk1 (TR.agg _ rr))) (cw (cv (ab (ba rfl (TR.cnt _ rr) (TR.agg _ rr)) (cw ?_)))))))))))
  refine cv (mV rfl (cw ?_))
  refine cv (cL b3 rfl rfl (aq hpc (aq rfl (aq (TR.clo _ rr) (aq (TR.clo _ rk) bg)))) (cw ?_))
  refine cv (ab (dq rfl rfl) (cw (cv (ab (dq rfl rfl) (cw ?_)))))
  refine cv (cz (k := 0) (v := c0) M4 rfl rfl rfl (TR.cnt _ b0) (fun h5 M5 => cw (cv (mV rfl (cw (am8 (ah ?_)))))))
  exact ml (.cell rfl (ga (k := 0) M5 rfl (TR.agg _ b0)) (.tmp rfl .nil)) ⟨c0, rfl, b0, Mem.sub M5 (.cons _ (List.Sublist.refl _))⟩
 ·have b2 := hc
  rw [if_neg (by rw [hc]; simp)] at hres
  unfold slowB at b2
  simp only [Bool.or_eq_false_iff, Bool.not_eq_false', decide_eq_true_eq, decide_eq_false_iff_not] at b2
  have hd := OK.d
  have hkl := b2.1.2
  have he : ExB (pk key (lpN p t)) := pk_B _ _
  refine az (ah (ae (ai (mV rfl (mV rfl (ab (bv rfl rfl) (ab (bb (w := vi (lpN p t)) rfl rfl) (ab (ba rfl rfl rfl) ?_))))))))
  refine cL (bo8 rk (by omega)) rfl rfl (aq (TR.clo _ rk) (aq rfl bg)) ?_
  refine dk (x := exV exz) M4 rfl rfl (fun i7 w7 h7 M7 => ?_)
  refine cz (k := 0) (v := exV (pk key (lpN p t))) M7 rfl rfl rfl (ay5 he) (fun h8 M8 => aw (ah ?_))
  replace M8 : Mem h8 (⟨.op i7 w7 0, 90, 7, [exV (pk key (lpN p t))]⟩ :: ⟨.op i4 w4 0, 44, 5, [zrowV]⟩ :: ⟨.om m1 u1, 66, 2, exE (mpV (bNd p t l).1)⟩ :: ⟨.om m2 u2, 67, 2, exE ps⟩ :: (N ++ R)) := M8
  refine ae (ae (ai (mV rfl (ab (bv rfl rfl) (ab (bb (w := vi (lpN p t)) rfl rfl) (ab (ba rfl rfl rfl) (ab (bd rfl rfl ck) (aw (ah (bf rfl (fun hc => ?_) fun hc => ?_))))))))))
  ·simp only [decide_eq_true_eq] at hc
   rw [if_pos hc] at hres
   refine ae (ai (mV rfl (ab (bv rfl rfl) (ab (bb (w := .om m1 u1) rfl rfl) (ab (ba rfl rfl rfl) (ab (gi (k := 0) M8 rfl rfl rfl) ?_))))))
   refine ue (k := 2) M8 rfl rfl rfl (cv2 b5) he ?_
   rw [bd6]
   cases hg : wget (bNd p t l).1 (pk key (lpN p t)) with
   | none =>
    rw [hg] at hres
    refine mV rfl (ab (v := vi 0) (dq rfl rfl) (ab (v := vb false) (dq rfl rfl) (mV rfl (mV rfl (aw (ah ?_))))))
    refine ae (ae (ai (mV rfl (ab (v := vb true) (ft (k := false) rfl) (aw (ah (bf rfl (fun hd => ?_) fun hd => by cases hd)))))))
    refine ae (ai (ab (v := zrowV) (nj (cs := [vi 0, nilS, vi 0, vi 0, nilS]) rfl rfl) ?_))
    refine cz (k := 1) (v := zrowV) M8 rfl rfl rfl rfl (fun h9 M9 => ab (v := vb false) (ak rfl) (aw (ah ?_)))
    subst hres
    exact ml (.cell rfl (ga (k := 1) M9 rfl rfl) (.tmp rfl .nil)) ⟨_, rfl, an4, Mem.sub M9 (.cons _ (.cons _ (List.Sublist.refl _)))⟩
   | some i =>
    rw [hg] at hres
    obtain ⟨j0, j1⟩ := OK.i1 hc _ _ hg
    obtain ⟨g, ig, qg⟩ := cr (i := i) rr j0 j1
    refine mV rfl (ab (v := vi i) (dq rfl rfl) (ab (v := vb true) (dq rfl rfl) (mV rfl (mV rfl (aw (ah ?_))))))
    refine ae (ae (ai (mV rfl (ab (v := vb false) (ft (k := true) rfl) (aw (ah (bf rfl (fun hd => by cases hd) fun hd => ?_)))))))
    refine az (ah (ae (ai (mV rfl (ab (bv rfl rfl) (ab (bb (w := rv) rfl (mk1 (TR.agg _ rr))) (ab (ba rfl (TR.cnt _ rr) (TR.agg _ rr)) (mV rfl (ab (bn rfl rfl ig) (ab (ba rfl (TR.cnt _ qg) (TR.agg _ qg)) ?_))))))))))
    obtain ⟨c0, b1, a9⟩ := an3 qg (by rw [oz j0 j1]; exact hs _ (List.getElem_mem _))
    refine cL b1 rfl rfl (aq (TR.clo _ qg) bg) ?_
    refine cz (k := 1) (v := c0) M8 rfl rfl rfl (TR.cnt _ a9) (fun h9 M9 => ab (v := vb true) (ak rfl) (aw (ah ?_)))
    subst hres
    exact ml (.cell rfl (ga (k := 1) M9 rfl (TR.agg _ a9)) (.tmp rfl .nil)) ⟨_, rfl, a9, Mem.sub M9 (.cons _ (.cons _ (List.Sublist.refl _)))⟩
  ·simp only [decide_eq_false_iff_not] at hc
   have hlp : 0 ≤ lpN p t := by omega
   have hlk := OK.lp
   rw [if_neg hc] at hres
   have hBp := am3 HT.B b6
   refine az (ah (ae (ae (ai (mV rfl (ab (bv rfl rfl) (ab (bb (w := .om m2 u2) rfl rfl) (ab (ba rfl rfl rfl) (ab (gi (k := 0) M8 rfl rfl rfl) ?_)))))))))
   refine ue (k := 3) M8 rfl rfl rfl hBp he ?_
   cases hg : wget (bNd p t l).2 (pk key (lpN p t)) with
   | none =>
    rw [hg] at hres
    rw [HT.absent hg]
    refine ab (v := vb true) (bd rfl rfl rfl) (aw (ah (bf rfl (fun hd => ?_) fun hd => by cases hd)))
    refine ae (ai (ab (v := zrowV) (nj (cs := [vi 0, nilS, vi 0, vi 0, nilS]) rfl rfl) ?_))
    refine cz (k := 1) (v := zrowV) M8 rfl rfl rfl rfl (fun h9 M9 => ab (v := vb false) (ak rfl) (aw (ah ?_)))
    subst hres
    exact ml (.cell rfl (ga (k := 1) M9 rfl rfl) (.tmp rfl .nil)) ⟨_, rfl, an4, Mem.sub M9 (.cons _ (.cons _ (List.Sublist.refl _)))⟩
   | some tr =>
    rw [hg] at hres
    simp only at hres
    obtain ⟨pr, Nt, Nr, g1, g2, g3, g4, g5⟩ := HT.found hg
    have b7 := OK.i2 hlp _ tr (ix key (lpN p t)) hg
    cases tr with
    | nil => exact absurd rfl g2
    | node tl tr_ ts_ tv =>
    rw [g1]
    refine ab (v := vb false) (bd rfl rfl rfl) (aw (ah (bf rfl (fun hd => by cases hd) fun hd => ?_)))
    refine az (ah (ae (ae (tf ?_))))
    refine cv (mV rfl (cw (cv (ab (bv rfl rfl) (cw (cv (ab (bb (w := .om m2 u2) rfl rfl) (cw (cv (ab (ba rfl rfl rfl) (cw (cv (ab (gi (k := 0) M8 rfl rfl rfl) (cw ?_))))))))))))))
    refine cv (ue (k := 3) M8 rfl rfl rfl hBp he (cw ?_))
    rw [g1]
    refine cv (mV rfl (cw (cv (mV rfl (cw (cv (ab (bv rfl rfl) (cw (cv (ab (bb (w := vi (lpN p t)) rfl rfl) (cw (cv (ab (ba rfl rfl rfl) (cw ?_))))))))))))))
    refine cv (ab (bn rfl rfl (zr rk hlp (by omega))) (cw (cv (ab (ba rfl rfl rfl) (cw ?_)))))
    have hz : Deep Tryz.prog h8 (triP (ix (dj p t) (lpN p t)) pr) (triP (ix (dj p t) (lpN p t)) (trF (.node tl tr_ ts_ tv))) := ar3 M8 g3 fun e hE => by
     have : e ∈ N := g4.mem_iff.2 (List.mem_append_left _ hE)
     simp [this]
    refine cv (px (v := .tup [vi (lkR (ix (dj p t) (lpN p t)) (ix key (lpN p t)) (.node tl tr_ ts_ tv)).1, vi (lkR (ix (dj p t) (lpN p t)) (ix key (lpN p t)) (.node tl tr_ ts_ tv)).2.1, vb (lkR (ix (dj p t) (lpN p t)) (ix key (lpN p t)) (.node tl tr_ ts_ tv)).2.2]) (uw rfl rfl (ny hz (ny (cj rfl) yr)) (dd4 (OK.w32 hlp _ _ hg)) rfl) (cw ?_))
    generalize hq : lkR (ix (dj p t) (lpN p t)) (ix key (lpN p t)) (.node tl tr_ ts_ tv) = q at *
    refine cv (mV rfl (cw (cv (ab (dq rfl rfl) (cw (cv (ab (dq rfl rfl) (cw (cv (ab (dq rfl rfl) (cw ?_)))))))))))
    refine cv (mV rfl (cw (cv (mV rfl (cw (cv (mV rfl (cw (am8 (ah ?_))))))))))
    refine ae (ai (mV rfl (ab (ft rfl) (aw (ah (bf rfl (fun hd => ?_) fun hd => ?_))))))
    ·have hd : q.2.2 = false := by simpa using hd
     rw [if_neg (by rw [hd]; simp)] at hres
     refine ae (ai (ab (v := zrowV) (nj (cs := [vi 0, nilS, vi 0, vi 0, nilS]) rfl rfl) ?_))
     refine cz (k := 1) (v := zrowV) M8 rfl rfl rfl rfl (fun h9 M9 => ab (v := vb false) (ak rfl) (aw (ah ?_)))
     subst hres
     exact ml (.cell rfl (ga (k := 1) M9 rfl rfl) (.tmp rfl .nil)) ⟨_, rfl, an4, Mem.sub M9 (.cons _ (.cons _ (List.Sublist.refl _)))⟩
    ·have hd : q.2.2 = true := by simpa using hd
     rw [if_pos hd] at hres
     obtain ⟨j0, j1⟩ := b7 hd
     obtain ⟨g, ig, qg⟩ := cr (i := q.1) rr j0 j1
     refine az (ah (ae (ai (mV rfl (ab (bv rfl rfl) (ab (bb (w := rv) rfl (mk1 (TR.agg _ rr))) (ab (ba rfl (TR.cnt _ rr) (TR.agg _ rr)) (mV rfl (ab (bn rfl rfl ig) (ab (ba rfl (TR.cnt _ qg) (TR.agg _ qg)) ?_))))))))))
     obtain ⟨c0, b1, a9⟩ := an3 qg (by rw [oz j0 j1]; exact hs _ (List.getElem_mem _))
     refine cL b1 rfl rfl (aq (TR.clo _ qg) bg) ?_
     refine cz (k := 1) (v := c0) M8 rfl rfl rfl (TR.cnt _ a9) (fun h9 M9 => ab (v := vb true) (ak rfl) (aw (ah ?_)))
     subst hres
     exact ml (.cell rfl (ga (k := 1) M9 rfl (TR.agg _ a9)) (.tmp rfl .nil)) ⟨_, rfl, a9, Mem.sub M9 (.cons _ (.cons _ (List.Sublist.refl _)))⟩
theorem ay1 (b : Bool) (ox oy : Operand) : binF Tryz.prog .neq 4 ox oy (vb b) (vb b) = some (vb false) := by cases b <;> rfl
theorem ap4 {P : Program} {n : Int} {t : TypeId} {ox oy : Operand} : binF P .neq t ox oy (vi n) (vi n) = some (vb false) := by
 have := jc (P := P) (t := t) (ox := ox) (oy := oy) (a := n) (b := n)
 rwa [decide_eq_true rfl] at this
theorem db0 {P : Program} {n : Int} {t : TypeId} {ox oy : Operand} : binF P .eql t ox oy (vi n) (vi n) = some (vb true) := by
 have := ld (P := P) (t := t) (ox := ox) (oy := oy) (a := n) (b := n)
 rwa [decide_eq_true rfl] at this
theorem cz9 {x : cb} (h : jy x = false) : x.Program.Tables.length ≤ 16 ∧ x.Rows.length ≤ 30 ∧ x.Key.length ≤ 20 := by
 unfold jy at h
 simp only [LET] at h
 split at h
 ·cases h
 ·rename_i hc
  simp only [Bool.or_eq_true, decide_eq_true_eq, not_or] at hc
  refine ⟨?_, by omega, by omega⟩
  have h2 : lv x.Program = false := by simpa using hc.1.1
  unfold lv at h2
  split at h2
  ·cases h2
  ·rename_i hd
   simp only [Bool.or_eq_true, decide_eq_true_eq, not_or] at hd
   omega
theorem cu6 {S : List Fr} {x0 : cb} {x1 : List (List (BitVec 32))} {v0 v1 x : PV} {L : List Ent} (r0 : cb.t.R x0 v0) (r1 : (tSl (tSl kg)).R x1 v1) (G : GoodR x0.Program x0.Table x0.Rows) (I : IsIx x0.Program x0.Table x0.Rows x L) (hs : ∀ r ∈ x0.Rows, SR r) (hl : x1.length ≤ 10)
  (K : ∀ {h : Heap}, Mem h (L ++ []) → PX Tryz.prog 0 S (QR Tryz.prog [(4, none)] fun r => r = vb true) [(5, x), (2, .fp v0)] h) :
  ∀ (m : Nat) {i : Int} {h : Heap}, m = Int.toNat ((x1.length : Int) - i) → 0 ≤ i → i ≤ x1.length → Mem h (L ++ []) →
   RC Tryz.prog (.loop de4) S (QR Tryz.prog [(4, none)] fun r => r = vb true) [(7, vi i), (5, x), (2, .fp v0), (1, v1)] h
 | 0, i, h, hm, h0, h1, M => by
  refine br ?_
  refine ae (ai (mV rfl (mV rfl (ab (ca rfl (bq r1 Tryz.underlying48 _)) (ab (bd rfl rfl ck) (aw (ah (ae (bf rfl (fun hc => ?_) fun hc => ?_)))))))))
  ·simp only [decide_eq_true_eq] at hc; omega
  ·exact di (dv (ct (wP (K M) rfl)))
 | m + 1, i, h, hm, h0, h1, M => by
  have hlt : i < (x1.length : Int) := by omega
  have hinc : wr (i + 1) = i + 1 := dt (by omega) (by omega)
  refine br ?_
  refine ae (ai (mV rfl (mV rfl (ab (ca rfl (bq r1 Tryz.underlying48 _)) (ab (bd rfl rfl ck) (aw (ah (ae (bf rfl (fun hc => ?_) fun hc => ?_)))))))))
  ·obtain ⟨kv, ek, rk⟩ := cr (i := i) r1 h0 hlt
   obtain ⟨wp, gp, rp⟩ := cb.g_Program r0
   obtain ⟨wr_, gr, rr⟩ := cb.g_Rows r0
   obtain ⟨b1, h2, a4, c0, rfl, a1, M2⟩ := dh1 I rk (g_ok G) hs M
   refine az (ah (ae (bh (ae (pp ?_)))))
   refine dx (mV rfl (dw (dx (mV rfl (dw (dx (mV rfl (dw (dx (ab (bn rfl rfl ek) (dw (dx (ab (ba rfl (TR.cnt _ rk) (TR.agg _ rk)) (dw ?_))))))))))))))
   refine xb rfl rfl a4 ?_
   refine dx (mV rfl (dw (dx (ab (dq rfl rfl) (dw (dx (ab (dq rfl rfl) (dw ?_))))))))
   refine dx (dk (x := zrowV) M2 rfl rfl (fun i8 w8 h8 M8 => dw ?_))
   refine dx (cz (k := 0) (v := c0) M8 rfl rfl rfl (TR.cnt _ a1) (fun h9 M9 => dw (dx (mV rfl (dw (wz (ah ?_)))))))
   replace M9 : Mem h9 (⟨.op i8 w8 0, 44, 5, [c0]⟩ :: (L ++ [])) := M9
   obtain ⟨c1, a7, a2⟩ := da7 (x1 := x0.Table) rp rr rk
   refine ae (ai (ab (bb rfl gp) (ab (ba rfl (TR.cnt _ rp) (TR.agg _ rp)) (ab (bb rfl (cb.g_Table r0)) (ab (ba rfl rfl rfl) (ab (bb rfl gr) (ab (ba rfl (TR.cnt _ rr) (TR.agg _ rr)) ?_)))))))
   refine mV rfl (mV rfl (ab (bn rfl rfl ek) (ab (ba rfl (TR.cnt _ rk) (TR.agg _ rk)) ?_)))
   refine cL a7 rfl rfl (aq (TR.clo _ rp) (aq rfl (aq (TR.clo _ rr) (aq (TR.clo _ rk) bg)))) ?_
   refine mV rfl (ab (dq rfl rfl) (ab (dq rfl rfl) ?_))
   refine dk (x := zrowV) M9 rfl rfl (fun a8 a5 b0 a6 => ?_)
   refine cz (k := 0) (v := c1) a6 rfl rfl rfl (TR.cnt _ a2) (fun a9 a0 => mV rfl (aw (ah ?_)))
   replace a0 : Mem a9 (⟨.op a8 a5 0, 44, 5, [c1]⟩ :: ⟨.op i8 w8 0, 44, 5, [c0]⟩ :: (L ++ [])) := a0
   have hE := dv5 G (ix x1 i)
   rw [hE] at a1
   have a3 := db1 a1 a2
   rw [ay0] at a3
   rw [hE]
   refine ae (ai (mV rfl (mV rfl (ab (bn rfl rfl ek) (ab (ba rfl (TR.cnt _ rk) (TR.agg _ rk)) (ab (ca rfl (bq rk Tryz.underlying33 _)) (ab (bd rfl rfl at5) (mV rfl ?_))))))))
   refine bt 10 (d := 94) (v := vb false) ?_ ?_
   ·intro S Q r
    show RD _ _ S Q ((94, vb false) :: (84, vb (decide (((ix x1 i).length : Int) ≤ 20))) :: (83, vb (decide (((ix x1 i).length : Int) ≤ 20))) :: _) _ → RD _ _ S Q ((84, vb (decide (((ix x1 i).length : Int) ≤ 20))) :: (83, vb (decide (((ix x1 i).length : Int) ≤ 20))) :: _) _
    cases decide (((ix x1 i).length : Int) ≤ 20)
    ·exact gN 9 rfl rfl rfl rfl rfl rfl
    ·intro k
     refine af rfl rfl (gi (k := 1) a0 rfl rfl (TR.agg _ a1)) (af rfl rfl (gi (k := 0) a0 rfl rfl (TR.agg _ a2)) ?_)
     refine fw rfl rfl (mc rfl rfl (aq (TR.clo _ a1) (aq (TR.clo _ a2) bg)) a3) ?_
     refine af rfl rfl (v := vb false) (ft (k := true) rfl) (af rfl rfl (v := vb false) (ak rfl) ?_)
     refine af rfl rfl (ak rfl) (af rfl rfl (ak rfl) (af rfl rfl (bd rfl rfl (ay1 _ _ _)) (af rfl rfl (v := vb false) (lr rfl rfl rfl rfl) ?_)))
     exact gK rfl rfl rfl rfl rfl k
   refine aw (ah (bf rfl (fun hd => by cases hd) fun hd => ?_))
   refine az (dc (ah (ai (mV rfl (ab (bd rfl rfl dz) (mV rfl (aw (cq ?_))))))))
   refine mf ?_ (cu6 r0 r1 G I hs hl K m (i := i + 1) (by omega) (by omega) (by omega) (Mem.sub a0 (.cons _ (.cons _ (List.Sublist.refl _)))))
   exact kx (by show some (vi (wr (i + 1))) = _; rw [hinc]) (sB rfl)
  ·simp only [decide_eq_false_iff_not] at hc; omega
theorem do2 {x0 : cb} {x1 : List (List (BitVec 32))} {v0 v1 : PV} (r0 : cb.t.R x0 v0) (r1 : (tSl (tSl kg)).R x1 v1) : FnR Tryz.prog 4 [v0, v1] (vb (ov x0 x1)) := by
 obtain ⟨r, h1, rfl⟩ : ∃ r, FnR Tryz.prog 4 [v0, v1] r ∧ r = vb true := by
  obtain ⟨wp, gp, rp⟩ := cb.g_Program r0
  obtain ⟨wr_, gr, rr⟩ := cb.g_Rows r0
  refine fnE dv4 (by simp) ?_
  refine ae (ai (ab (db rfl (TR.cnt cb.t r0)) (ab (v := vb false) (ak rfl) (aw (ah ?_)))))
  refine ae (ae (ai (ab (ba rfl (TR.cnt cb.t r0) (TR.agg cb.t r0)) (cL (cy8 r0) rfl rfl (aq (TR.clo cb.t r0) bg) (mV rfl ?_)))))
  refine bt 4 (d := 18) (v := vb (jy x0 || decide ((10 : Int) < (x1.length : Int)))) ?_ ?_
  ·intro S Q r
   cases jy x0
   ·intro k
    refine af rfl rfl (ak rfl) (af rfl rfl (ca rfl (bq r1 Tryz.underlying48 _)) (af rfl rfl (bd rfl rfl gb) ?_))
    exact gK rfl rfl rfl rfl rfl k
   ·exact gN 3 rfl rfl rfl rfl rfl rfl
  refine aw (ah (bf rfl (fun hc => ?_) fun hc => ?_))
  ·refine ae (ai (cL bg6 rfl rfl bg (mV rfl (aw (ah ?_)))))
   exact fc (.tmp rfl .nil) (cj rfl) rfl
  ·simp only [Bool.or_eq_false_iff, decide_eq_false_iff_not] at hc
   obtain ⟨l1, l2, l3⟩ := cz9 hc.1
   have hs := tl hc.1 rfl
   have hOK : newE x0.Program x0.Table x0.Rows = 0 → NewOK x0.Program x0.Table x0.Rows := fun h => dp0 ((au7 _ _ _).1 (by rw [← bc0]; exact h)) (by omega) (by omega)
   obtain ⟨b3, h2, b1, D⟩ := df6 (t := x0.Table) (R := []) rp rr (by omega) hs hOK (Mem.nil ⟨0, []⟩)
   rw [bc0] at D
   refine az (ah (ae (pp ?_)))
   refine dx (ab (bb rfl gp) (dw (dx (ab (ba rfl (TR.cnt _ rp) (TR.agg _ rp)) (dw (dx (ab (bb rfl (cb.g_Table r0)) (dw (dx (ab (ba rfl rfl rfl) (dw ?_)))))))))))
   refine dx (ab (bb rfl gr) (dw (dx (ab (ba rfl (TR.cnt _ rr) (TR.agg _ rr)) (dw ?_)))))
   refine xb rfl rfl b1 ?_
   have a9 := dh6 (x1 := x0.Table) rp rr
   rcases D with ⟨hne, rfl, M2⟩ | ⟨he, x, L, rfl, I, M2⟩
   ·generalize mz x0.Program x0.Table x0.Rows = c at *
    refine dx (mV rfl (dw (dx (ab (dq rfl rfl) (dw (dx (ab (dq rfl rfl) (dw (dx (mV rfl (dw (dx (mV rfl (dw (wz (ah ?_)))))))))))))))) 
    refine ae (ae (ai (mV rfl (ab (bb rfl gp) (ab (ba rfl (TR.cnt _ rp) (TR.agg _ rp)) (ab (bb rfl (cb.g_Table r0)) (ab (ba rfl rfl rfl) (ab (bb rfl gr) (ab (ba rfl (TR.cnt _ rr) (TR.agg _ rr)) ?_)))))))))
    refine cL a9 rfl rfl (aq (TR.clo _ rp) (aq rfl (aq (TR.clo _ rr) bg))) (ab (bd rfl rfl ap4) (mV rfl ?_))
    refine af rfl rfl (ak rfl) (af rfl rfl (v := vb true) (bd rfl rfl rfl) (af rfl rfl (ak rfl) (af rfl rfl (bd rfl rfl jc) ?_)))
    have b0 : (!decide (c = Int.ofNat 0)) = true := by simpa using hne
    rw [b0]
    refine af rfl rfl (bd rfl rfl (ay1 _ _ _)) (ab (v := vb false) (lr rfl rfl rfl rfl) (aw (ah (bf rfl (fun hd => by cases hd) fun hd => ?_))))
    refine az (ah (ae (ae (ai (mV rfl (ab (bd rfl rfl jc) (aw (ah (bf rfl (fun hd => ?_) fun hd => ?_)))))))))
    ·refine ae (ai (cL bg6 rfl rfl bg (mV rfl (aw (ah ?_)))))
     exact fc (.tmp rfl .nil) (cj rfl) rfl
    ·rw [b0] at hd; cases hd
   ·have G := (au7 _ _ _).1 he
    have I0 := I
    obtain ⟨a0, a1, a2, a3, a4, a5, a6, a7, a8, wv, rv, m1, u1, m2, u2, ps, NN, rfl, rq, rw_, rrr, HT, b4, b2, hL⟩ := I0
    rw [he] at a9
    refine dx (mV rfl (dw (dx (ab (dq rfl rfl) (dw (dx (ab (dq rfl rfl) (dw (dx (mV rfl (dw (dx (mV rfl (dw (wz (ah ?_)))))))))))))))) 
    refine ae (ae (ai (mV rfl (ab (bb rfl gp) (ab (ba rfl (TR.cnt _ rp) (TR.agg _ rp)) (ab (bb rfl (cb.g_Table r0)) (ab (ba rfl rfl rfl) (ab (bb rfl gr) (ab (ba rfl (TR.cnt _ rr) (TR.agg _ rr)) ?_)))))))))
    refine cL a9 rfl rfl (aq (TR.clo _ rp) (aq rfl (aq (TR.clo _ rr) bg))) (ab (bd rfl rfl ap4) (mV rfl ?_))
    refine af rfl rfl (ak rfl) (af rfl rfl (v := vb false) (bd rfl rfl rfl) (af rfl rfl (ak rfl) (af rfl rfl (v := vb false) (bd rfl rfl ap4) ?_)))
    refine af rfl rfl (bd rfl rfl (ay1 _ _ _)) (ab (v := vb false) (lr rfl rfl rfl rfl) (aw (ah (bf rfl (fun hd => by cases hd) fun hd => ?_))))
    refine az (ah (ae (ae (ai (mV rfl (ab (v := vb false) (bd rfl rfl ap4) (aw (ah (bf rfl (fun hd => by cases hd) fun hd => ?_)))))))))
    refine az (ah (ae (ae (ai (ab (v := vi 0) (ak rfl) (aw (ah (bh ?_))))))))
    refine wC (cu6 r0 r1 G I hs (by omega) ?_ x1.length (i := 0) (by omega) (by omega) (by omega) M2) rfl
    ·intro h3 M3
     refine fa (ah (ae (ai (mV rfl ?_))))
     refine px (v := vi (x0.Rows.length : Int)) (uw rfl rfl (ny (bi2 (TR.clo _ rq) (TR.clo _ rw_) (TR.clo _ rrr)) yr) (de9 rrr) rfl) ?_
     refine ab (bb rfl gr) (ab (ba rfl (TR.cnt _ rr) (TR.agg _ rr)) (ab (ca rfl (bq rr Tryz.underlying32 _)) (ab (bd rfl rfl db0) (mV rfl ?_))))
     refine fw rfl rfl (mc rfl rfl bg bg6) (ab (v := vb true) (lr rfl rfl rfl rfl) (mV rfl (aw (ah ?_))))
     exact fc (.tmp rfl .nil) (cj rfl) rfl
 exact h1

end Go.Proofs.YthdnpgpnodgicaaGreat
