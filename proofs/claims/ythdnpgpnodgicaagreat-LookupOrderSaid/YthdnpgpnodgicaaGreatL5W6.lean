/-
 The code of each function does what its plain program says.
-/
import Derived.Test.YthdnpgpnodgicaaGreatL5W5
set_option linter.unusedVariables false
set_option linter.unusedSimpArgs false
set_option maxRecDepth 100000
namespace Go.Proofs.YthdnpgpnodgicaaGreat
open Go Go.Pb Go.RowKit
def RF76 (res : Int) (r : PV) : Prop := r = vi res
theorem db3 {x0 : ay} {x1 x2 : Int} {v0 : PV} (r0 : ay.t.R x0 v0) : FnR Tryz.prog 76 [v0, vi x1, vi x2] (vi (ng x0 x1 x2)) := by
 refine fnS (R := RF76) cd9 (fun _ h => h) rfl fun res hres => ?_
 unfold ng at hres
 refine sR (ab (dh rfl (TR.cnt ay.t r0)) (mI rfl (nS (ae (bf (sR (fL rfl (ay.g_Value r0) rfl rfl (mV rfl ?_))))))))
 obtain ⟨a6, a4, hres⟩ := dc hres
 have a9 := ah7 (x0 := x0.Value) (x1 := x2)  
 rw [a4] at a9
 refine cL a9 rfl rfl (aq rfl (aq rfl bm)) (ab (gc rfl) (mV rfl ?_))
 refine bv 6 (d := 21) (v := vb ((!a6) || (!(gz x0.Mask x2)))) ?_ ?_
 ·intro S Q r
  cases a3 : (!a6)
  ·intro k
   have a0 := a3
   try simp only [qa] at a0
   refine ai rfl rfl (bc rfl (ay.g_Mask r0)) (ai rfl rfl (ba rfl rfl rfl) (ai rfl rfl (am rfl) ?_))
   have b1 := ah7 (x0 := x0.Mask) (x1 := x2)  
   refine fu rfl rfl (mb rfl rfl (aq rfl (aq rfl bm)) b1) (ai rfl rfl (gc rfl) ?_)
   exact gK rfl rfl rfl rfl rfl k
  ·exact gN 5 rfl rfl rfl rfl rfl rfl
 refine mV rfl (nS ?_)
 refine cq hres rfl ?_ ?_ <;> clear hres <;> intro c hres <;> try simp only [qa] at c
 ·refine sR (mI rfl (nS ?_))
  exact rR hres rfl rfl rfl
 ·refine sR (fL rfl (ay.g_Value r0) rfl rfl (fL rfl (ay.g_Mask r0) rfl rfl (ab (bd (a := df x0.Value) (b := df x0.Mask) rfl rfl au2) (ab (bd (a := df (x0.Value &&& ~~~x0.Mask)) (b := df 0#32) rfl rfl ad7) (mV rfl (nS ?_))))))
  refine cq hres rfl ?_ ?_ <;> clear hres <;> intro c hres <;> try simp only [qa] at c
  ·refine sR (mI rfl (nS ?_))
   exact rR hres rfl rfl rfl
  ·refine sR (mV rfl (bN lh rfl rfl (mV rfl ?_)))
   refine bv 6 (d := 38) (v := vb ((decide (x1 = 1)) && (!decide (x0.Mask = (dq x2))))) ?_ ?_
   ·intro S Q r
    cases a2 : (decide (x1 = 1))
    ·exact gN 5 rfl rfl rfl rfl rfl rfl
    ·intro k
     have a1 := a2
     try simp only [qa] at a1
     refine ai rfl rfl (bc rfl (ay.g_Mask r0)) (ai rfl rfl (ba rfl rfl rfl) (ai rfl rfl (am rfl) ?_))
     have b0 := vx (x0 := x2)  
     refine fu rfl rfl (mb rfl rfl (aq rfl bm) b0) (ai rfl rfl (bd (a := df x0.Mask) (b := df (dq x2)) rfl rfl ad7) ?_)
     exact gK rfl rfl rfl rfl rfl k
   refine mV rfl (nS ?_)
   refine cq hres rfl ?_ ?_ <;> clear hres <;> intro c hres <;> try simp only [qa] at c
   ·refine sR (mI rfl (nS ?_))
    exact rR hres rfl rfl rfl
   ·refine az (dg (af (ae (sR (mV rfl (bN lh rfl rfl (nS ?_)))))))
    obtain ⟨b2, a8, hres⟩ := dc hres
    refine yy (F := fun b S Q =>  b2 () = res → RC Tryz.prog b S Q [] ⟨0, []⟩) ?_ ?_
    ·intro   hres
     rw [← a8] at hres
     refine sR (mI rfl (nS ?_))
     exact rR hres rfl rfl rfl
    ·intro J
     refine cq hres rfl ?_ ?_ <;> clear hres <;> intro c hres <;> try simp only [qa] at c
     ·refine sR (fL rfl (ay.g_Mask r0) rfl rfl (mV rfl ?_))
      obtain ⟨b3, a5, hres⟩ := dc hres
      have a7 := cc6 (x0 := x0.Mask) (x1 := x2)  
      rw [a5] at a7
      refine cL a7 rfl rfl (aq rfl (aq rfl bm)) (mV rfl (xT rfl rfl (xT rfl rfl (mV rfl (mV rfl (nR (mV rfl (ab (gc rfl) ?_))))))))
      refine nS ?_
      refine cq hres rfl ?_ ?_ <;> clear hres <;> intro c hres <;> try simp only [qa] at c
      ·refine sR (mI rfl (nS ?_))
       exact rR hres rfl rfl rfl
      ·refine az ?_
       refine af (wC (J   hres) rfl)
     ·refine az ?_
      refine af (wC (J   hres) rfl)

def RF44 (res : Int) (r : PV) : Prop := r = vi res
theorem ze {S : List Fr} {res : Int} {x0 : aa} {x1 : Int} {a8 : Bool} {a9 : PV} (b6 : fx x0 x1 = a8) (a6 : (!a8) = false) (a4 : (tSl bh.t).R ((ix x0.Tables x1).Keys) a9) {K0 : Int → Int}
  (b9 : ∀ {a3 : Int} {h : Heap} (M0 : Mem h []), K0 a3 = res → PX Tryz.prog 0 S (QR Tryz.prog [(4, none)] (RF44 res)) [(5, vi a3)] h) :
  ∀ {m : Nat} {a3 a0 : Int} (b7 : m = Int.toNat ((((ix x0.Tables x1).Keys).length : Int) - a0)) (a7 : 0 ≤ a0) {h : Heap} (M0 : Mem h []), kj x0 x1 K0 m a3 a0 = res → RC Tryz.prog (.loop cn8) S (QR Tryz.prog [(4, none)] (RF44 res)) [(19, vi a0), (18, vi (((ix x0.Tables x1).Keys).length : Int)), (17, a9), (5, vi a3)] h := by
 have a5 := a6
 try simp only [qa] at a5
 intro m
 induction m with
 | zero =>
  intro a3 a0 b7 a7 h M0 hres
  rw [kj] at hres
  refine bq (sR (bN co rfl rfl (nS (ae ?_))))
  refine bg rfl ?_ ?_ <;> intro c <;> try simp only [qa] at c
  ·omega
  refine dm (dx (cy ?_))
  exact wP (b9 (Mem.sub M0 .slnil) hres) rfl
 | succ m ih =>
  intro a3 a0 b7 a7 h M0 hres
  rw [kj] at hres
  refine bq (sR (bN co rfl rfl (nS (ae ?_))))
  refine bg rfl ?_ ?_ <;> intro c <;> try simp only [qa] at c
  rotate_left
  ·omega
  refine az (af (ae (bf (sR ?_))))
  obtain ⟨b0, b3, a2⟩ := cx (i := a0) a4 (by first | omega | (have hk := bb (by assumption) (by assumption); omega) | (have hk := tck (by assumption) (by assumption); omega) | (have hk := rtck (by assumption) (by assumption); omega) | (have hk := eck (by assumption) (by assumption) (by assumption); omega) | (have hk := tv (by assumption) (by assumption); omega) | (have hk := rtv (by assumption) (by assumption); omega)) (by first | omega | (have hk := bb (by assumption) (by assumption); omega) | (have hk := tck (by assumption) (by assumption); omega) | (have hk := rtck (by assumption) (by assumption); omega) | (have hk := eck (by assumption) (by assumption) (by assumption); omega) | (have hk := tv (by assumption) (by assumption); omega) | (have hk := rtv (by assumption) (by assumption); omega))
  refine ab (bn rfl rfl b3) (lD a2 rfl rfl rfl ?_)
  refine dt (x := .agg [vi 0, vi 0, vi 0]) M0 rfl rfl (fun b5 b1 b8 b2 => ?_)
  refine de (k := 0) (v := b0) b2 rfl rfl rfl (TR.cnt bh.t a2) (fun b4 a1 => ?_)
  replace a1 : Mem b4 [⟨.op b5 b1 0, 112, 3, [b0]⟩] := a1
  refine nS (bf (sR (ab (bz rfl) (ab (dl (k := 0) a1 rfl rfl (bh.g_Kind a2)) (bN lh rfl rfl (mV rfl (nS ?_)))))))
  refine cq hres rfl ?_ ?_ <;> clear hres <;> intro c hres <;> try simp only [qa] at c
  ·refine sR (mI rfl (nS ?_))
   exact rR hres rfl rfl rfl
  ·refine sR (ab (bz rfl) (ab (dl (k := 0) a1 rfl rfl (bh.g_Kind a2)) (bN lh rfl rfl (mV rfl (nS ?_)))))
   refine cq hres rfl ?_ ?_ <;> clear hres <;> intro c hres <;> try simp only [qa] at c
   ·refine ah (mI rfl (aw (dg (dg (af (ah (bN eg rfl rfl (mV rfl ?_))))))))
    refine aw (ct ?_)
    have hbd := du a4
    have hinc : wr (a0 + 1) = a0 + 1 := dw (by omega) (by omega)
    erw [hinc]
    exact wC (ih   (by omega) (by omega) (Mem.sub a1 (.cons _ .slnil)) hres) rfl
   ·refine az (dg (dg (af (ah (bN eg rfl rfl (mV rfl (aw (ct ?_))))))))
    have hbd := du a4
    have hinc : wr (a0 + 1) = a0 + 1 := dw (by omega) (by omega)
    erw [hinc]
    exact wC (ih   (by omega) (by omega) (Mem.sub a1 (.cons _ .slnil)) hres) rfl

theorem cd7 {x0 : aa} {x1 : Int} {v0 : PV} (r0 : aa.t.R x0 v0) : FnR Tryz.prog 44 [v0, vi x1] (vi (fb x0 x1)) := by
 refine fnS (R := RF44) bz1 (fun _ h => h) rfl fun res hres => ?_
 unfold fb at hres
 refine sR (ab (dh rfl (TR.cnt aa.t r0)) (mI rfl (nS (ae (sR (lD r0 rfl rfl rfl (mV rfl ?_)))))))
 obtain ⟨b4, a1, hres⟩ := dc hres
 have a5 := ay9 (x1 := x1) r0 
 rw [a1] at a5
 refine cL a5 rfl rfl (aq (TR.clo aa.t r0) (aq rfl bm)) (ab (gc rfl) (nS ?_))
 refine cq hres rfl ?_ ?_ <;> clear hres <;> intro a0 hres <;> have a3 := a0 <;> try simp only [qa] at a3
 ·refine sR (mI rfl (nS ?_))
  exact rR hres rfl rfl rfl
 ·refine az (af (sR (mI rfl (nS (ae (sR ?_))))))
  obtain ⟨b6, a7, a4⟩ := aa.g_Tables r0
  refine fA rfl a7 (lD a4 rfl rfl rfl (mV rfl ?_))
  obtain ⟨b3, a6, a9⟩ := cx (i := x1) a4 (by first | omega | (have hk := bb (by assumption) (by assumption); omega) | (have hk := tck (by assumption) (by assumption); omega) | (have hk := rtck (by assumption) (by assumption); omega) | (have hk := eck (by assumption) (by assumption) (by assumption); omega) | (have hk := tv (by assumption) (by assumption); omega) | (have hk := rtv (by assumption) (by assumption); omega)) (by first | omega | (have hk := bb (by assumption) (by assumption); omega) | (have hk := tck (by assumption) (by assumption); omega) | (have hk := rtck (by assumption) (by assumption); omega) | (have hk := eck (by assumption) (by assumption) (by assumption); omega) | (have hk := tv (by assumption) (by assumption); omega) | (have hk := rtv (by assumption) (by assumption); omega))
  refine ab (bn rfl rfl a6) ?_
  obtain ⟨b5, b0, a2⟩ := ax.g_Keys a9
  refine fA rfl b0 (lD a2 rfl rfl rfl (ab (cd rfl (br a2 Tryz.underlying85 _)) (mI rfl (nS (bf ?_)))))
  refine wC (ze a1 a0 a2 ?_  rfl (by omega) (Mem.sub (Mem.nil ⟨0, []⟩) .slnil) hres) rfl
  ·intro a8 b1 b2 hres
   refine fd (af (sR (mV rfl (mV rfl (nS ?_)))))
   exact rR hres rfl rfl rfl

def RF77 (res : Bool) (r : PV) : Prop := r = vb res
theorem wz {S : List Fr} {res : Bool} {x0 : aa} {x1 x2 : Int} {a5 : Bool} {a6 : PV} (a7 : fx x0 x1 = a5) (a2 : (!a5) = false) (a4 : (tSl tI).R ((ix x0.Tables x1).Actions) a6) {K0 : Unit → Bool}
  (a9 : K0 () = res → PX Tryz.prog 0 S (QR Tryz.prog [(6, none)] (RF77 res)) [] ⟨0, []⟩) :
  ∀ {m : Nat} {a0 : Int} (a8 : m = Int.toNat ((((ix x0.Tables x1).Actions).length : Int) - a0)) (a3 : 0 ≤ a0), jo x0 x1 x2 K0 m a0 = res → RC Tryz.prog (.loop co7) S (QR Tryz.prog [(6, none)] (RF77 res)) [(20, vi a0), (19, vi (((ix x0.Tables x1).Actions).length : Int)), (18, a6), (2, vi x2)] ⟨0, []⟩ := by
 have a1 := a2
 try simp only [qa] at a1
 intro m
 induction m with
 | zero =>
  intro a0 a8 a3 hres
  rw [jo] at hres
  refine bq (sR (bN co rfl rfl (nS (ae ?_))))
  refine bg rfl ?_ ?_ <;> intro c <;> try simp only [qa] at c
  ·omega
  refine dm (dx (cy ?_))
  exact wP (a9  hres) rfl
 | succ m ih =>
  intro a0 a8 a3 hres
  rw [jo] at hres
  refine bq (sR (bN co rfl rfl (nS (ae ?_))))
  refine bg rfl ?_ ?_ <;> intro c <;> try simp only [qa] at c
  rotate_left
  ·omega
  refine az (af (ae (bf (sR (ab (bn rfl rfl (slI a4 (by first | omega | (have hk := bb (by assumption) (by assumption); omega) | (have hk := tck (by assumption) (by assumption); omega) | (have hk := rtck (by assumption) (by assumption); omega) | (have hk := eck (by assumption) (by assumption) (by assumption); omega) | (have hk := tv (by assumption) (by assumption); omega) | (have hk := rtv (by assumption) (by assumption); omega)) (by first | omega | (have hk := bb (by assumption) (by assumption); omega) | (have hk := tck (by assumption) (by assumption); omega) | (have hk := rtck (by assumption) (by assumption); omega) | (have hk := eck (by assumption) (by assumption) (by assumption); omega) | (have hk := tv (by assumption) (by assumption); omega) | (have hk := rtv (by assumption) (by assumption); omega)))) (lR rfl rfl rfl (mV rfl (nR ?_))))))))
  refine mV rfl (mV rfl (bN lh rfl rfl (nS ?_)))
  refine cq hres rfl ?_ ?_ <;> clear hres <;> intro c hres <;> try simp only [qa] at c
  ·refine sR (mB rfl (nS ?_))
   exact rR hres rfl rfl rfl
  ·refine az (dg (af (ah (bN eg rfl rfl (mV rfl (aw (ct ?_)))))))
   have hbd := du a4
   have hinc : wr (a0 + 1) = a0 + 1 := dw (by omega) (by omega)
   erw [hinc]
   exact wC (ih   (by omega) (by omega) hres) rfl

theorem dl4 {x0 : aa} {x1 x2 : Int} {v0 : PV} (r0 : aa.t.R x0 v0) : FnR Tryz.prog 77 [v0, vi x1, vi x2] (vb (nu x0 x1 x2)) := by
 refine fnS (R := RF77) bs5 (fun _ h => h) rfl fun res hres => ?_
 unfold nu at hres
 refine sR (ab (dh rfl (TR.cnt aa.t r0)) (mB rfl (nS (ae (sR (lD r0 rfl rfl rfl (mV rfl ?_)))))))
 obtain ⟨b1, a1, hres⟩ := dc hres
 have a5 := ay9 (x1 := x1) r0 
 rw [a1] at a5
 refine cL a5 rfl rfl (aq (TR.clo aa.t r0) (aq rfl bm)) (ab (gc rfl) (nS ?_))
 refine cq hres rfl ?_ ?_ <;> clear hres <;> intro a0 hres <;> have a3 := a0 <;> try simp only [qa] at a3
 ·refine sR (mB rfl (nS ?_))
  exact rR hres rfl rfl rfl
 ·refine az (af (ae (sR ?_)))
  obtain ⟨b3, a7, a4⟩ := aa.g_Tables r0
  refine fA rfl a7 (lD a4 rfl rfl rfl (mV rfl ?_))
  obtain ⟨b0, a6, a8⟩ := cx (i := x1) a4 (by first | omega | (have hk := bb (by assumption) (by assumption); omega) | (have hk := tck (by assumption) (by assumption); omega) | (have hk := rtck (by assumption) (by assumption); omega) | (have hk := eck (by assumption) (by assumption) (by assumption); omega) | (have hk := tv (by assumption) (by assumption); omega) | (have hk := rtv (by assumption) (by assumption); omega)) (by first | omega | (have hk := bb (by assumption) (by assumption); omega) | (have hk := tck (by assumption) (by assumption); omega) | (have hk := rtck (by assumption) (by assumption); omega) | (have hk := eck (by assumption) (by assumption) (by assumption); omega) | (have hk := tv (by assumption) (by assumption); omega) | (have hk := rtv (by assumption) (by assumption); omega))
  refine ab (bn rfl rfl a6) ?_
  obtain ⟨b2, a9, a2⟩ := ax.g_Actions a8
  refine fA rfl a9 (lD a2 rfl rfl rfl (ab (cd rfl (br a2 Tryz.underlying29 _)) (mI rfl (nS (bf ?_)))))
  refine wC (wz a1 a0 a2 ?_  rfl (by omega) hres) rfl
  ·intro  hres
   refine fd (af (sR (mB rfl (nS ?_))))
   exact rR hres rfl rfl rfl

def RF40 (res : Int) (r : PV) : Prop := r = vi res
theorem yb {S : List Fr} {res : Int} {x0 : aa} {x1 : Int} {x2 : au} {b0 : Int × Int} {a1 : (List Int)} {v0 v2 b1 b6 b2 : PV} (c8 : gj x0 x1 = b0) (a6 : (!decide (b0.2 = 0)) = false) (c1 : (tSl bh.t).R ((ix x0.Tables x1).Keys) b1) (d0 : dn x0 x1 = a1) (c6 : (tSl tI).R a1 b6) (c7 : (0 ≤ x1 ∧ x1 < x0.Tables.length) ∧ a1.length = (ix x0.Tables x1).Keys.length ∧ a1.length ≤ 6) (b4 : (!decide ((x2.Keys.length : Int) = (((ix x0.Tables x1).Keys).length : Int))) = false) (b5 : (tSl ay.t).R x2.Keys b2) {K0 : Unit → Int}
  (d3 : ∀ {h : Heap} (M0 : Mem h []), K0 () = res → PX Tryz.prog 0 S (QR Tryz.prog [(6, none)] (RF40 res)) [(1, vi x1), (3, .fp v0), (5, .fp v2)] h) :
  ∀ {m : Nat} {a0 : Int} (c9 : m = Int.toNat ((x2.Keys.length : Int) - a0)) (a9 : 0 ≤ a0) {h : Heap} (M0 : Mem h []), lb x0 x1 x2 a1 K0 m a0 = res → RC Tryz.prog (.loop ck4) S (QR Tryz.prog [(6, none)] (RF40 res)) [(41, vi a0), (40, vi (x2.Keys.length : Int)), (39, b2), (10, b6), (9, b1), (5, .fp v2), (3, .fp v0), (1, vi x1)] h := by
 have a5 := a6
 try simp only [qa] at a5
 have a4 := b4
 try simp only [qa] at a4
 intro m
 induction m with
 | zero =>
  intro a0 c9 a9 h M0 hres
  rw [lb] at hres
  refine bq (sR (bN co rfl rfl (nS (ae ?_))))
  refine bg rfl ?_ ?_ <;> intro c <;> try simp only [qa] at c
  ·omega
  refine dm (dx (cy ?_))
  exact wP (d3 (Mem.sub M0 .slnil) hres) rfl
 | succ m ih =>
  intro a0 c9 a9 h M0 hres
  rw [lb] at hres
  refine bq (sR (bN co rfl rfl (nS (ae ?_))))
  refine bg rfl ?_ ?_ <;> intro c <;> try simp only [qa] at c
  rotate_left
  ·omega
  refine az (af (ae (bf (sR (mV rfl ?_)))))
  obtain ⟨b3, c3, a2⟩ := cx (i := a0) b5 (by first | omega | (have hk := bb (by assumption) (by assumption); omega) | (have hk := tck (by assumption) (by assumption); omega) | (have hk := rtck (by assumption) (by assumption); omega) | (have hk := eck (by assumption) (by assumption) (by assumption); omega) | (have hk := tv (by assumption) (by assumption); omega) | (have hk := rtv (by assumption) (by assumption); omega)) (by first | omega | (have hk := bb (by assumption) (by assumption); omega) | (have hk := tck (by assumption) (by assumption); omega) | (have hk := rtck (by assumption) (by assumption); omega) | (have hk := eck (by assumption) (by assumption) (by assumption); omega) | (have hk := tv (by assumption) (by assumption); omega) | (have hk := rtv (by assumption) (by assumption); omega))
  refine ab (bn rfl rfl c3) (lD a2 rfl rfl rfl ?_)
  refine dt (x := .agg [df 0#32, df 0#32]) M0 rfl rfl (fun c4 c0 d1 b7 => ?_)
  refine mV rfl ?_
  refine de (k := 0) (v := b3) b7 rfl rfl rfl (TR.cnt ay.t a2) (fun b8 a3 => ?_)
  replace a3 : Mem b8 [⟨.op c4 c0 0, 127, 2, [b3]⟩] := a3
  refine nR (ab (gq (k := 0) a3 rfl rfl (TR.agg ay.t a2)) (mV rfl (mV rfl ?_)))
  obtain ⟨d2, b9, c5⟩ := cx (i := a0) c1 (by first | omega | (have hk := bb (by assumption) (by assumption); omega) | (have hk := tck (by assumption) (by assumption); omega) | (have hk := rtck (by assumption) (by assumption); omega) | (have hk := eck (by assumption) (by assumption) (by assumption); omega) | (have hk := tv (by assumption) (by assumption); omega) | (have hk := rtv (by assumption) (by assumption); omega)) (by first | omega | (have hk := bb (by assumption) (by assumption); omega) | (have hk := tck (by assumption) (by assumption); omega) | (have hk := rtck (by assumption) (by assumption); omega) | (have hk := eck (by assumption) (by assumption) (by assumption); omega) | (have hk := tv (by assumption) (by assumption); omega) | (have hk := rtv (by assumption) (by assumption); omega))
  refine ab (bn rfl rfl b9) (fL rfl (bh.g_Kind c5) rfl rfl (mV rfl (mV rfl (ab (bn rfl rfl (slI c6 (by first | omega | (have hk := bb (by assumption) (by assumption); omega) | (have hk := tck (by assumption) (by assumption); omega) | (have hk := rtck (by assumption) (by assumption); omega) | (have hk := eck (by assumption) (by assumption) (by assumption); omega) | (have hk := tv (by assumption) (by assumption); omega) | (have hk := rtv (by assumption) (by assumption); omega)) (by first | omega | (have hk := bb (by assumption) (by assumption); omega) | (have hk := tck (by assumption) (by assumption); omega) | (have hk := rtck (by assumption) (by assumption); omega) | (have hk := eck (by assumption) (by assumption) (by assumption); omega) | (have hk := tv (by assumption) (by assumption); omega) | (have hk := rtv (by assumption) (by assumption); omega)))) (lR rfl rfl rfl ?_)))))
  obtain ⟨d4, a7, hres⟩ := dc hres
  have a8 := db3 (x1 := (ix ((ix x0.Tables x1).Keys) a0).Kind) (x2 := (ix a1 a0)) a2 
  rw [a7] at a8
  refine cL a8 rfl rfl (aq (TR.clo ay.t a2) (aq rfl (aq rfl bm))) (mV rfl (nR (mV rfl (bN jk rfl rfl (nS ?_)))))
  refine cq hres rfl ?_ ?_ <;> clear hres <;> intro c hres <;> try simp only [qa] at c
  ·refine sR (mV rfl (mV rfl (nS ?_)))
   exact rR hres rfl rfl rfl
  ·refine az (dg (af (ah (bN eg rfl rfl (mV rfl (aw (ct ?_)))))))
   have hbd := du b5
   have hinc : wr (a0 + 1) = a0 + 1 := dw (by omega) (by omega)
   erw [hinc]
   exact wC (ih   (by omega) (by omega) (Mem.sub a3 (.cons _ .slnil)) hres) rfl

theorem dl2 {x0 : aa} {x1 : Int} {x2 : au} {v0 v2 : PV} (r0 : aa.t.R x0 v0) (r2 : au.t.R x2 v2) : FnR Tryz.prog 40 [v0, vi x1, v2] (vi (lu x0 x1 x2)) := by
 refine fnS (R := RF40) bt9 (fun _ h => h) rfl fun res hres => ?_
 unfold lu at hres
 refine sR (ab (dh rfl (TR.cnt aa.t r0)) (ab (dh rfl (TR.cnt au.t r2)) (mI rfl (nS (ae (sR (lD r0 rfl rfl rfl (mV rfl ?_))))))))
 obtain ⟨d8, a2, hres⟩ := dc hres
 have c3 := bb3 (x1 := x1) r0 
 rw [a2] at c3
 refine cL c3 rfl rfl (aq (TR.clo aa.t r0) (aq rfl bm)) (mV rfl (xT rfl rfl (xT rfl rfl (mV rfl (mV rfl (nR (mV rfl (bN jk rfl rfl ?_))))))))
 refine nS ?_
 refine cq hres rfl ?_ ?_ <;> clear hres <;> intro a1 hres <;> have a8 := a1 <;> try simp only [qa] at a8
 ·refine sR (mV rfl (mV rfl (nS ?_)))
  exact rR hres rfl rfl rfl
 ·refine az (af (sR ?_))
  obtain ⟨e5, c7, b3⟩ := aa.g_Tables r0
  refine fA rfl c7 (lD b3 rfl rfl rfl (mV rfl ?_))
  obtain ⟨d7, c5, c9⟩ := cx (i := x1) b3 (by first | omega | (have hk := bb (by assumption) (by assumption); omega) | (have hk := tck (by assumption) (by assumption); omega) | (have hk := rtck (by assumption) (by assumption); omega) | (have hk := eck (by assumption) (by assumption) (by assumption); omega) | (have hk := tv (by assumption) (by assumption); omega) | (have hk := rtv (by assumption) (by assumption); omega)) (by first | omega | (have hk := bb (by assumption) (by assumption); omega) | (have hk := tck (by assumption) (by assumption); omega) | (have hk := rtck (by assumption) (by assumption); omega) | (have hk := eck (by assumption) (by assumption) (by assumption); omega) | (have hk := tv (by assumption) (by assumption); omega) | (have hk := rtv (by assumption) (by assumption); omega))
  refine ab (bn rfl rfl c5) ?_
  obtain ⟨e0, d2, a5⟩ := ax.g_Keys c9
  refine fA rfl d2 (lD a5 rfl rfl rfl (lD r0 rfl rfl rfl (mV rfl ?_)))
  obtain ⟨a9, a0, hres⟩ := dc hres
  obtain ⟨e3, c6, c1⟩ := cc7 (x1 := x1) r0 
  rw [a0] at c1
  have b0 : (0 ≤ x1 ∧ x1 < x0.Tables.length) ∧ a9.length = (ix x0.Tables x1).Keys.length ∧ a9.length ≤ 6 := eck (by assumption) (by assumption) a0
  refine cL c6 rfl rfl (aq (TR.clo aa.t r0) (aq rfl bm)) (mV rfl (mV rfl (nS (ae (sR ?_)))))
  obtain ⟨e2, d0, b8⟩ := au.g_Keys r2
  refine fA rfl d0 (lD b8 rfl rfl rfl (ab (cd rfl (br b8 Tryz.underlying38 _)) (mV rfl (ab (cd rfl (br a5 Tryz.underlying85 _)) (bN jk rfl rfl (nS ?_))))))
  refine cq hres rfl ?_ ?_ <;> clear hres <;> intro a3 hres <;> have a7 := a3 <;> try simp only [qa] at a7
  ·refine sR (mI rfl (nS ?_))
   exact rR hres rfl rfl rfl
  ·refine az (af (ae (sR (gL (au.g_Keys r2) rfl rfl rfl fun e1 b9 => (ab (cd rfl (br b9 Tryz.underlying38 _)) (mI rfl (nS (bf ?_))))))))
   refine wC (yb a2 a1 a5 a0 c1 b0 a3 b9 ?_  rfl (by omega) (Mem.sub (Mem.nil ⟨0, []⟩) .slnil) hres) rfl
   ·intro e4 d5 hres
    refine fd (af (ae (bf (sR (fL rfl (au.g_Priority r2) rfl rfl (bN co rfl rfl (mV rfl ?_)))))))
    refine bv 4 (d := 69) (v := vb ((decide (x2.Priority < 0)) || (decide (255 < x2.Priority)))) ?_ ?_
    ·intro S Q r
     cases c0 : (decide (x2.Priority < 0))
     ·intro k
      have a6 := c0
      try simp only [qa] at a6
      refine ai rfl rfl (bc rfl (au.g_Priority r2)) (ai rfl rfl (ba rfl rfl rfl) (ai rfl rfl (bd rfl rfl gi) ?_))
      exact gK rfl rfl rfl rfl rfl k
     ·exact gN 3 rfl rfl rfl rfl rfl rfl
    refine mV rfl (nS ?_)
    refine cq hres rfl ?_ ?_ <;> clear hres <;> intro c hres <;> try simp only [qa] at c
    ·refine sR (mI rfl (nS ?_))
     exact rR hres rfl rfl rfl
    ·refine sR (fL rfl (au.g_Priority r2) rfl rfl (bN jk rfl rfl (mV rfl ?_)))
     refine bv 5 (d := 79) (v := vb ((!decide (x2.Priority = 0)) && (!decide ((fb x0 x1) = 3)))) ?_ ?_
     ·intro S Q r
      cases b5 : (!decide (x2.Priority = 0))
      ·exact gN 4 rfl rfl rfl rfl rfl rfl
      ·intro k
       have a4 := b5
       try simp only [qa] at a4
       refine ai rfl rfl (ba rfl (TR.cnt aa.t r0) (TR.agg aa.t r0)) (ai rfl rfl (am rfl) ?_)
       have c4 := cd7 (x1 := x1) r0 
       refine fu rfl rfl (mb rfl rfl (aq (TR.clo aa.t r0) (aq rfl bm)) c4) (ai rfl rfl (bd rfl rfl jk) ?_)
       exact gK rfl rfl rfl rfl rfl k
     refine mV rfl (nS ?_)
     refine cq hres rfl ?_ ?_ <;> clear hres <;> intro c hres <;> try simp only [qa] at c
     ·refine sR (mI rfl (nS ?_))
      exact rR hres rfl rfl rfl
     ·refine sR (lD r0 rfl rfl rfl (mV rfl ?_))
      obtain ⟨d9, d1, c8⟩ := au.g_Call r2
      refine fA rfl d1 (fL rfl (av.g_Action c8) rfl rfl ?_)
      obtain ⟨d6, b1, hres⟩ := dc hres
      have b2 := dl4 (x1 := x1) (x2 := x2.Call.Action) r0 
      rw [b1] at b2
      refine cL b2 rfl rfl (aq (TR.clo aa.t r0) (aq rfl (aq rfl bm))) (ab (gc rfl) (mV rfl (nS ?_)))
      refine cq hres rfl ?_ ?_ <;> clear hres <;> intro c hres <;> try simp only [qa] at c
      ·refine sR (mI rfl (nS ?_))
       exact rR hres rfl rfl rfl
      ·refine az (dg (af (sR (lD r0 rfl rfl rfl (gL (au.g_Call r2) rfl rfl rfl fun d3 b4 => ?_)))))
       obtain ⟨d4, b6, hres⟩ := dc hres
       have b7 := bv2  r0 b4 
       rw [b6] at b7
       refine cL b7 rfl rfl (aq (TR.clo aa.t r0) (aq (TR.clo av.t b4) bm)) (mV rfl (nS ?_))
       exact rR hres rfl rfl rfl

def RF42 (res : Bool) (r : PV) : Prop := r = vb res
theorem wa {S : List Fr} {res : Bool} {x0 : au} {x1 : au} {v1 a8 : PV} (r1 : au.t.R x1 v1) (a7 : ((!decide (x0.Priority = x1.Priority)) || (!decide ((x0.Keys.length : Int) = (x1.Keys.length : Int)))) = false) (a6 : (tSl ay.t).R x0.Keys a8) {K0 : Unit → Bool}
  (b9 : ∀ {h : Heap} (M0 : Mem h []), K0 () = res → PX Tryz.prog 0 S (QR Tryz.prog [(4, none)] (RF42 res)) [] h) :
  ∀ {m : Nat} {a0 : Int} (b7 : m = Int.toNat ((x0.Keys.length : Int) - a0)) (a5 : 0 ≤ a0) {h : Heap} (M0 : Mem h []), js x0 x1 K0 m a0 = res → RC Tryz.prog (.loop cg1) S (QR Tryz.prog [(4, none)] (RF42 res)) [(24, vi a0), (23, vi (x0.Keys.length : Int)), (22, a8), (3, .fp v1)] h := by
 have a3 := a7
 try simp only [qa] at a3
 intro m
 induction m with
 | zero =>
  intro a0 b7 a5 h M0 hres
  rw [js] at hres
  refine bq (sR (bN co rfl rfl (nS (ae ?_))))
  refine bg rfl ?_ ?_ <;> intro c <;> try simp only [qa] at c
  ·omega
  refine dm (dx (cy ?_))
  exact wP (b9 (Mem.sub M0 .slnil) hres) rfl
 | succ m ih =>
  intro a0 b7 a5 h M0 hres
  rw [js] at hres
  refine bq (sR (bN co rfl rfl (nS (ae ?_))))
  refine bg rfl ?_ ?_ <;> intro c <;> try simp only [qa] at c
  rotate_left
  ·omega
  refine az (af (ae (bf (sR (mV rfl ?_)))))
  obtain ⟨a9, b4, a2⟩ := cx (i := a0) a6 (by first | omega | (have hk := bb (by assumption) (by assumption); omega) | (have hk := tck (by assumption) (by assumption); omega) | (have hk := rtck (by assumption) (by assumption); omega) | (have hk := eck (by assumption) (by assumption) (by assumption); omega) | (have hk := tv (by assumption) (by assumption); omega) | (have hk := rtv (by assumption) (by assumption); omega)) (by first | omega | (have hk := bb (by assumption) (by assumption); omega) | (have hk := tck (by assumption) (by assumption); omega) | (have hk := rtck (by assumption) (by assumption); omega) | (have hk := eck (by assumption) (by assumption) (by assumption); omega) | (have hk := tv (by assumption) (by assumption); omega) | (have hk := rtv (by assumption) (by assumption); omega))
  refine ab (bn rfl rfl b4) (lD a2 rfl rfl rfl ?_)
  refine dt (x := .agg [df 0#32, df 0#32]) M0 rfl rfl (fun b6 b0 b8 b1 => ?_)
  refine mV rfl ?_
  refine de (k := 0) (v := a9) b1 rfl rfl rfl (TR.cnt ay.t a2) (fun b5 a1 => ?_)
  replace a1 : Mem b5 [⟨.op b6 b0 0, 127, 2, [a9]⟩] := a1
  refine nR (ab (gq (k := 0) a1 rfl rfl (TR.agg ay.t a2)) (gL (au.g_Keys r1) rfl rfl rfl fun c0 b2 => (mV rfl ?_)))
  obtain ⟨c1, b3, a4⟩ := cx (i := a0) b2 (by first | omega | (have hk := bb (by assumption) (by assumption); omega) | (have hk := tck (by assumption) (by assumption); omega) | (have hk := rtck (by assumption) (by assumption); omega) | (have hk := eck (by assumption) (by assumption) (by assumption); omega) | (have hk := tv (by assumption) (by assumption); omega) | (have hk := rtv (by assumption) (by assumption); omega)) (by first | omega | (have hk := bb (by assumption) (by assumption); omega) | (have hk := tck (by assumption) (by assumption); omega) | (have hk := rtck (by assumption) (by assumption); omega) | (have hk := eck (by assumption) (by assumption) (by assumption); omega) | (have hk := tv (by assumption) (by assumption); omega) | (have hk := rtv (by assumption) (by assumption); omega))
  refine ab (bn rfl rfl b3) (lD a4 rfl rfl rfl (bN (ay.neq_127 a2 a4) rfl rfl (nS ?_)))
  refine cq hres rfl ?_ ?_ <;> clear hres <;> intro c hres <;> try simp only [qa] at c
  ·refine sR (mB rfl (nS ?_))
   exact rR hres rfl rfl rfl
  ·refine az (dg (af (ah (bN eg rfl rfl (mV rfl (aw (ct ?_)))))))
   have hbd := du a6
   have hinc : wr (a0 + 1) = a0 + 1 := dw (by omega) (by omega)
   erw [hinc]
   exact wC (ih   (by omega) (by omega) (Mem.sub a1 (.cons _ .slnil)) hres) rfl

theorem dk2 {x0 : au} {x1 : au} {v0 v1 : PV} (r0 : au.t.R x0 v0) (r1 : au.t.R x1 v1) : FnR Tryz.prog 42 [v0, v1] (vb (iq x0 x1)) := by
 refine fnS (R := RF42) cb6 (fun _ h => h) rfl fun res hres => ?_
 unfold iq at hres
 refine sR (ab (dh rfl (TR.cnt au.t r0)) (ab (dh rfl (TR.cnt au.t r1)) (mB rfl (nS (ae (sR (fL rfl (au.g_Priority r0) rfl rfl (fL rfl (au.g_Priority r1) rfl rfl ?_))))))))
 refine bN jk rfl rfl (mV rfl ?_)
 refine bv 8 (d := 20) (v := vb ((!decide (x0.Priority = x1.Priority)) || (!decide ((x0.Keys.length : Int) = (x1.Keys.length : Int))))) ?_ ?_
 ·intro S Q r
  cases a6 : (!decide (x0.Priority = x1.Priority))
  ·intro k
   have a4 := a6
   try simp only [qa] at a4
   obtain ⟨b2, a8, a3⟩ := au.g_Keys r0
   refine ai rfl rfl (bc rfl a8) (ai rfl rfl (ba rfl (TR.cnt (tSl ay.t) a3) (TR.agg (tSl ay.t) a3)) (ai rfl rfl (cd rfl (br a3 Tryz.underlying38 _)) ?_))
   obtain ⟨b3, a7, a1⟩ := au.g_Keys r1
   refine ai rfl rfl (bc rfl a7) (ai rfl rfl (ba rfl (TR.cnt (tSl ay.t) a1) (TR.agg (tSl ay.t) a1)) (ai rfl rfl (cd rfl (br a1 Tryz.underlying38 _)) (ai rfl rfl (bd rfl rfl jk) ?_)))
   exact gK rfl rfl rfl rfl rfl k
  ·exact gN 7 rfl rfl rfl rfl rfl rfl
 refine nS ?_
 refine cq hres rfl ?_ ?_ <;> clear hres <;> intro a0 hres <;> have a2 := a0 <;> try simp only [qa] at a2
 ·refine sR (mB rfl (nS ?_))
  exact rR hres rfl rfl rfl
 ·refine az (af (ae (sR (gL (au.g_Keys r0) rfl rfl rfl fun b1 a5 => (ab (cd rfl (br a5 Tryz.underlying38 _)) (mI rfl (nS (bf ?_))))))))
  refine wC (wa r1 a0 a5 ?_  rfl (by omega) (Mem.sub (Mem.nil ⟨0, []⟩) .slnil) hres) rfl
  ·intro b0 a9 hres
   refine fd (af (sR (mB rfl (nS ?_))))
   exact rR hres rfl rfl rfl

def RF82 (res : Int) (r : PV) : Prop := r = vi res
theorem lg {S : List Fr} {res : Int} {x0 : List bh} {x1 : bh → Bool} {v0 v1 : PV} (r0 : (tSl bh.t).R x0 v0) (r1 : (tFn Tryz.prog bh.t tB).R x1 v1) {K0 : Unit → Int}
  (a8 : K0 () = res → PX Tryz.prog 0 S (QR Tryz.prog [(4, none)] (RF82 res)) [] ⟨0, []⟩) :
  ∀ {m : Nat} {a0 : Int} (a7 : m = Int.toNat ((x0.length : Int) - a0)) (a3 : 0 ≤ a0), bp x0 x1 K0 m a0 = res → RC Tryz.prog (.loop cj3) S (QR Tryz.prog [(4, none)] (RF82 res)) [(8, vi a0), (7, vi (x0.length : Int)), (1, v1), (0, v0)] ⟨0, []⟩ := by
 intro m
 induction m with
 | zero =>
  intro a0 a7 a3 hres
  rw [bp] at hres
  refine bq (sR (bN co rfl rfl (nS (ae ?_))))
  refine bg rfl ?_ ?_ <;> intro c <;> try simp only [qa] at c
  ·omega
  refine dm (dx (cy ?_))
  exact wP (a8  hres) rfl
 | succ m ih =>
  intro a0 a7 a3 hres
  rw [bp] at hres
  refine bq (sR (bN co rfl rfl (nS (ae ?_))))
  refine bg rfl ?_ ?_ <;> intro c <;> try simp only [qa] at c
  rotate_left
  ·omega
  refine az (af (ae (bf (sR (mV rfl (mV rfl (nR (mV rfl ?_))))))))
  refine mV rfl (mV rfl ?_)
  obtain ⟨a6, a4, a2⟩ := cx (i := a0) r0 (by first | omega | (have hk := bb (by assumption) (by assumption); omega) | (have hk := tck (by assumption) (by assumption); omega) | (have hk := rtck (by assumption) (by assumption); omega) | (have hk := eck (by assumption) (by assumption) (by assumption); omega) | (have hk := tv (by assumption) (by assumption); omega) | (have hk := rtv (by assumption) (by assumption); omega)) (by first | omega | (have hk := bb (by assumption) (by assumption); omega) | (have hk := tck (by assumption) (by assumption); omega) | (have hk := rtck (by assumption) (by assumption); omega) | (have hk := eck (by assumption) (by assumption) (by assumption); omega) | (have hk := tv (by assumption) (by assumption); omega) | (have hk := rtv (by assumption) (by assumption); omega))
  refine ab (bn rfl rfl a4) (lD a2 rfl rfl rfl ?_)
  refine au9 rfl r1 rfl (show bh.t.R (ix x0 a0) a6 from a2) (fun a5 a1 => ?_)
  have a1 : a5 = vb (x1 (ix x0 a0)) := a1; subst a1
  refine nS ?_
  refine cq hres rfl ?_ ?_ <;> clear hres <;> intro c hres <;> try simp only [qa] at c
  ·refine sR (mV rfl (mV rfl (nS ?_)))
   exact rR hres rfl rfl rfl
  ·refine az (dg (af (ah (bN eg rfl rfl (mV rfl (aw (ct ?_)))))))
   have hbd := du r0
   have hinc : wr (a0 + 1) = a0 + 1 := dw (by omega) (by omega)
   erw [hinc]
   exact wC (ih   (by omega) (by omega) hres) rfl

theorem dk4 {x0 : List bh} {x1 : bh → Bool} {v0 v1 : PV} (r0 : (tSl bh.t).R x0 v0) (r1 : (tFn Tryz.prog bh.t tB).R x1 v1) : FnR Tryz.prog 82 [v0, v1] (vi (fy x0 x1)) := by
 refine fnS (R := RF82) br8 (fun _ h => h) rfl fun res hres => ?_
 unfold fy at hres
 refine sR (mI rfl (nS (ae (sR (mV rfl (ab (cd rfl (br r0 Tryz.underlying85 _)) (mI rfl (nS ?_))))))))
 refine bf ?_
 refine wC (lg r0 r1 ?_  rfl (by omega) hres) rfl
 ·intro  hres
  refine fd (af (sR (mI rfl (nS ?_))))
  exact rR hres rfl rfl rfl

def RF84 (res : (List (BitVec 32))) (r : PV) : Prop := (tSl ko).R res r
theorem wc {S : List Fr} {res : (List (BitVec 32))} {x0 : au} {b5 : PV} (hb : x0.Keys.length ≤ 20) (b6 : (tSl ay.t).R x0.Keys b5) {K0 : (List (BitVec 32)) → (List (BitVec 32))}
  (d2 : ∀ {a1 : List (BitVec 32)} {a0 : List PV} {a2 : PV} (a4 : All2 ko.R a1 a0) (a6 : isL a2 = true) (a3 : Wri a2 a0) (a5 : a1.length ≤ 4611686018427387904) {h : Heap} (M0 : Mem h [⟨a2, 64, 1, a0⟩]), K0 a1 = res → PX Tryz.prog 0 S (QR Tryz.prog [(2, none)] (RF84 res)) [(3, a2)] h) :
  ∀ {m : Nat} {a7 : Int} {a1 : List (BitVec 32)} {a0 : List PV} {a2 : PV} (a4 : All2 ko.R a1 a0) (a6 : isL a2 = true) (a3 : Wri a2 a0) (a5 : a1.length ≤ 4611686018427387904) (d1 : m = Int.toNat ((x0.Keys.length : Int) - a7)) (b3 : 0 ≤ a7) (b1 : (a1.length : Int) ≤ a7) {h : Heap} (M0 : Mem h [⟨a2, 64, 1, a0⟩]), iz x0 K0 m a7 a1 = res → RC Tryz.prog (.loop ci1) S (QR Tryz.prog [(2, none)] (RF84 res)) [(9, vi a7), (8, vi (x0.Keys.length : Int)), (7, b5), (3, a2)] h := by
 have hb' := hb
 try simp only [qa] at hb'
 intro m
 induction m with
 | zero =>
  intro a7 a1 a0 a2 a4 a6 a3 a5 d1 b3 b1 h M0 hres
  rw [iz] at hres
  refine bq (sR (bN co rfl rfl (nS (ae ?_))))
  refine bg rfl ?_ ?_ <;> intro c <;> try simp only [qa] at c
  ·omega
  refine dm (dx (cy ?_))
  exact wP (d2 a4 a6 a3 a5 (Mem.sub M0 (.cons_cons _ .slnil)) hres) rfl
 | succ m ih =>
  intro a7 a1 a0 a2 a4 a6 a3 a5 d1 b3 b1 h M0 hres
  rw [iz] at hres
  refine bq (sR (bN co rfl rfl (nS (ae ?_))))
  refine bg rfl ?_ ?_ <;> intro c <;> try simp only [qa] at c
  rotate_left
  ·omega
  refine az (af (ae (bf (sR ?_))))
  obtain ⟨b9, c4, b2⟩ := cx (i := a7) b6 (by first | omega | (have hk := bb (by assumption) (by assumption); omega) | (have hk := tck (by assumption) (by assumption); omega) | (have hk := rtck (by assumption) (by assumption); omega) | (have hk := eck (by assumption) (by assumption) (by assumption); omega) | (have hk := tv (by assumption) (by assumption); omega) | (have hk := rtv (by assumption) (by assumption); omega)) (by first | omega | (have hk := bb (by assumption) (by assumption); omega) | (have hk := tck (by assumption) (by assumption); omega) | (have hk := rtck (by assumption) (by assumption); omega) | (have hk := eck (by assumption) (by assumption) (by assumption); omega) | (have hk := tv (by assumption) (by assumption); omega) | (have hk := rtv (by assumption) (by assumption); omega))
  refine ab (bn rfl rfl c4) (lD b2 rfl rfl rfl ?_)
  refine dt (x := .agg [df 0#32, df 0#32]) M0 rfl rfl (fun c7 c6 d5 c9 => ?_)
  refine de (k := 0) (v := b9) c9 rfl rfl rfl (TR.cnt ay.t b2) (fun b4 a9 => ?_)
  replace a9 : Mem b4 [⟨.op c7 c6 0, 127, 2, [b9]⟩, ⟨a2, 64, 1, a0⟩] := a9
  refine nS (ah (mV rfl (ab (bz rfl) (ab (dl (k := 0) a9 rfl rfl (ay.g_Value b2)) (ab (v := .fs true [df ((ix x0.Keys a7).Value)]) (lj rfl (all_cons rfl og)) ?_)))))
  have d0 : (tSl ko).R ([(ix x0.Keys a7).Value] : List (BitVec 32)) (.fs true [df ((ix x0.Keys a7).Value)]) := zu ⟨rfl, trivial⟩ (by simp)
  obtain ⟨a8, c0, b0⟩ := zg (t := ko) (h := b4) d0
  have b8 : fits (a0.length + a8.length) 4 = true := by rw [All2.length_eq a4, All2.length_eq b0]; (try simp only [List.length_cons, List.length_nil]); exact qi (by omega) (by omega)
  refine rn (k := 1) (es := a0) (news := a8) a9 rfl rfl rfl a6 a3 c0 b8 (fun d3 d4 c8 c3 c5 => ?_)
  have c1 : All2 ko.R (a1 ++ ([(ix x0.Keys a7).Value] : List (BitVec 32))) (a0 ++ a8) := All2.app a4 b0
  have b7 : (a1 ++ ([(ix x0.Keys a7).Value] : List (BitVec 32))).length ≤ 4611686018427387904 := by rw [← All2.length_eq c1, List.length_append]; exact ae5 b8
  refine mV rfl (aw (dg (af (ah (bN eg rfl rfl (mV rfl (aw (ct ?_))))))))
  have hbd := du b6
  have hinc : wr (a7 + 1) = a7 + 1 := dw (by omega) (by omega)
  erw [hinc]
  exact wC (ih  c1 c8 c3 b7 (by omega) (by omega) (by first | omega | (simp; done) | (simp only [List.length_append, List.length_cons, List.length_nil, List.length_set]; omega)) (Mem.sub c5 (.cons _ (.cons_cons _ .slnil))) hres) rfl

theorem dm0 {x0 : au} {v0 : PV} (r0 : au.t.R x0 v0) (hb : x0.Keys.length ≤ 20) : ∃ r, FnR Tryz.prog 84 [v0] r ∧ (tSl ko).R (jw x0) r := by
 refine fnT (R := RF84) by8 rfl fun res hres => ?_
 unfold jw at hres
 refine sR (ab (dh rfl (TR.cnt au.t r0)) (ab (v := nilS) (am rfl) (nR (ab (v := nilS) (am rfl) (nS (ae (sR (gL (au.g_Keys r0) rfl rfl rfl fun b3 a7 => ?_))))))))
 refine ab (cd rfl (br a7 Tryz.underlying38 _)) (mI rfl (nS (bf ?_)))
 have a9 := rj (sz := 1) (es := []) (Mem.nil ⟨0, []⟩) 64 (.inl ⟨none, rfl, rfl⟩) (by simp)
 refine wC (wc hb a7 ?_  aL rfl (.inl rfl) (by first | decide | simp) rfl (by omega) (by first | omega | (simp; done) | (simp only [List.length_append, List.length_cons, List.length_nil, List.length_set]; omega)) (Mem.sub a9 (.cons_cons _ .slnil)) hres) rfl
 ·intro a4 a5 a6 a1 a2 a3 a0 b2 b0 hres
  refine fd (af (sR (mV rfl (mV rfl (nS ?_)))))
  obtain ⟨b4, b1, a8⟩ := zo (P := Tryz.prog) (k := 0) (t := ko) b0 rfl a2 a1 (Nat.le_trans a0 (by decide))
  subst hres
  exact fg (.tmp rfl .nil) b1 a8

theorem bl9 {P : Program} {h : Heap} {cs ds : List PV} (H : DeepCL P h cs ds) : Deep P h (.agg cs) (.agg ds) := bx2 H.closed fun k hk w0 F0 x us R hv => H.vrl hk R hv
theorem bk2 {P : Program} {h : Heap} {L : List Ent} {k id ver : Nat} {ty : TypeId} {sz : Nat} {cs ds : List PV} (M : Mem h L) (hk : L[k]? = some ⟨.op id ver 0, ty, sz, [.agg cs]⟩) (H : DeepCL P h cs ds) : DeepC P h (.op id ver 0) (.fp (.agg ds)) := by
 obtain ⟨h1, x', cs', h2, h3, h4⟩ := M.atF hk
 simp only [List.cons.injEq, and_true] at h2
 subst h2
 simp only [PV.cellsOf, Option.some.injEq] at h3
 subst h3
 refine ⟨by simpa [closed] using H.closed, rfl, fun k hk' w0 F0 y us R hv => ?_⟩
 simp only [VRC] at hv ⊢
 obtain ⟨b, hj, rfl⟩ := hv
 obtain ⟨cur, hcur, hcl, hvr⟩ := jl R (hk' _ _ h4) hj
 exact ⟨b, 0, cur.toList.take cs.length, rfl, .inr (R.own _ _ _ hj), by simpa using jp hcur 0 cs.length, H.vrl hk' R hvr⟩
theorem de6 {cc cs ds : List PV} {a off : Nat} (hs : (cc.drop a).take cs.length = cs) (hl : off + ds.length ≤ cs.length) (ha : a + cs.length ≤ cc.length) : spl cc a (spl cs off ds) = spl cc (a + off) ds := by
 have hcc : cc = cc.take a ++ (cs ++ cc.drop (a + cs.length)) := by
  conv => lhs; rw [← List.take_append_drop a cc, ← List.take_append_drop cs.length (cc.drop a), hs, List.drop_drop]
 have hn : (spl cs off ds).length = cs.length := by simp [spl]; omega
 generalize hA : cc.take a = A at hcc
 generalize cc.drop (a + cs.length) = B at hcc
 have hAl : A.length = a := by rw [← hA, List.length_take]; omega
 subst hcc
 subst hAl
 have e1 : (A ++ (cs ++ B)).take (A.length + off) = A ++ cs.take off := by rw [List.take_append, List.take_of_length_le (by omega), show A.length + off - A.length = off by omega, List.take_append, show off - cs.length = 0 by omega]; simp
 have e2 : (A ++ (cs ++ B)).drop (A.length + off + ds.length) = cs.drop (off + ds.length) ++ B := by rw [List.drop_append, List.drop_of_length_le (by omega), show A.length + off + ds.length - A.length = off + ds.length by omega, List.drop_append, show off + ds.length - cs.length = 0 by omega]; simp
 have e3 : (A ++ (cs ++ B)).take A.length = A := by simp
 have e4 : (A ++ (cs ++ B)).drop (A.length + (spl cs off ds).length) = B := by rw [hn, List.drop_append, List.drop_of_length_le (by omega)]; simp
 have e5 : spl (A ++ (cs ++ B)) A.length (spl cs off ds) = A ++ (spl cs off ds ++ B) := by
  show List.take _ _ ++ (_ ++ List.drop _ _) = _
  rw [e3, e4]
 rw [e5]
 simp only [spl, e1, e2, List.append_assoc]
theorem bz8 {h : Heap} {L : List Ent} {k id ver n i off : Nat} {ty : TypeId} {sz : Nat} {es cs ds : List PV} {v : PV} (M : Mem h L) (hk : L[k]? = some ⟨.os id ver 0 n, ty, sz, es⟩) (hi : es[i]? = some (.agg cs)) (hv : v.cellsOf = some ds) (hl : off + ds.length ≤ cs.length) :
  ∃ h', storeR h ds.length (.op id ver (0 + i * sz + off)) v = some (.tup [], h') ∧ Mem h' (L.set k ⟨.os id ver 0 n, ty, sz, es.set i (.agg (spl cs off ds))⟩) := by
 obtain ⟨h1, hn, cc, h2, h3⟩ := M.atF hk
 obtain ⟨hil, hie⟩ := List.getElem?_eq_some_iff.1 hi
 obtain ⟨h4, h5⟩ := xl h1 h2 hi
 simp only [PV.cellsOf, Option.some.injEq] at h5
 have hcs : cs.length = sz := by have := h1 _ (List.mem_of_getElem? hi); simpa [cnt] using this
 have hsp : spl cc (i * sz) (spl cs off ds) = spl cc (i * sz + off) ds := de6 (by rw [hcs, ← h5]) hl (by omega)
 have hsl : (spl cs off ds).length = sz := by simp [spl]; omega
 have hrc := yv (v := .agg (spl cs off ds)) h1 h2 hil rfl hsl
 refine ⟨hput h id (.cells ver ty true (spl cc (i * sz + off) ds)), ?_, M.upd hk ⟨fun x hx => ?_, by simp [hn], _, hrc, by rw [hsp]; simp [mg h3]⟩ (fun i hi => .inl hi) fun i hi hne => ?_⟩
 ·rw [ad1, h3, Nat.zero_add]
  simp only [storeB, hv]
  rw [if_pos ⟨trivial, trivial, by omega⟩]
 ·rcases List.mem_or_eq_of_mem_set hx with h6 | h6
  ·exact h1 x h6
  ·rw [h6]; simp [cnt, hsl]
 ·exact je _ _ _ _ fun e => hne (by simp [idOf, e])
theorem co6 {P : Program} {S : List Fr} {Q : Post} {E : TEnv} {h : Heap} {L : List Ent} {hf : Bool} {r : List AOper} {o o' : Operand} {k id ver n i off sz' : Nat} {ty : TypeId} {sz : Nat} {es cs ds : List PV} {v : PV} (M : Mem h L) (eo : evE E o = some (.op id ver (0 + i * sz + off))) (ev' : evE E o' = some v) (hk : L[k]? = some ⟨.os id ver 0 n, ty, sz, es⟩) (hi : es[i]? = some (.agg cs)) (hv : v.cellsOf = some ds) (hn : ds.length = sz') (hl : off + ds.length ≤ cs.length)
  (K : ∀ h', Mem h' (L.set k ⟨.os id ver 0 n, ty, sz, es.set i (.agg (spl cs off ds))⟩) → RD P r S Q E h') : RD P (⟨none, .store sz' o o', none, hf⟩ :: r) S Q E h := by
 subst hn
 obtain ⟨h', h1, h2⟩ := bz8 M hk hi hv hl
 exact yn ⟨rfl, fun T hT => by show storeR h ds.length (ev T o) (ev T o') = _; rw [dy hT eo, dy hT ev', h1]⟩ (K h' h2)
theorem bq7 (ad : Option Addr) (ox oy : Operand) : ∃ b, binF Tryz.prog .eql 85 ox oy (.sc (.slice ad 0 0)) nilS = some (vb b) := by
 cases ad with
 | none => exact ⟨true, by kernel_rfl⟩
 | some a => exact ⟨false, by cases a; kernel_rfl⟩
theorem co9 (tg : Bool) (es : List PV) (ox oy : Operand) : binF Tryz.prog .eql 85 ox oy (.fs tg es) nilS = some (vb false) := rfl
theorem bo8 {l : List bh} {v : PV} (r : (tSl bh.t).R l v) (ox oy : Operand) : ∃ b, binF Tryz.prog .eql 85 ox oy v nilS = some (vb b) ∧ (b = true → l = []) := by
 obtain ⟨⟨es, he, hl⟩, hb⟩ := r
 rcases he with ⟨ad, rfl, rfl⟩ | ⟨tg, rfl⟩
 ·obtain ⟨b, h⟩ := bq7 ad ox oy
  refine ⟨b, h, fun _ => ?_⟩
  cases l with
  | nil => rfl
  | cons _ _ => simp [All2] at hl
 ·exact ⟨false, co9 tg es ox oy, fun h => by cases h⟩
theorem cy1 {x0 : List bh} {v0 : PV} (r0 : (tSl bh.t).R x0 v0) (hb : x0.length ≤ 2000000) : ∃ r, FnR Tryz.prog 79 [v0] r ∧ (tSl bh.t).R x0 r := by
 refine fnE bu5 (by simp) ?_
 refine ae (ah (ab (v := nilS) (am rfl) (aw (af (ae (ae (ah (ab (am rfl) ?_))))))))
 obtain ⟨b, e1, e2⟩ := bo8 r0 (.tmp 3) (.const (.slice none 0 0))
 refine ab (bd rfl rfl e1) (aw (af (bg rfl (fun hc => ?_) fun hc => ?_)))
 ·have hx := e2 hc
  refine ae (ah (ab (v := nilS) (am rfl) (aw (af ?_))))
  exact fg (.tmp rfl .nil) (cm rfl) (by rw [hx]; exact ib)
 ·refine az (af (ae (ah ?_)))
  refine ab (v := .fs true []) (lj rfl og) (ab (am rfl) ?_)
  have MA := rj (sz := 3) (es := []) (Mem.nil ⟨0, []⟩) 112 (.inr rfl) (by simp)
  obtain ⟨nw, sr, ar⟩ := zg (t := bh.t) (h := ⟨0, []⟩) r0
  have ff : fits (([] : List PV).length + nw.length) 24 = true := by rw [All2.length_eq ar]; (try simp only [List.length_cons, List.length_nil]); exact qi (by omega) (by omega)
  refine rn (k := 0) (es := ([] : List PV)) (news := nw) MA rfl rfl rfl rfl (.inl rfl) sr ff (fun a h n wr M => ?_)
  refine ab (am rfl) (aw (af ?_))
  obtain ⟨v1, d1, r1⟩ := zo (P := Tryz.prog) (k := 0) (t := bh.t) M rfl n ar (Nat.le_trans (show x0.length ≤ 4611686018427387904 by omega) (by decide))
  exact fg (.tmp rfl .nil) d1 r1
def zTV : PV := .agg [vs [], nilS, nilS, vi 0, nilS, vi 0]
theorem dx5 : ax.t.R zT zTV := ⟨_, _, _, rfl, ib, ib, ib⟩
theorem da0 {x0 : aa} {x1 : Int} {v0 : PV} (r0 : aa.t.R x0 v0) (h0 : 0 ≤ x1) (h1 : x1 < x0.Tables.length) (h2 : x1 ≤ 1000000) (h3 : (ix x0.Tables x1).Keys.length ≤ 2000) : ∃ r, FnR Tryz.prog 43 [v0, vi x1] r ∧ aa.t.R (ownP x0 x1) r := by
 refine fnE bw1 (by simp) ?_
 refine ae (ah (ab (dh rfl (TR.cnt aa.t r0)) ?_))
 refine dt (x := .agg [vs [], nilS, nilS, nilS, nilS, nilS, nilS, nilS, nilS]) (Mem.nil _) rfl rfl (fun i4 w4 h4 M4 => aw (af ?_))
 refine ae (ah (ab (am rfl) (ab (bd rfl rfl eg) ?_)))
 have hinc : wr (x1 + 1) = x1 + 1 := dw (by omega) (by omega)
 have hfit : fits (x1 + 1).toNat 104 = true := qi (by omega) (Nat.le_trans (Nat.mul_le_mul_right 104 (show (x1 + 1).toNat ≤ 1000001 by omega)) (by decide))
 refine bk1 (m := x1 + 1) (zs := [vs [], nilS, nilS, vi 0, nilS, vi 0]) (zz := zTV) M4 (by omega) (by show some (vi (wr (x1 + 1))) = _; rw [hinc]) (by show some (vi (wr (x1 + 1))) = _; rw [hinc]) rfl rfl rfl hfit (fun i8 w8 h8 M8 => ?_)
 refine ab (v := .agg [vs [], nilS, nilS, nilS, nilS, .os i8 w8 0 (x1 + 1).toNat, nilS, nilS, nilS]) (nm (cs := [vs [], nilS, nilS, nilS, nilS, .os i8 w8 0 (x1 + 1).toNat, nilS, nilS, nilS]) rfl rfl) ?_
 refine dt (x := .agg [vs [], nilS, nilS, nilS, nilS, nilS, nilS, nilS, nilS]) M8 rfl rfl (fun i5 w5 h5 M5 => ?_)
 refine de (k := 0) (v := .agg [vs [], nilS, nilS, nilS, nilS, .os i8 w8 0 (x1 + 1).toNat, nilS, nilS, nilS]) M5 rfl rfl rfl rfl (fun h6 M6 => aw (af ?_))
 replace M6 : Mem h6 [⟨.op i5 w5 0, 31, 9, [.agg [vs [], nilS, nilS, nilS, nilS, .os i8 w8 0 (x1 + 1).toNat, nilS, nilS, nilS]]⟩, ⟨.os i8 w8 0 (x1 + 1).toNat, 87, 6, List.replicate (x1 + 1).toNat zTV⟩, ⟨.op i4 w4 0, 31, 9, [.agg [vs [], nilS, nilS, nilS, nilS, nilS, nilS, nilS, nilS]]⟩] := M6
 refine ae (ah ?_)
 refine ab (bz rfl) (ab (dl (k := 0) (off := 5) (w := .os i8 w8 0 (x1 + 1).toNat) M6 rfl rfl rfl) (ab (am rfl) ?_))
 obtain ⟨wt, gt, rt⟩ := aa.g_Tables r0
 refine ab (bc rfl gt) (ab (ba rfl (TR.cnt _ rt) (TR.agg _ rt)) (ab (am rfl) ?_))
 obtain ⟨e0, a0, q0⟩ := cx (i := x1) rt h0 h1
 obtain ⟨wk, gk, rk⟩ := ax.g_Keys q0
 refine ab (bn rfl rfl a0) (ab (bc rfl gk) (ab (ba rfl (TR.cnt _ rk) (TR.agg _ rk)) ?_))
 obtain ⟨d, f1, s1⟩ := cy1 rk (by omega)
 refine cL f1 rfl rfl (aq (TR.clo _ rk) bm) ?_
 refine ab (v := .op i8 w8 (0 + x1.toNat * 6)) (bn rfl rfl (by have := dj6 (id := i8) (ver := w8) (off := 0) (n := (x1 + 1).toNat) (j := x1.toNat) (k := .i64) (by omega) 6; rw [Int.toNat_of_nonneg h0] at this; exact this)) (ab (bz rfl) ?_)
 refine co6 (k := 1) (cs := [vs [], nilS, nilS, vi 0, nilS, vi 0]) (ds := [d]) M6 rfl rfl rfl (by rw [List.getElem?_replicate, if_pos (by omega)]; rfl) (zi (TR.cnt _ s1) (TR.agg _ s1)) rfl (by simp) (fun h7 M7 => aw (af ?_))
 replace M7 : Mem h7 [⟨.op i5 w5 0, 31, 9, [.agg [vs [], nilS, nilS, nilS, nilS, .os i8 w8 0 (x1 + 1).toNat, nilS, nilS, nilS]]⟩, ⟨.os i8 w8 0 (x1 + 1).toNat, 87, 6, (List.replicate (x1 + 1).toNat zTV).set x1.toNat (.agg [vs [], d, nilS, vi 0, nilS, vi 0])⟩, ⟨.op i4 w4 0, 31, 9, [.agg [vs [], nilS, nilS, nilS, nilS, nilS, nilS, nilS, nilS]]⟩] := M7
 refine ae (ah (ab (gq (k := 0) M7 rfl rfl rfl) ?_))
 refine de (k := 2) (v := .agg [vs [], nilS, nilS, nilS, nilS, .os i8 w8 0 (x1 + 1).toNat, nilS, nilS, nilS]) M7 rfl rfl rfl rfl (fun h9 M9 => aw (af ?_))
 replace M9 : Mem h9 [⟨.op i5 w5 0, 31, 9, [.agg [vs [], nilS, nilS, nilS, nilS, .os i8 w8 0 (x1 + 1).toNat, nilS, nilS, nilS]]⟩, ⟨.os i8 w8 0 (x1 + 1).toNat, 87, 6, (List.replicate (x1 + 1).toNat zTV).set x1.toNat (.agg [vs [], d, nilS, vi 0, nilS, vi 0])⟩, ⟨.op i4 w4 0, 31, 9, [.agg [vs [], nilS, nilS, nilS, nilS, .os i8 w8 0 (x1 + 1).toNat, nilS, nilS, nilS]]⟩] := M9
 have hA : All2 ax.t.R (ownP x0 x1).Tables ((List.replicate (x1 + 1).toNat zTV).set x1.toNat (.agg [vs [], d, nilS, vi 0, nilS, vi 0])) := (All2.rep dx5 _).set ⟨_, _, _, rfl, s1, ib, ib⟩
 obtain ⟨r, d1, s2⟩ := bm5 (P := Tryz.prog) (M9.at (k := 1) rfl) rfl hA.clo
 have cl : ∀ v, closed v = true → DeepC Tryz.prog h9 v v := fun v hv => fa hv
 refine fg (.cell rfl (gh (k := 2) M9 rfl rfl) .nil) (bl9 (ds := [vs [], nilS, nilS, nilS, nilS, r, nilS, nilS, nilS]) ⟨cl _ rfl, cl _ rfl, cl _ rfl, cl _ rfl, cl _ rfl, d1, cl _ rfl, cl _ rfl, cl _ rfl, trivial⟩) ?_
 exact ⟨_, _, _, _, _, _, _, _, rfl, ib, ib, ib, ib, ⟨⟨_, s2, hA⟩, by show ((List.replicate _ _).set _ _).length ≤ _; simp; omega⟩, ib, ib, ib⟩
theorem ee9 {x0 c0 : aj} {v0 w0 : PV} (r0 : aj.t.R x0 v0) (a0 : aj.t.R c0 w0) : FnR Tryz.prog 41 [v0, .fp w0] (vb (iq x0.Entry c0.Entry)) := by
 obtain ⟨r, h1, rfl⟩ : ∃ r, FnR Tryz.prog 41 [v0, .fp w0] r ∧ r = vb (iq x0.Entry c0.Entry) := by
  refine fnE bq5 (by simp) ?_
  refine ae (ah (ab (dh rfl (TR.cnt aj.t r0)) (ab (v := vb false) (am rfl) (aw (af ?_)))))
  obtain ⟨we, ge, re⟩ := aj.g_Entry r0
  obtain ⟨wf, gf, rf⟩ := aj.g_Entry a0
  refine ae (ah (ab (bc rfl ge) (ab (ba rfl (TR.cnt _ re) (TR.agg _ re)) (ab (bc rfl gf) (ab (ba rfl (TR.cnt _ rf) (TR.agg _ rf)) ?_)))))
  refine cL (dk2 re rf) rfl rfl (aq (TR.clo _ re) (aq (TR.clo _ rf) bm)) (ab (am rfl) (aw (af ?_)))
  exact fg (.tmp rfl .nil) (cm rfl) rfl
 exact h1
theorem ed4 {c0 : aj} {w0 : PV} (a0 : aj.t.R c0 w0) : (tFn Tryz.prog aj.t tB).R (fun r => iq r.Entry c0.Entry) (.fn (.func 41) [] [.fp w0]) :=
 ⟨41, [], _, rfl, rfl, by simp [closedL, closed, TR.clo _ a0], fun a va ra => ⟨_, ee9 ra a0, rfl⟩⟩
theorem eg1 {x0 : bh} {v0 : PV} (r0 : bh.t.R x0 v0) : FnR Tryz.prog 83 [v0] (vb (decide (x0.Kind = 2))) := by
 obtain ⟨r, h1, rfl⟩ : ∃ r, FnR Tryz.prog 83 [v0] r ∧ r = vb (decide (x0.Kind = 2)) := by
  refine fnE bq0 (by simp) ?_
  refine ae (ah (ab (dh rfl (TR.cnt bh.t r0)) (ab (v := vb false) (am rfl) (aw (af ?_)))))
  refine ae (ah (ab (bc rfl (bh.g_Kind r0)) (ab (ba rfl rfl rfl) (ab (bd rfl rfl lh) (ab (am rfl) (aw (af ?_)))))))
  exact fg (.tmp rfl .nil) (cm rfl) rfl
 exact h1
theorem ef5 : (tFn Tryz.prog bh.t tB).R (fun k => decide (k.Kind = 2)) (.fn (.func 83) [] []) :=
 ⟨83, [], [], rfl, rfl, rfl, fun a va ra => ⟨_, eg1 ra, rfl⟩⟩
def nilP : PV := .sc (.pointer none)
def trF : Tr → PV
 | .nil => nilP
 | .node l r s v => .fp (.agg [trF l, trF r, vb s, vi v])
def TrM : Tr → PV → List Ent → Prop
 | .nil, p, L => p = nilP ∧ L = []
 | .node l r s v, p, L => ∃ id ver pl pr Ll Lr, p = .op id ver 0 ∧ L = ⟨.op id ver 0, 151, 4, [.agg [pl, pr, vb s, vi v]]⟩ :: (Ll ++ Lr) ∧ TrM l pl Ll ∧ TrM r pr Lr
theorem ac6 : ∀ t, closed (trF t) = true
 | .nil => rfl
 | .node l r s v => by simp [trF, closed, closedL, ac6 l, ac6 r]
theorem ad2 : ∀ t, cnt (trF t) = some 1
 | .nil => rfl
 | .node _ _ _ _ => rfl
theorem ab5 : ∀ t, (trF t).isAgg = false
 | .nil => rfl
 | .node _ _ _ _ => rfl
theorem TrM.cnt {t : Tr} {p : PV} {L : List Ent} (H : TrM t p L) : cnt p = some 1 := by
 cases t with
 | nil => rw [H.1]; rfl
 | node l r s v => obtain ⟨_, _, _, _, _, _, rfl, _⟩ := H; rfl
theorem TrM.agg {t : Tr} {p : PV} {L : List Ent} (H : TrM t p L) : p.isAgg = false := by
 cases t with
 | nil => rw [H.1]; rfl
 | node l r s v => obtain ⟨_, _, _, _, _, _, rfl, _⟩ := H; rfl
theorem TrM.deep {P : Program} {h : Heap} {L0 : List Ent} (M : Mem h L0) : ∀ {t : Tr} {p : PV} {L : List Ent}, TrM t p L → (∀ e ∈ L, e ∈ L0) → DeepC P h p (trF t)
 | .nil, p, L, H, _ => by rw [H.1]; exact fa rfl
 | .node l r s v, p, L, H, hs => by
  obtain ⟨id, ver, pl, pr, Ll, Lr, rfl, rfl, h1, h2⟩ := H
  obtain ⟨k, hk⟩ := List.getElem?_of_mem (hs _ List.mem_cons_self)
  exact bk2 M hk ⟨TrM.deep M h1 fun e he => hs e (by simp [he]), TrM.deep M h2 fun e he => hs e (by simp [he]), fa rfl, fa rfl, trivial⟩
theorem ax4 {P : Program} {h : Heap} {v d : PV} (H : DeepC P h v d) : DeepC P h (.fp v) (.fp d) := by
 refine ⟨H.1, rfl, fun k hk w0 F0 x us R hv => ?_⟩
 simp only [VRC] at hv ⊢
 obtain ⟨b, o, xs, rfl, hF, hc, hr⟩ := hv
 exact ⟨b, o, xs, rfl, (VRC_sees (P := P) (nz R) (.fp (.agg [])) _ rfl (by simp only [VRC]; exact ⟨b, o, [], rfl, hF, by intro j u hj; simp at hj, trivial⟩) |> fun q => by simp only [VRC] at q; obtain ⟨b', o', xs', e, hF', _⟩ := q; simp at e; rw [e.1]; exact hF'), hc, H.2.2 k hk w0 F0 x xs R hr⟩
def triP (w : Int) (p : PV) : PV := .fp (.agg [vi w, p])
theorem av5 {P : Program} {h : Heap} {L0 : List Ent} (M : Mem h L0) {t : Tr} {p : PV} {L : List Ent} {w : Int} (H : TrM t p L) (hs : ∀ e ∈ L, e ∈ L0) : Deep P h (triP w p) (triP w (trF t)) :=
 (ax4 (v := .agg [vi w, p]) (d := .agg [vi w, trF t]) ⟨by simp [closed, closedL, ac6], rfl, fun k hk w0 F0 x us R hv => by
  have H2 : DeepCL P h [vi w, p] [vi w, trF t] := ⟨fa rfl, TrM.deep M H hs, trivial⟩
  simp only [VRC] at hv ⊢
  exact H2.vrl hk R hv⟩).deep
theorem bs2 {w : Int} {l r : Tr} {s : Bool} {v : Int} : FnR Tryz.prog 96 [triP w (trF (.node l r s v))] (vb true) := by
 obtain ⟨r', h1, rfl⟩ : ∃ r', FnR Tryz.prog 96 [triP w (trF (.node l r s v))] r' ∧ r' = vb true := by
  refine fnE br5 (by simp) ?_
  refine ae (ah (ab (v := vb false) (am rfl) (aw (af ?_))))
  refine ae (ah (ab (am rfl) (ab (v := vb true) (bd rfl rfl rfl) (ab (am rfl) ?_))))
  refine ai rfl rfl (am rfl) (ai rfl rfl (bt rfl rfl) (ai rfl rfl (bc (w := trF (.node l r s v)) rfl rfl) (ai rfl rfl (ba rfl rfl rfl) ?_)))
  refine ai rfl rfl (v := vb true) (bd rfl rfl rfl) (ab (v := vb true) (lz rfl rfl rfl rfl) (ab (am rfl) (aw (af ?_))))
  exact fg (.tmp rfl .nil) (cm rfl) rfl
 exact h1
theorem bv8 {w : Int} {p : PV} {x : BitVec 32} {n : Int} (hp : cnt p = some 1) (ha : p.isAgg = false) : FnR Tryz.prog 97 [triP w p, df x, vi n] (vb (pfx w x n)) := by
 obtain ⟨r', h1, rfl⟩ : ∃ r', FnR Tryz.prog 97 [triP w p, df x, vi n] r' ∧ r' = vb (pfx w x n) := by
  refine fnE bo6 (by simp) ?_
  refine ae (ah (ab (v := vb false) (am rfl) (aw (af ?_))))
  refine ae (ah (ab (am rfl) (ab (v := vb (decide (0 ≤ n))) (bd rfl rfl oa) (ab (am rfl) ?_))))
  refine bv 7 (d := 16) (v := vb (decide (0 ≤ n) && decide (n ≤ w))) ?_ ?_
  ·intro S Q r
   cases decide (0 ≤ n)
   ·exact gN 6 rfl rfl rfl rfl rfl rfl
   ·intro k
    refine ai rfl rfl (am rfl) (ai rfl rfl (am rfl) (ai rfl rfl (bt rfl rfl) (ai rfl rfl (bc (w := vi w) rfl rfl) (ai rfl rfl (ba rfl rfl rfl) (ai rfl rfl (bd rfl rfl bj0) ?_)))))
    exact gK rfl rfl rfl rfl rfl k
  refine mV rfl ?_
  refine bv 7 (d := 24) (v := vb (pfx w x n)) ?_ ?_
  ·intro S Q r
   unfold pfx
   cases (decide (0 ≤ n) && decide (n ≤ w))
   ·exact gN 6 rfl rfl rfl rfl rfl rfl
   ·intro k
    refine ai rfl rfl (am rfl) (ai rfl rfl (am rfl) (ai rfl rfl (bt rfl rfl) (ai rfl rfl (bc (w := vi w) rfl rfl) (ai rfl rfl (ba rfl rfl rfl) ?_))))
    refine fu rfl rfl (mb rfl rfl (aq rfl (aq rfl bm)) ah7) ?_
    exact gK rfl rfl rfl rfl rfl k
  refine ab (am rfl) (aw (af ?_))
  exact fg (.tmp rfl .nil) (cm rfl) rfl
 exact h1
theorem by6 {w : Int} {p : PV} {x : BitVec 32} {d : Int} (h0 : 0 ≤ d) (h1 : d < w) (h2 : w ≤ 32) : FnR Tryz.prog 98 [triP w p, df x, vi d] (df (bitT w x d)) := by
 obtain ⟨r', h1, rfl⟩ : ∃ r', FnR Tryz.prog 98 [triP w p, df x, vi d] r' ∧ r' = df (bitT w x d) := by
  refine fnE bz3 (by simp) ?_
  refine ae (ah (ab (v := df 0#32) (am rfl) (aw (af ?_))))
  have e1 : wr (w - 1) = w - 1 := dw (by omega) (by omega)
  have e2 : wr (w - 1 - d) = w - 1 - d := dw (by omega) (by omega)
  refine ae (ah (ab (am rfl) (ab (am rfl) (ab (bt rfl rfl) (ab (bc (w := vi w) rfl rfl) (ab (ba rfl rfl rfl) ?_))))))
  refine ab (v := vi (w - 1)) (bd rfl rfl (by rw [← e1]; exact aa5)) (ab (am rfl) (ab (v := vi (w - 1 - d)) (bd rfl rfl (by rw [← e2]; exact aa5)) ?_))
  refine ab (bd rfl rfl (bi3 (by omega))) (ab (bd (b := df 1#32) rfl rfl aw4) (ab (am rfl) (aw (af ?_))))
  exact fg (.tmp rfl .nil) (cm rfl) rfl
 exact h1
def Zip (p0 : PV) (R0 : List Ent) (b : PV) (R : List Ent) (plug : Tr → Tr) : Prop := ∀ s Ls, TrM s b Ls → ∃ L', TrM (plug s) p0 L' ∧ (Ls ++ R).Perm (L' ++ R0)
theorem cd0 (p0 : PV) (R0 : List Ent) : Zip p0 R0 p0 R0 id := fun s Ls H => ⟨Ls, H, .refl _⟩
theorem dr1 {p0 : PV} {R0 R : List Ent} {plug : Tr → Tr} {id ver : Nat} {pl pr : PV} {Lr : List Ent} {r : Tr} {s : Bool} {v : Int} (Z : Zip p0 R0 (.op id ver 0) R plug) (hr : TrM r pr Lr) : Zip p0 R0 pl (⟨.op id ver 0, 151, 4, [.agg [pl, pr, vb s, vi v]]⟩ :: (Lr ++ R)) fun q => plug (.node q r s v) := fun q Ls H => by
 obtain ⟨L', h1, h2⟩ := Z (.node q r s v) _ ⟨id, ver, pl, pr, Ls, Lr, rfl, rfl, H, hr⟩
 refine ⟨L', h1, .trans ?_ h2⟩
 classical exact List.perm_iff_count.2 fun a => by simp only [List.count_append, List.count_cons, List.cons_append]; omega
theorem dq3 {p0 : PV} {R0 R : List Ent} {plug : Tr → Tr} {id ver : Nat} {pl pr : PV} {Ll : List Ent} {l : Tr} {s : Bool} {v : Int} (Z : Zip p0 R0 (.op id ver 0) R plug) (hl : TrM l pl Ll) : Zip p0 R0 pr (⟨.op id ver 0, 151, 4, [.agg [pl, pr, vb s, vi v]]⟩ :: (Ll ++ R)) fun q => plug (.node l q s v) := fun q Ls H => by
 obtain ⟨L', h1, h2⟩ := Z (.node l q s v) _ ⟨id, ver, pl, pr, Ll, Ls, rfl, rfl, hl, H⟩
 refine ⟨L', h1, .trans ?_ h2⟩
 classical exact List.perm_iff_count.2 fun a => by simp only [List.count_append, List.count_cons, List.cons_append]; omega
theorem au3 {P : Program} {h : Heap} {p0 b : PV} {R0 R Ls : List Ent} {plug : Tr → Tr} {s : Tr} {w : Int} (Z : Zip p0 R0 b R plug) (H : TrM s b Ls) (M : Mem h (Ls ++ R)) : Deep P h (triP w p0) (triP w (trF (plug s))) := by
 obtain ⟨L', h1, h2⟩ := Z s Ls H
 exact av5 (M.perm h2) h1 fun e he => by simp [he]
theorem dk9 {w : Int} {h : Heap} {R : List Ent} (hm : dq w ≠ 0#32) (M : Mem h R) : ∃ r h', FnX Tryz.prog 85 [vi w] h r h' ∧ ∃ p L, r = .tup [triP w p, vi 0] ∧ TrM (.node .nil .nil false 0) p L ∧ Mem h' (L ++ R) := by
 refine fnX bt7 (by simp) ?_
 refine ae (ah (ab (v := nilP) (am rfl) (ab (v := vi 0) (am rfl) (aw (af ?_)))))
 refine ae (ae (ah (ab (am rfl) (cL vx rfl rfl (aq rfl bm) ?_))))
 refine ab (v := vb (decide (dq w = 0#32))) (bd (b := df 0#32) rfl rfl bj4) (aw (af (bg rfl (fun hc => ?_) fun hc => ?_)))
 ·simp only [decide_eq_true_eq] at hc; exact absurd hc hm
 ·refine az (af (ae (ah (ab (am rfl) ?_))))
  refine ab (v := .agg [nilP, nilP, vb false, vi 0]) (nm (cs := [nilP, nilP, vb false, vi 0]) rfl rfl) ?_
  refine xv M rfl rfl (fun i9 w9 h9 M9 => ?_)
  refine ab (v := .agg [vi w, .op i9 w9 0]) (nm (cs := [vi w, .op i9 w9 0]) rfl rfl) (ab (dh rfl rfl) (ab (am rfl) (ab (v := vi 0) (am rfl) (aw (af ?_)))))
  exact mq (.tmp rfl (.tmp rfl .nil)) ⟨.op i9 w9 0, _, rfl, ⟨i9, w9, nilP, nilP, [], [], rfl, rfl, ⟨rfl, rfl⟩, ⟨rfl, rfl⟩⟩, M9⟩
theorem ba1 {S : List Fr} {Q : Post} {w n i : Int} {x : BitVec 32} {p0 : PV} {R0 : List Ent} {res : Tr} (hn : n ≤ w) (hw : w ≤ 32)
  (K : ∀ {h : Heap} {b : PV} {Ls R : List Ent} {l r : Tr} {s : Bool} {v : Int} {plug : Tr → Tr}, TrM (.node l r s v) b Ls → Zip p0 R0 b R plug → plug (fin i (.node l r s v)) = res → Mem h (Ls ++ R) → PX Tryz.prog 1 S Q [(9, b), (3, vi i)] h) :
  ∀ (m : Nat) {d : Int} {h : Heap} {b : PV} {Ls R : List Ent} {l r : Tr} {s : Bool} {v : Int} {plug : Tr → Tr}, m = (n - d).toNat → 0 ≤ d → d ≤ n → TrM (.node l r s v) b Ls → Zip p0 R0 b R plug → plug (ins w x i m d (.node l r s v)) = res → Mem h (Ls ++ R) →
   RC Tryz.prog (.loop ar3) S Q [(27, vi d), (26, vi n), (9, b), (3, vi i), (1, df x), (0, triP w p0)] h
 | 0, d, h, b, Ls, R, l, r, s, v, plug, hm, h0, h1, HT, Z, hp, M => by
  refine bq ?_
  refine ae (ah (ab (bd rfl rfl co) (aw (af (ae (bg rfl (fun hc => ?_) fun hc => ?_))))))
  ·simp only [decide_eq_true_eq] at hc; omega
  ·exact dm (dx (cy (wP (K HT Z hp M) rfl)))
 | m + 1, d, h, b, Ls, R, l, r, s, v, plug, hm, h0, h1, HT, Z, hp, M => by
  have hlt : d < n := by omega
  refine bq ?_
  refine ae (ah (ab (bd rfl rfl co) (aw (af (ae (bg rfl (fun hc => ?_) fun hc => ?_))))))
  ·refine az (af (ae (bf (ae (ah (ab (am rfl) (ab (am rfl) (aw (af ?_)))))))))
   have hinc : wr (d + 1) = d + 1 := dw (by omega) (by omega)
   have hz := au3 (P := Tryz.prog) (w := w) Z HT M
   refine ae (ah (ab (am rfl) (ab (am rfl) (ab (am rfl) ?_))))
   refine rz (v := df (bitT w x d)) (yi rfl rfl (ow hz (ow (cm rfl) (ow (cm rfl) ah4))) (by6 h0 (by omega) hw) rfl) (ab (am rfl) (aw (af ?_)))
   obtain ⟨id, ver, pl, pr, Ll, Lr, rfl, rfl, hl, hr⟩ := HT
   rcases ad0 w x d with hb | hb
   ·rw [hb]
    have a1 : plug (.node (ins w x i m (d + 1) (mk l)) r s v) = res := by rw [← hp, ins, hb]; rfl
    have a0 : ∀ {h' : Heap} {q : PV} {Lq : List Ent} {l' r' : Tr} {s' : Bool} {v' : Int}, mk l = .node l' r' s' v' → TrM (.node l' r' s' v') q Lq → Mem h' (⟨.op id ver 0, 151, 4, [.agg [q, pr, vb s, vi v]]⟩ :: (Lq ++ (Lr ++ R))) →
      RC Tryz.prog (.loop ar3) S Q [(27, vi (d + 1)), (26, vi n), (9, q), (3, vi i), (1, df x), (0, triP w p0)] h' := fun {h' q Lq l' r' s' v'} em H' M' =>
     ba1 hn hw K m (plug := fun q => plug (.node q r s v)) (by omega) (by omega) (by omega) H' (dr1 Z hr) (by rw [em] at a1; exact a1) (M'.perm (by classical exact List.perm_iff_count.2 fun a => by simp only [List.count_append, List.count_cons, List.cons_append]; omega))
    replace M : Mem h (⟨.op id ver 0, 151, 4, [.agg [pl, pr, vb s, vi v]]⟩ :: (Ll ++ Lr ++ R)) := M
    refine ae (ae (ah (ab (am rfl) (ab (am rfl) (ab (bt rfl rfl) (ab (bz rfl) (ab (v := .op id ver (0 + 0 + 0 * 1)) (mw rfl rfl rfl) ?_)))))))
    refine ab (dl (k := 0) (off := 0) (w := pl) M rfl rfl (by have e1 := TrM.agg hl; exact mk1 e1)) ?_
    cases l with
    | nil =>
     obtain ⟨rfl, rfl⟩ := hl
     refine ab (v := vb true) (bd rfl rfl rfl) (aw (af (bg rfl (fun hd => ?_) fun hd => by cases hd)))
     refine ah (ab (am rfl) (ab (am rfl) ?_))
     refine ab (v := .agg [nilP, nilP, vb false, vi 0]) (nm (cs := [nilP, nilP, vb false, vi 0]) rfl rfl) ?_
     refine xv M rfl rfl (fun i2 w2 h2 M2 => ?_)
     refine ab (bt rfl rfl) (ab (bz rfl) (ab (v := .op id ver (0 + 0 + 0 * 1)) (mw rfl rfl rfl) ?_))
     refine mz (k := 1) (off := 0) (v := .op i2 w2 0) M2 rfl rfl rfl rfl rfl (by simp) (fun h3 M3 => aw (af ?_))
     replace M3 : Mem h3 (⟨.op i2 w2 0, 151, 4, [.agg [nilP, nilP, vb false, vi 0]]⟩ :: ⟨.op id ver 0, 151, 4, [.agg [.op i2 w2 0, pr, vb s, vi v]]⟩ :: ([] ++ Lr ++ R)) := M3
     refine ah (ab (am rfl) (ab (am rfl) (ab (bt rfl rfl) (ab (bz rfl) (ab (v := .op id ver (0 + 0 + 0 * 1)) (mw rfl rfl rfl) ?_)))))
     refine ab (dl (k := 1) (off := 0) (w := .op i2 w2 0) M3 rfl rfl rfl) (ab (am rfl) (aw (dg (af ?_))))
     refine ah (ab (bd rfl rfl eg) (ab (am rfl) (aw (ct ?_))))
     refine mo ?_ (a0 rfl ⟨i2, w2, nilP, nilP, [], [], rfl, rfl, ⟨rfl, rfl⟩, ⟨rfl, rfl⟩⟩ (M3.perm (by classical exact List.perm_iff_count.2 fun a => by simp only [List.count_append, List.count_cons, List.count_nil, List.cons_append]; omega)))
     exact ky (by show some (vi (wr (d + 1))) = _; rw [hinc]) (sB rfl)
    | node l1 r1 s1 v1 =>
     have a2 := hl
     obtain ⟨ia, va, pa, pb, La, Lb, rfl, rfl, ha, hb'⟩ := a2
     refine ab (v := vb false) (bd rfl rfl rfl) (aw (af (bg rfl (fun hd => by cases hd) fun hd => ?_)))
     refine az (af ?_)
     refine ah (ab (am rfl) (ab (am rfl) (ab (bt rfl rfl) (ab (bz rfl) (ab (v := .op id ver (0 + 0 + 0 * 1)) (mw rfl rfl rfl) ?_)))))
     refine ab (dl (k := 0) (off := 0) (w := .op ia va 0) M rfl rfl rfl) (ab (am rfl) (aw (dg (af ?_))))
     refine ah (ab (bd rfl rfl eg) (ab (am rfl) (aw (ct ?_))))
     refine mo ?_ (a0 rfl hl (M.perm (by classical exact List.perm_iff_count.2 fun a => by simp only [List.count_append, List.count_cons, List.cons_append]; omega)))
     exact ky (by show some (vi (wr (d + 1))) = _; rw [hinc]) (sB rfl)
   ·rw [hb]
    have a1 : plug (.node l (ins w x i m (d + 1) (mk r)) s v) = res := by rw [← hp, ins, hb]; rfl
    have a0 : ∀ {h' : Heap} {q : PV} {Lq : List Ent} {l' r' : Tr} {s' : Bool} {v' : Int}, mk r = .node l' r' s' v' → TrM (.node l' r' s' v') q Lq → Mem h' (⟨.op id ver 0, 151, 4, [.agg [pl, q, vb s, vi v]]⟩ :: (Lq ++ (Ll ++ R))) →
      RC Tryz.prog (.loop ar3) S Q [(27, vi (d + 1)), (26, vi n), (9, q), (3, vi i), (1, df x), (0, triP w p0)] h' := fun {h' q Lq l' r' s' v'} em H' M' =>
     ba1 hn hw K m (plug := fun q => plug (.node l q s v)) (by omega) (by omega) (by omega) H' (dq3 Z hl) (by rw [em] at a1; exact a1) (M'.perm (by classical exact List.perm_iff_count.2 fun a => by simp only [List.count_append, List.count_cons, List.cons_append]; omega))
    replace M : Mem h (⟨.op id ver 0, 151, 4, [.agg [pl, pr, vb s, vi v]]⟩ :: (Ll ++ Lr ++ R)) := M
    refine ae (ae (ah (ab (am rfl) (ab (am rfl) (ab (bt rfl rfl) (ab (bz rfl) (ab (v := .op id ver (0 + 0 + 1 * 1)) (mw rfl rfl rfl) ?_)))))))
    refine ab (dl (k := 0) (off := 1) (w := pr) M rfl rfl (by have e1 := TrM.agg hr; exact mk1 e1)) ?_
    cases r with
    | nil =>
     obtain ⟨rfl, rfl⟩ := hr
     refine ab (v := vb true) (bd rfl rfl rfl) (aw (af (bg rfl (fun hd => ?_) fun hd => by cases hd)))
     refine ah (ab (am rfl) (ab (am rfl) ?_))
     refine ab (v := .agg [nilP, nilP, vb false, vi 0]) (nm (cs := [nilP, nilP, vb false, vi 0]) rfl rfl) ?_
     refine xv M rfl rfl (fun i2 w2 h2 M2 => ?_)
     refine ab (bt rfl rfl) (ab (bz rfl) (ab (v := .op id ver (0 + 0 + 1 * 1)) (mw rfl rfl rfl) ?_))
     refine mz (k := 1) (off := 1) (v := .op i2 w2 0) M2 rfl rfl rfl rfl rfl (by simp) (fun h3 M3 => aw (af ?_))
     replace M3 : Mem h3 (⟨.op i2 w2 0, 151, 4, [.agg [nilP, nilP, vb false, vi 0]]⟩ :: ⟨.op id ver 0, 151, 4, [.agg [pl, .op i2 w2 0, vb s, vi v]]⟩ :: (Ll ++ [] ++ R)) := M3
     refine ah (ab (am rfl) (ab (am rfl) (ab (bt rfl rfl) (ab (bz rfl) (ab (v := .op id ver (0 + 0 + 1 * 1)) (mw rfl rfl rfl) ?_)))))
     refine ab (dl (k := 1) (off := 1) (w := .op i2 w2 0) M3 rfl rfl rfl) (ab (am rfl) (aw (dg (af ?_))))
     refine ah (ab (bd rfl rfl eg) (ab (am rfl) (aw (ct ?_))))
     refine mo ?_ (a0 rfl ⟨i2, w2, nilP, nilP, [], [], rfl, rfl, ⟨rfl, rfl⟩, ⟨rfl, rfl⟩⟩ (M3.perm (by classical exact List.perm_iff_count.2 fun a => by simp only [List.count_append, List.count_cons, List.count_nil, List.cons_append]; omega)))
     exact ky (by show some (vi (wr (d + 1))) = _; rw [hinc]) (sB rfl)
    | node l1 r1 s1 v1 =>
     have a2 := hr
     obtain ⟨ia, va, pa, pb, La, Lb, rfl, rfl, ha, hb'⟩ := a2
     refine ab (v := vb false) (bd rfl rfl rfl) (aw (af (bg rfl (fun hd => by cases hd) fun hd => ?_)))
     refine az (af ?_)
     refine ah (ab (am rfl) (ab (am rfl) (ab (bt rfl rfl) (ab (bz rfl) (ab (v := .op id ver (0 + 0 + 1 * 1)) (mw rfl rfl rfl) ?_)))))
     refine ab (dl (k := 0) (off := 1) (w := .op ia va 0) M rfl rfl rfl) (ab (am rfl) (aw (dg (af ?_))))
     refine ah (ab (bd rfl rfl eg) (ab (am rfl) (aw (ct ?_))))
     refine mo ?_ (a0 rfl hr (M.perm (by classical exact List.perm_iff_count.2 fun a => by simp only [List.count_append, List.count_cons, List.cons_append]; omega)))
     exact ky (by show some (vi (wr (d + 1))) = _; rw [hinc]) (sB rfl)
  ·simp only [decide_eq_false_iff_not] at hc; omega
theorem dh6 {w n i : Int} {x : BitVec 32} {h : Heap} {R L : List Ent} {p : PV} {l r : Tr} {s : Bool} {v : Int} (HT : TrM (.node l r s v) p L) (M : Mem h (L ++ R)) (hw : w ≤ 32) :
  ∃ r' h', FnX Tryz.prog 87 [triP w p, df x, vi n, vi i] h r' h' ∧ ∃ L', TrM (insT w x n i (.node l r s v)) p L' ∧ Mem h' (L' ++ R) := by
 refine fnX bt6 (by simp) ?_
 have hz := au3 (P := Tryz.prog) (w := w) (cd0 p R) HT M
 refine ae (ah (ab (v := vi 0) (am rfl) (aw (af ?_))))
 refine ae (bf (ae (ah (ab (am rfl) ?_))))
 refine rz (v := vb true) (yi rfl rfl (ow hz ah4) bs2 rfl) (ab (gc (k := true) rfl) (ab (am rfl) (aw (af (bg rfl (fun hd => by cases hd) fun hd => ?_)))))
 refine ae (ah (ab (am rfl) (ab (am rfl) (ab (am rfl) ?_))))
 refine rz (v := vb (pfx w x n)) (yi rfl rfl (ow hz (ow (cm rfl) (ow (cm rfl) ah4))) (bv8 (ad2 _) (ab5 _)) rfl) (ab (gc rfl) (ab (am rfl) (aw (af (bg rfl (fun hd => ?_) fun hd => ?_)))))
 ·have hd : pfx w x n = false := by simpa using hd
  refine ae (ah (ab (v := vi 9) (am rfl) (aw (af ?_))))
  refine mq (.tmp rfl .nil) ⟨L, ?_, M⟩
  unfold insT
  rw [if_neg (by rw [hd]; simp)]
  exact HT
 ·have hd : pfx w x n = true := by simpa using hd
  have a2 := hd
  simp only [pfx, Bool.and_eq_true, decide_eq_true_eq] at a2
  refine az (dg (af (ae (ah (ab (am rfl) (ab (bt rfl rfl) (ab (bc (w := p) rfl (mk1 (TrM.agg HT))) (ab (ba rfl (TrM.cnt HT) (TrM.agg HT)) (ab (am rfl) (aw (af ?_)))))))))))
  refine ae (ae (ah (ab (am rfl) (ab (v := vi 0) (am rfl) (aw (af (bf ?_)))))))
  refine wC (ba1 (x := x) (i := i) (n := n) (w := w) (res := insT w x n i (.node l r s v)) (by omega) hw ?_ n.toNat (d := 0) (by omega) (by omega) (by omega) HT (cd0 p R) (by unfold insT; rw [if_pos hd]; rfl) M) rfl
  ·intro h1 b Ls R1 l1 r1 s1 v1 plug H1 Z1 a1 M1
   obtain ⟨id, ver, pl, pr, Ll, Lr, rfl, rfl, hl, hr⟩ := H1
   have a0 : Mem h1 (⟨.op id ver 0, 151, 4, [.agg [pl, pr, vb s1, vi v1]]⟩ :: (Ll ++ Lr ++ R1)) := M1
   refine fd (af (ae (ae (ah (ab (am rfl) (ab (bt rfl rfl) (ab (bz rfl) (ab (dl (k := 0) (off := 2) (w := vb s1) a0 rfl rfl rfl) (aw (af (bg rfl (fun he => ?_) fun he => ?_)))))))))))
   ·refine ae (ah (ab (v := vi 7) (am rfl) (aw (af ?_))))
    obtain ⟨L', h2, h3⟩ := Z1 (.node l1 r1 s1 v1) _ (show TrM (.node l1 r1 s1 v1) _ _ from ⟨id, ver, pl, pr, Ll, Lr, rfl, rfl, hl, hr⟩)
    refine mq (.tmp rfl .nil) ⟨L', ?_, M1.perm h3⟩
    rw [← a1]
    rw [dx6 he]
    exact h2
   ·refine az (af (ae (ah (ab (am rfl) (ab (am rfl) (ab (am rfl) (ab (bt rfl rfl) (ab (bz rfl) ?_))))))))
    refine mz (k := 0) (off := 2) (v := vb true) a0 rfl rfl rfl rfl rfl (by simp) (fun h3 M3 => ?_)
    refine ab (bt rfl rfl) (ab (bz rfl) ?_)
    refine mz (k := 0) (off := 3) (cs := [pl, pr, vb true, vi v1]) (v := vi i) M3 rfl rfl rfl rfl rfl (by simp) (fun h4 M4 => aw (af ?_))
    refine ae (ah (ab (v := vi 0) (am rfl) (aw (af ?_))))
    obtain ⟨L', h2, h5⟩ := Z1 (.node l1 r1 true i) _ (show TrM (.node l1 r1 true i) _ _ from ⟨id, ver, pl, pr, Ll, Lr, rfl, rfl, hl, hr⟩)
    refine mq (.tmp rfl .nil) ⟨L', ?_, Mem.perm M4 h5⟩
    rw [← a1]
    rw [dx9 he]
    exact h2
theorem aq1 (w : Int) (t : Tr) : closed (triP w (trF t)) = true := by simp [triP, closed, closedL, ac6]
theorem ec7 (l r : Tr) : iaddrAR 2 1 false (.fp (.agg [trF l, trF r])) (df 0#32) = some (.fp (trF l)) := by cases l <;> rfl
theorem eg4 (l r : Tr) : iaddrAR 2 1 false (.fp (.agg [trF l, trF r])) (df 1#32) = some (.fp (trF r)) := by cases r <;> rfl
theorem bc6 {S : List Fr} {Q : Post} {w : Int} {x : BitVec 32} {p : PV} {res : Int × Int × Bool} (hw : w ≤ 32) (hpc : closed (triP w p) = true)
  (K : PX Tryz.prog 0 S Q [(6, vb res.2.2), (5, vi res.2.1), (4, vi res.1)] ⟨0, []⟩) : ∀ (t : Tr) {d : Int} {a : Int × Int × Bool}, 0 ≤ d → d ≤ w → (t ≠ .nil ∨ d ≤ w) → lkT w x t d a = res →
   RC Tryz.prog (.loop ck0) S Q [(8, vi d), (7, trF t), (6, vb a.2.2), (5, vi a.2.1), (4, vi a.1), (1, df x), (0, triP w p)] ⟨0, []⟩
 | .nil, d, a, h0, h1, _, hp => by
  refine bq ?_
  refine ae (ah (ab (am rfl) (ab (v := vb false) (bd rfl rfl rfl) (aw (af (ae (bg rfl (fun hc => by cases hc) fun hc => ?_)))))))
  have hp : a = res := hp
  subst hp
  exact dm (dx (cy (wP K rfl)))
 | .node l r s v, d, a, h0, h1, _, hp => by
  refine bq ?_
  refine ae (ah (ab (am rfl) (ab (v := vb true) (bd rfl rfl rfl) (aw (af (ae (bg rfl (fun hc => ?_) fun hc => by cases hc)))))))
  refine az (af (ae (bf (ae (ae (ah (ab (am rfl) (ab (bt rfl rfl) (ab (bc (w := vb s) rfl rfl) (ab (ba rfl rfl rfl) (aw (af ?_))))))))))))
  refine yy (F := fun b S Q => ∀ (a' : Int × Int × Bool), a' = (if s = true then (v, d, true) else a) → RC Tryz.prog b S Q [(8, vi d), (7, trF (.node l r s v)), (6, vb a'.2.2), (5, vi a'.2.1), (4, vi a'.1), (1, df x), (0, triP w p)] ⟨0, []⟩) ?_ ?_
  ·intro a' ha
   rw [lkT, ← ha] at hp
   have hinc : d < w → wr (d + 1) = d + 1 := fun h => dw (by omega) (by omega)
   refine ae (ae (ah (ab (am rfl) (ab (am rfl) (ab (bt rfl rfl) (ab (bc (w := vi w) rfl rfl) (ab (ba rfl rfl rfl) (ab (bd rfl rfl lh) (aw (af (bg rfl (fun he => ?_) fun he => ?_)))))))))))
   ·simp only [decide_eq_true_eq] at he
    rw [if_pos he] at hp
    subst hp
    exact dm (dx (du2 rfl (dx (cy (wP K rfl)))))
   ·simp only [decide_eq_false_iff_not] at he
    rw [if_neg he] at hp
    have hlt : d < w := by omega
    refine az (af (ah (ab (am rfl) (ab (am rfl) (ab (am rfl) (ab (am rfl) ?_))))))
    have f1 := by6 (w := w) (p := p) (x := x) (d := d) h0 hlt hw
    rcases ad0 w x d with hb | hb
    ·rw [if_pos hb] at hp
     rw [hb] at f1
     refine cL f1 rfl rfl (aq hpc (aq rfl (aq rfl bm))) ?_
     refine ab (bt rfl rfl) (ab (bc (w := .agg [trF l, trF r]) rfl rfl) (ab (v := .fp (trF l)) (mw rfl rfl (ec7 l r)) (ab (ba rfl (ad2 _) (ab5 _)) (ab (am rfl) (aw (dg (af ?_)))))))
     refine ah (ab (am rfl) (ab (bd rfl rfl eg) (ab (am rfl) (aw (ct ?_)))))
     refine mo ?_ (bc6 hw hpc K l (d := d + 1) (a := a') (by omega) (by omega) (.inr (by omega)) hp)
     exact ky (by show some (vi (wr (d + 1))) = _; rw [hinc hlt]) (sB rfl)
    ·rw [if_neg (by rw [hb]; decide)] at hp
     rw [hb] at f1
     refine cL f1 rfl rfl (aq hpc (aq rfl (aq rfl bm))) ?_
     refine ab (bt rfl rfl) (ab (bc (w := .agg [trF l, trF r]) rfl rfl) (ab (v := .fp (trF r)) (mw rfl rfl (eg4 l r)) (ab (ba rfl (ad2 _) (ab5 _)) (ab (am rfl) (aw (dg (af ?_)))))))
     refine ah (ab (am rfl) (ab (bd rfl rfl eg) (ab (am rfl) (aw (ct ?_)))))
     refine mo ?_ (bc6 hw hpc K r (d := d + 1) (a := a') (by omega) (by omega) (.inr (by omega)) hp)
     exact ky (by show some (vi (wr (d + 1))) = _; rw [hinc hlt]) (sB rfl)
  ·intro J
   refine bg rfl (fun hs => ?_) fun hs => ?_
   ·refine ah (ab (am rfl) (ab (bt rfl rfl) (ab (bc (w := vi v) rfl rfl) (ab (ba rfl rfl rfl) (ab (am rfl) (ab (am rfl) (ab (am rfl) (ab (v := vb true) (am rfl) (aw (af ?_))))))))))
    exact wC (J (v, d, true) (by rw [if_pos hs])) rfl
   ·refine az (af ?_)
    exact wC (J a (by rw [if_neg (by rw [hs]; simp)])) rfl
theorem de9 {w : Int} {x : BitVec 32} {l r : Tr} {s : Bool} {v : Int} (hw : w ≤ 32) : FnR Tryz.prog 52 [triP w (trF (.node l r s v)), df x] (.tup [vi (lkR w x (.node l r s v)).1, vi (lkR w x (.node l r s v)).2.1, vb (lkR w x (.node l r s v)).2.2]) := by
 generalize hres : lkR w x (.node l r s v) = res
 obtain ⟨r', h1, rfl⟩ : ∃ r', FnR Tryz.prog 52 [triP w (trF (.node l r s v)), df x] r' ∧ r' = .tup [vi res.1, vi res.2.1, vb res.2.2] := by
  refine fnE bn8 (by simp) ?_
  refine ae (ah (ab (v := vi 0) (am rfl) (ab (v := vi 0) (am rfl) (ab (v := vb false) (am rfl) (aw (af ?_))))))
  refine ae (ae (ah (ab (am rfl) ?_)))
  refine cL bs2 rfl rfl (aq (aq1 _ _) bm) (ab (gc (k := true) rfl) (ab (am rfl) ?_))
  refine ai rfl rfl (am rfl) (ai rfl rfl (am rfl) ?_)
  refine fu rfl rfl (mb rfl rfl (aq (aq1 _ _) (aq rfl (aq rfl bm))) (bv8 (ad2 _) (ab5 _))) ?_
  refine ai rfl rfl (gc (k := pfx w x 0) rfl) (ab (v := vb (!pfx w x 0)) (lz rfl rfl rfl rfl) (aw (af (bg rfl (fun hd => ?_) fun hd => ?_))))
  ·have hd : pfx w x 0 = false := by simpa using hd
   unfold lkR at hres
   rw [if_neg (by rw [hd]; simp)] at hres
   subst hres
   refine ae (ah (ab (v := vi 0) (am rfl) (ab (v := vi 0) (am rfl) (ab (v := vb false) (am rfl) (aw (af ?_))))))
   exact fg (.tmp rfl (.tmp rfl (.tmp rfl .nil))) (cm rfl) rfl
  ·have hd : pfx w x 0 = true := by simpa using hd
   unfold lkR at hres
   rw [if_pos hd] at hres
   have a0 := hd
   simp only [pfx, Bool.and_eq_true, decide_eq_true_eq] at a0
   refine az (af (ae (ah (ab (am rfl) (ab (bt rfl rfl) (ab (bc (w := trF (.node l r s v)) rfl rfl) (ab (ba rfl rfl rfl) (ab (am rfl) (aw (af ?_))))))))))
   refine ae (ae (ah (ab (v := vi 0) (am rfl) (aw (af (bf ?_))))))
   refine wC (bc6 (x := x) (w := w) (p := trF (.node l r s v)) (res := res) hw (aq1 _ _) ?_ (.node l r s v) (d := 0) (a := (0, 0, false)) (by omega) (by omega) (.inr (by omega)) hres) rfl
   ·refine fd (af (ae (ah (ab (am rfl) (ab (am rfl) (ab (am rfl) (ab (am rfl) (ab (am rfl) (ab (am rfl) (aw (af ?_)))))))))))
    exact fg (.tmp rfl (.tmp rfl (.tmp rfl .nil))) (cm rfl) rfl
 exact h1
theorem bs3 : ∀ l : List (BitVec 32), closedL (l.map df) = true
 | [] => rfl
 | _ :: l => by simp [closedL, closed, bs3 l]
theorem au4 {P : Program} {E : TEnv} {h : Heap} {hf : Bool} {x i : Operand} {id ver off len sz : Nat} {agg : Bool} {k : Int} (ex : evE E x = some (.op id ver off)) (ei : evE E i = some (vi k)) (h0 : 0 ≤ k) (h1 : k < len) : OV P (.iaddrA len sz agg x i) hf E h (.op id ver (off + k.toNat * sz)) :=
 ⟨rfl, fun T hT => by
  simp only [opQ, dy hT ex, dy hT ei]
  rw [if_pos ⟨h0, h1⟩]⟩
def exV (e : Ex) : PV := .agg (vi e.n :: e.v.map df)
theorem bc1 {e : Ex} (h : ExB e) : cnt (exV e) = some 7 := by
 unfold exV cnt
 simp [PV.cellsOf, h.ln]
theorem di3 {n : Int} {l : List (BitVec 32)} {x : BitVec 32} {k : Nat} (hk : k < l.length) : spl (vi n :: l.map df) (1 + k) [df x] = vi n :: (l.set k x).map df := by
 unfold spl
 rw [show 1 + k = k + 1 by omega, List.take_succ_cons, List.cons_append]
 congr 1
 rw [List.map_set, List.set_eq_take_append_cons_drop, if_pos (by simpa using hk)]
 simp
theorem cv7 {S : List Fr} {Q : Post} {x0 : List (BitVec 32)} {x1 : Int} {v0 : PV} (q : (tSl ko).R x0 v0) (hl : x0.length ≤ 1000000) {i4 w4 i5 w5 : Nat} {z4 : PV}
  (K : ∀ {h : Heap}, Mem h [⟨.op i5 w5 0, 90, 7, [exV (pk x0 x1)]⟩, ⟨.op i4 w4 0, 90, 7, [z4]⟩] → PX Tryz.prog 0 S Q [(5, .op i5 w5 0), (4, .op i4 w4 0)] h) :
  ∀ (m : Nat) {i : Int} {st : Ex} {h : Heap}, m = Int.toNat ((x0.length : Int) - i) → 0 ≤ i → i ≤ x0.length → ExB st → pkL x0 x1 m i st = pk x0 x1 → Mem h [⟨.op i5 w5 0, 90, 7, [exV st]⟩, ⟨.op i4 w4 0, 90, 7, [z4]⟩] →
   RC Tryz.prog (.loop be4) S Q [(10, vi i), (9, vi (x0.length : Int)), (8, v0), (5, .op i5 w5 0), (4, .op i4 w4 0), (1, vi x1)] h
 | 0, i, st, h, hm, h0, h1, hb, hp, M => by
  refine bq ?_
  refine ae (ah (ab (bd rfl rfl co) (aw (af (ae (bg rfl (fun hc => ?_) fun hc => ?_))))))
  ·simp only [decide_eq_true_eq] at hc; omega
  ·have hp : st = pk x0 x1 := hp
   rw [hp] at M
   exact dm (dx (cy (wP (K M) rfl)))
 | m + 1, i, st, h, hm, h0, h1, hb, hp, M => by
  have hlt : i < (x0.length : Int) := by omega
  refine bq ?_
  refine ae (ah (ab (bd rfl rfl co) (aw (af (ae (bg rfl (fun hc => ?_) fun hc => ?_))))))
  ·refine az (af (ae (bf (ae (ah (mV rfl ?_))))))
   obtain ⟨g0, e0, q0⟩ := cx (i := i) q h0 hlt
   have q0 : g0 = df (ix x0 i) := q0
   subst q0
   refine ab (bn rfl rfl e0) (ab (ba rfl rfl rfl) (mV rfl (mV rfl (aw (af ?_)))))
   have fin : ∀ {h' : Heap} {st' : Ex}, ExB st' → pkL x0 x1 m (i + 1) st' = pk x0 x1 → Mem h' [⟨.op i5 w5 0, 90, 7, [exV st']⟩, ⟨.op i4 w4 0, 90, 7, [z4]⟩] →
     RC Tryz.prog (.loop be4) S Q [(10, vi (i + 1)), (9, vi (x0.length : Int)), (8, v0), (5, .op i5 w5 0), (4, .op i4 w4 0), (1, vi x1)] h' := fun b p M' => cv7 q hl K m (by omega) (by omega) (by omega) b p M'
   have hinc : wr (i + 1) = i + 1 := dw (by omega) (by omega)
   have g0 : fieldR 0 1 false (exV st) = some (vi st.n) := rfl
   refine ae (ah (mV rfl (mV rfl (ab (v := vb (!decide (i = x1))) (bd rfl rfl jk) (mV rfl ?_)))))
   refine bv 4 (d := 22) (v := vb (!decide (i = x1) && decide (st.n < 6))) ?_ ?_
   ·intro S Q r
    cases (!decide (i = x1))
    ·exact gN 3 rfl rfl rfl rfl rfl rfl
    ·intro k
     refine ai rfl rfl (bz rfl) (ai rfl rfl (dl (k := 0) M rfl rfl g0) (ai rfl rfl (bd rfl rfl co) ?_))
     exact gK rfl rfl rfl rfl rfl k
   refine aw (af (bg rfl (fun hd => ?_) fun hd => ?_))
   ·have hs : pkS x1 st i (ix x0 i) = ⟨st.n + 1, st.v.set st.n.toNat (ix x0 i)⟩ := by unfold pkS; rw [if_pos hd]
    have a1 : st.n < 6 := by simp only [Bool.and_eq_true, decide_eq_true_eq] at hd; exact hd.2
    have hk : st.n.toNat < st.v.length := by have := hb.ln; have := hb.lo; omega
    have hb' := hb.step (wo := x1) (i := i) (x := ix x0 i)
    rw [pkL, hs] at hp
    rw [hs] at hb'
    refine ae (ah (ab (bz rfl) (ab (dl (k := 0) M rfl rfl g0) (mV rfl (ab (bz rfl) ?_)))))
    refine ab (au4 rfl rfl hb.lo a1) ?_
    refine mz (off := 1 + st.n.toNat) (k := 0) (v := df (ix x0 i)) M (by show some (PV.op i5 w5 (0 + 1 + st.n.toNat * 1)) = some (PV.op i5 w5 (0 + (1 + st.n.toNat))); rw [show 0 + 1 + st.n.toNat * 1 = 0 + (1 + st.n.toNat) by omega]) rfl rfl rfl rfl (by simp; omega) (fun h2 M2 => aw (af ?_))
    rw [di3 hk] at M2
    replace M2 : Mem h2 [⟨.op i5 w5 0, 90, 7, [exV ⟨st.n, st.v.set st.n.toNat (ix x0 i)⟩]⟩, ⟨.op i4 w4 0, 90, 7, [z4]⟩] := M2
    have g1 : fieldR 0 1 false (exV ⟨st.n, st.v.set st.n.toNat (ix x0 i)⟩) = some (vi st.n) := rfl
    refine ah (ab (bz rfl) (ab (dl (k := 0) M2 rfl rfl g1) (ab (bd rfl rfl eg) (ab (bz rfl) ?_))))
    have a0 : wr (st.n + 1) = st.n + 1 := dw (by have := hb.lo; omega) (by omega)
    refine mz (off := 0) (k := 0) (v := vi (st.n + 1)) M2 rfl (by show some (vi (wr (st.n + 1))) = _; rw [a0]) rfl rfl rfl (by simp) (fun h3 M3 => aw ?_)
    replace M3 : Mem h3 [⟨.op i5 w5 0, 90, 7, [exV ⟨st.n + 1, st.v.set st.n.toNat (ix x0 i)⟩]⟩, ⟨.op i4 w4 0, 90, 7, [z4]⟩] := M3
    refine dg (af (ah (ab (bd rfl rfl eg) (mV rfl (aw (ct ?_))))))
    refine mo ?_ (fin hb' hp M3)
    exact ky (by show some (vi (wr (i + 1))) = _; rw [hinc]) (sB rfl)
   ·have hs : pkS x1 st i (ix x0 i) = st := by unfold pkS; rw [if_neg (by rw [hd]; simp)]
    rw [pkL, hs] at hp
    refine az (dg (af (ah (ab (bd rfl rfl eg) (mV rfl (aw (ct ?_)))))))
    refine mo ?_ (fin hb hp M)
    exact ky (by show some (vi (wr (i + 1))) = _; rw [hinc]) (sB rfl)
  ·simp only [decide_eq_false_iff_not] at hc; omega
theorem by7 {x0 : List (BitVec 32)} {x1 : Int} {v0 : PV} (r0 : (tSl ko).R x0 v0) (hl : x0.length ≤ 1000000) : FnR Tryz.prog 51 [v0, vi x1] (exV (pk x0 x1)) := by
 obtain ⟨r, h1, rfl⟩ : ∃ r, FnR Tryz.prog 51 [v0, vi x1] r ∧ r = exV (pk x0 x1) := by
  refine fnE bt4 (by simp) ?_
  refine ae (ah (dt (x := exV ⟨0, List.replicate 6 0#32⟩) (Mem.nil _) rfl rfl (fun i4 w4 h4 M4 => aw (af ?_))))
  refine ae (ah (dt (x := exV ⟨0, List.replicate 6 0#32⟩) M4 rfl rfl (fun i5 w5 h5 M5 => aw (af ?_))))
  have b0 : ExB ⟨0, List.replicate 6 0#32⟩ := ⟨by decide, by decide, rfl⟩
  have hB : ExB (pk x0 x1) := ExB.pkL _ _ b0
  refine ae (ae (ah (mV rfl (ab (cd rfl (br r0 Tryz.underlying33 _)) (mV rfl (aw (af (bf ?_))))))))
  refine wC (cv7 (x1 := x1) r0 hl ?_ x0.length (i := 0) (by omega) (by omega) (by omega) b0 rfl M5) rfl
  ·intro h M
   refine fd (af (ae (ah (ab (gq (k := 0) M rfl rfl rfl) ?_))))
   refine de (k := 1) (v := exV (pk x0 x1)) M rfl rfl rfl (bc1 hB) (fun h' M' => aw (af ?_))
   exact fg (.cell rfl (gh (k := 1) M' rfl rfl) .nil) (cm (by simp [exV, closed, closedL]; exact bs3 _)) rfl
 exact h1
theorem ap2 : ∀ {a b : List (Value × PV)}, a.map encKV = b.map encKV → a = b
 | [], [], _ => rfl
 | [], _ :: _, h => by simp at h
 | _ :: _, [], h => by simp at h
 | (k, v) :: a, (k', v') :: b, h => by
  simp only [List.map_cons, List.cons.injEq] at h
  have h1 := h.1
  simp only [encKV, PV.agg.injEq, List.cons.injEq, PV.sc.injEq, and_true] at h1
  rw [h1.1, h1.2, ap2 h.2]
def exL (e : Ex) : List Value := .int .i64 e.n :: e.v.map fun x => .int .u32 (x.toNat : Int)
def KS : List IntKind := [.i64, .u32, .u32, .u32, .u32, .u32, .u32]
theorem aj8 : ∀ l : List (BitVec 32), scW (l.map df) = some (l.map fun x => .int .u32 (x.toNat : Int))
 | [] => rfl
 | x :: l => by
  have := aj8 l
  simp only [List.map_cons]
  show (scW (l.map df)).map _ = _
  rw [this]
  rfl
theorem ae3 : ∀ l : List (BitVec 32), numsB (List.replicate l.length .u32) (l.map fun x => .int .u32 (x.toNat : Int)) = true
 | [] => rfl
 | x :: l => by
  simp only [List.length_cons, List.replicate_succ, List.map_cons, numsB, Bool.and_eq_true, beq_self_eq_true, true_and]
  refine ⟨?_, ae3 l⟩
  have := x.isLt
  simp only [Lit.wf, Bool.and_eq_true, decide_eq_true_eq]
  exact ⟨by show (0 : Int) ≤ _; omega, by show (x.toNat : Int) ≤ 4294967295; omega⟩
theorem ab9 {e : Ex} (h : ExB e) : numsB KS (exL e) = true := by
 have := ae3 e.v
 rw [h.ln] at this
 show numsB (.i64 :: List.replicate 6 .u32) (exL e) = true
 simp only [exL, numsB, Bool.and_eq_true, beq_self_eq_true, true_and]
 refine ⟨?_, this⟩
 have := h.lo
 have := h.hi
 simp only [Lit.wf, Bool.and_eq_true, decide_eq_true_eq]
 exact ⟨by show (-9223372036854775808 : Int) ≤ _; omega, by show _ ≤ (9223372036854775807 : Int); omega⟩
theorem bi1 {e : Ex} (h : ExB e) : keyP KS (exV e) = some (exL e) := by
 have h1 : scW (vi e.n :: e.v.map df) = some (exL e) := by
  show (scW (e.v.map df)).map _ = _
  rw [aj8]
  rfl
 simp only [keyP, exV, h1, ab9 h, cond_true]
theorem aj9 : ∀ {a b : List (BitVec 32)}, (a.map fun x => Value.int .u32 (x.toNat : Int)) = (b.map fun x => Value.int .u32 (x.toNat : Int)) → a = b
 | [], [], _ => rfl
 | [], _ :: _, h => by simp at h
 | _ :: _, [], h => by simp at h
 | x :: a, y :: b, h => by
  simp only [List.map_cons, List.cons.injEq, Value.int.injEq, true_and] at h
  have := aj9 h.2
  have e1 : x = y := BitVec.eq_of_toNat_eq (by have := h.1; omega)
  rw [e1, this]
theorem cs6 {a b : Ex} (h : exL a = exL b) : a = b := by
 cases a; cases b
 simp only [exL, List.cons.injEq, Value.int.injEq, true_and] at h
 rw [h.1, aj9 h.2]
theorem ad6 {a b : Ex} (ha : ExB a) (hb : ExB b) : isW (exL a) (.agg (exL b).toArray) = true ↔ b = a := by
 rw [yk (ab9 ha) (by simpa [kindW] using ab9 hb)]
 simp only [Value.agg.injEq]
 exact ⟨fun h => cs6 (by simpa using congrArg Array.toList h), fun h => by rw [h]⟩
def exM (l : List (Ex × PV)) : List (Value × PV) := l.map fun p => (.agg (exL p.1).toArray, p.2)
structure MapB {α : Type} (l : List (Ex × α)) : Prop where
 ok : ∀ p ∈ l, ExB p.1
 ds : l.Pairwise fun a b => a.1 ≠ b.1
theorem ax3 {l : List (Ex × PV)} (h : ∀ p ∈ l, ExB p.1) : (exM l).all (fun e => kindW KS e.1) = true := by
 rw [List.all_eq_true]
 intro x hx
 obtain ⟨p, hp, rfl⟩ := List.mem_map.1 hx
 simpa [kindW] using ab9 (h p hp)
theorem ah0 : ∀ {l : List (Ex × PV)}, MapB l → distW (exM l) = true
 | [], _ => rfl
 | p :: l, h => by
  obtain ⟨h1, h2⟩ := List.pairwise_cons.1 h.ds
  have ih := ah0 (l := l) ⟨fun q hq => h.ok q (by simp [hq]), h2⟩
  simp only [exM, List.map_cons, distW, Bool.and_eq_true]
  refine ⟨?_, ih⟩
  rw [List.all_eq_true]
  intro x hx
  obtain ⟨q, hq, rfl⟩ := List.mem_map.1 hx
  simp only [Bool.not_eq_true']
  rw [Bool.eq_false_iff]
  intro hc
  have := (ad6 (h.ok p (by simp)) (h.ok q (by simp [hq]))).1 (by simpa using hc)
  exact h1 q hq this.symm
theorem bd8 {e : Ex} (he : ExB e) : ∀ {l : List (Ex × PV)}, (∀ p ∈ l, ExB p.1) → getW (exL e) (exM l) = wget l e
 | [], _ => rfl
 | p :: l, h => by
  have ih := bd8 he (l := l) fun q hq => h q (by simp [hq])
  have hp := h p (by simp)
  simp only [exM, List.map_cons, getW, wget]
  cases hi : isW (exL e) (.agg (exL p.1).toArray) with
  | true => rw [if_pos ((ad6 he hp).1 hi)]; rfl
  | false =>
   rw [if_neg fun hc => by rw [(ad6 he hp).2 hc] at hi; cases hi]
   exact ih
theorem bd2 {e : Ex} (he : ExB e) {v : PV} : ∀ {l : List (Ex × PV)}, (∀ p ∈ l, ExB p.1) → putW (exL e) v (exM l) = exM (wput l e v)
 | [], _ => rfl
 | p :: l, h => by
  have ih := bd2 he (v := v) (l := l) fun q hq => h q (by simp [hq])
  have hp := h p (by simp)
  simp only [exM, List.map_cons, putW, wput]
  cases hi : isW (exL e) (.agg (exL p.1).toArray) with
  | true => rw [if_pos ((ad6 he hp).1 hi)]; rfl
  | false =>
   rw [if_neg fun hc => by rw [(ad6 he hp).2 hc] at hi; cases hi]
   simp only [cond_false, List.map_cons, List.cons.injEq, true_and]
   exact ih
theorem bg3 {α : Type} {e : Ex} (he : ExB e) {v : α} : ∀ {l : List (Ex × α)}, MapB l → MapB (wput l e v) ∧ ∀ q ∈ wput l e v, q.1 = e ∨ ∃ p ∈ l, p.1 = q.1
 | [], _ => ⟨⟨fun p hp => by rw [List.mem_singleton.1 hp]; exact he, List.pairwise_singleton ..⟩, fun q hq => by rw [List.mem_singleton.1 hq]; exact .inl rfl⟩
 | p :: l, h => by
  obtain ⟨h1, h2⟩ := List.pairwise_cons.1 h.ds
  obtain ⟨hB, hk⟩ := bg3 he (v := v) (l := l) ⟨fun q hq => h.ok q (by simp [hq]), h2⟩
  unfold wput
  by_cases hc : p.1 = e
  ·rw [if_pos hc]
   refine ⟨⟨fun q hq => ?_, List.pairwise_cons.2 ⟨fun q hq => by show e ≠ q.1; rw [← hc]; exact h1 q hq, h2⟩⟩, fun q hq => ?_⟩
   ·rcases List.mem_cons.1 hq with rfl | hq
    ·exact he
    ·exact h.ok q (by simp [hq])
   ·rcases List.mem_cons.1 hq with rfl | hq
    ·exact .inl rfl
    ·exact .inr ⟨q, by simp [hq], rfl⟩
  ·rw [if_neg hc]
   refine ⟨⟨fun q hq => ?_, List.pairwise_cons.2 ⟨fun q hq => ?_, hB.ds⟩⟩, fun q hq => ?_⟩
   ·rcases List.mem_cons.1 hq with rfl | hq
    ·exact h.ok _ (by simp)
    ·exact hB.ok q hq
   ·rcases hk q hq with e1 | ⟨r, hr, e1⟩
    ·rw [e1]; exact hc
    ·rw [← e1]; exact h1 r hr
   ·rcases List.mem_cons.1 hq with rfl | hq
    ·exact .inr ⟨_, by simp, rfl⟩
    ·rcases hk q hq with e1 | ⟨r, hr, e1⟩
     ·exact .inl e1
     ·exact .inr ⟨r, by simp [hr], e1⟩
def exE (l : List (Ex × PV)) : List PV := (exM l).map encKV
theorem bm0 {h : Heap} {L : List Ent} {k id ver : Nat} {ty : TypeId} {l : List (Ex × PV)} {e : Ex} {z : Value} {ok : Bool} (M : Mem h L) (hk : L[k]? = some ⟨.om id ver, ty, 2, exE l⟩) (hB : MapB l) (he : ExB e) :
  lookW h KS z ok (.om id ver) (exV e) = some (bif ok then .tup [(wget l e).getD (.ofConst z), vb (wget l e).isSome] else (wget l e).getD (.ofConst z), h) := by
 obtain ⟨h1, ms, h2, h3⟩ := M.atF hk
 have hms : ms = exM l := (ap2 h2).symm
 subst hms
 simp only [blk] at h3
 simp only [lookW, bi1 he, h3]
 rw [if_pos ⟨trivial, ax3 hB.ok, ah0 hB⟩, bd8 he hB.ok]
theorem ar7 {α : Type} {e : Ex} {v : α} : ∀ {l : List (Ex × α)}, ∀ q ∈ wput l e v, q = (e, v) ∨ q ∈ l
 | [], q, hq => .inl (List.mem_singleton.1 hq)
 | p :: l, q, hq => by
  unfold wput at hq
  split at hq
  ·rcases List.mem_cons.1 hq with h | h
   ·exact .inl h
   ·exact .inr (by simp [h])
  ·rcases List.mem_cons.1 hq with h | h
   ·exact .inr (by simp [h])
   ·rcases ar7 q h with h | h
    ·exact .inl h
    ·exact .inr (by simp [h])
theorem cu0 {l : List (Ex × PV)} {e : Ex} {v : PV} (h1 : ∀ x ∈ exE l, cnt x = some 2) (hv : cnt v = some 1) : ∀ x ∈ exE (wput l e v), cnt x = some 2 := by
 intro x hx
 obtain ⟨y, hy, rfl⟩ := List.mem_map.1 hx
 obtain ⟨q, hq, rfl⟩ := List.mem_map.1 hy
 rcases ar7 q hq with rfl | hq
 ·rfl
 ·exact h1 _ (List.mem_map.2 ⟨_, List.mem_map.2 ⟨q, hq, rfl⟩, rfl⟩)
theorem by5 {h : Heap} {L : List Ent} {k id ver : Nat} {ty : TypeId} {l : List (Ex × PV)} {e : Ex} {v : PV} (M : Mem h L) (hk : L[k]? = some ⟨.om id ver, ty, 2, exE l⟩) (hB : MapB l) (he : ExB e) (hv : cnt v = some 1) :
  ∃ h', updW h KS (.om id ver) (exV e) v = some (.tup [], h') ∧ Mem h' (L.set k ⟨.om id ver, ty, 2, exE (wput l e v)⟩) := by
 obtain ⟨h1, ms, h2, h3⟩ := M.atF hk
 have hms : ms = exM l := (ap2 h2).symm
 subst hms
 have a0 := h3
 simp only [blk] at a0
 refine ⟨hput h id (.mp ver (exM (wput l e v))), ?_, M.upd hk ⟨?_, _, rfl, by simp [mg h3]⟩ (fun i hi => .inl hi) fun i hi hne => ?_⟩
 ·simp only [updW, bi1 he, a0]
  rw [if_pos ⟨trivial, ax3 hB.ok, ah0 hB⟩, bd2 he hB.ok]
  rfl
 ·intro x hx
  exact cu0 h1 hv x hx
 ·exact je _ _ _ _ fun e => hne (by simp [idOf, e])
theorem ur {P : Program} {S : List Fr} {Q : Post} {E : TEnv} {h : Heap} {L : List Ent} {r : List AOper} {hf : Bool} {d k id ver : Nat} {ty tm tk te : TypeId} {l : List (Ex × PV)} {e : Ex} {z : Value} {ok : Bool} {o o' : Operand} (M : Mem h L) (ex : evE E o = some (.om id ver)) (ei : evE E o' = some (exV e)) (hk : L[k]? = some ⟨.om id ver, ty, 2, exE l⟩) (hB : MapB l) (he : ExB e)
  (K : RD P r S Q ((d, bif ok then .tup [(wget l e).getD (.ofConst z), vb (wget l e).isSome] else (wget l e).getD (.ofConst z)) :: E) h) : RD P (⟨some d, .lookupW tm tk te KS z ok o o', none, hf⟩ :: r) S Q E h :=
 wq ⟨rfl, fun T hT => by show lookW h KS z ok (ev T o) (ev T o') = _; rw [dy hT ex, dy hT ei]; exact bm0 M hk hB he⟩ K
theorem bh3 {P : Program} {S : List Fr} {Q : Post} {E : TEnv} {h : Heap} {L : List Ent} {r : List AOper} {hf : Bool} {k id ver : Nat} {ty tm tk : TypeId} {l : List (Ex × PV)} {e : Ex} {v : PV} {o o' o'' : Operand} (M : Mem h L) (ex : evE E o = some (.om id ver)) (ei : evE E o' = some (exV e)) (ev' : evE E o'' = some v) (hk : L[k]? = some ⟨.om id ver, ty, 2, exE l⟩) (hB : MapB l) (he : ExB e) (hv : cnt v = some 1)
  (K : ∀ h', Mem h' (L.set k ⟨.om id ver, ty, 2, exE (wput l e v)⟩) → RD P r S Q E h') : RD P (⟨none, .mapUpdW tm tk KS o o' o'', none, hf⟩ :: r) S Q E h := by
 obtain ⟨h', h1, h2⟩ := by5 M hk hB he hv
 exact yn ⟨rfl, fun T hT => by show updW h KS (ev T o) (ev T o') (ev T o'') = _; rw [dy hT ex, dy hT ei, dy hT ev', h1]⟩ (K h' h2)
def mpV (l : List (Ex × Int)) : List (Ex × PV) := l.map fun q => (q.1, vi q.2)
theorem be7 {e : Ex} {i : Int} : ∀ l : List (Ex × Int), mpV (wput l e i) = wput (mpV l) e (vi i)
 | [] => rfl
 | p :: l => by
  have ih := be7 (e := e) (i := i) l
  unfold mpV at ih
  simp only [mpV, wput, List.map_cons]
  by_cases h : p.1 = e
  ·rw [if_pos h, if_pos h]; rfl
  ·rw [if_neg h, if_neg h, List.map_cons, ih]
theorem bd5 {e : Ex} : ∀ l : List (Ex × Int), wget (mpV l) e = (wget l e).map vi
 | [] => rfl
 | p :: l => by
  have ih := bd5 (e := e) l
  unfold mpV at ih
  simp only [mpV, wget, List.map_cons]
  by_cases h : p.1 = e
  ·rw [if_pos h, if_pos h]; rfl
  ·rw [if_neg h, if_neg h, ih]
theorem cw0 {l : List (Ex × Int)} (h : MapB l) : MapB (mpV l) :=
 ⟨fun p hp => by obtain ⟨q, hq, rfl⟩ := List.mem_map.1 hp; exact h.ok q hq, List.pairwise_map.2 h.ds⟩
theorem MapB.nil {α : Type} : MapB ([] : List (Ex × α)) := ⟨fun p hp => (by cases hp), List.Pairwise.nil⟩
theorem MapB.put {α : Type} {l : List (Ex × α)} (h : MapB l) {e : Ex} (he : ExB e) (v : α) : MapB (wput l e v) := (bg3 he h).1
/-! Tries in a map -/
def TsM (w : Int) : List (Ex × Tr) → List (Ex × PV) → List Ent → Prop
 | [], [], N => N = []
 | (e, t) :: ts, (e', p) :: ps, N => e = e' ∧ ∃ pr Nt Ns, p = triP w pr ∧ t ≠ .nil ∧ TrM t pr Nt ∧ N = Nt ++ Ns ∧ TsM w ts ps Ns
 | _, _, _ => False
theorem TsM.B {w : Int} : ∀ {ts : List (Ex × Tr)} {ps : List (Ex × PV)} {N : List Ent}, TsM w ts ps N → ps.map (·.1) = ts.map (·.1)
 | [], [], _, _ => rfl
 | (e, t) :: ts, (e', p) :: ps, N, H => by
  obtain ⟨rfl, pr, Nt, Ns, _, _, _, _, h⟩ := H
  simp [h.B]
 | [], _ :: _, _, H => H.elim
 | _ :: _, [], _, H => H.elim
theorem an3 {α β : Type} {l : List (Ex × α)} {k : List (Ex × β)} (h : k.map (·.1) = l.map (·.1)) (H : MapB l) : MapB k := by
 refine ⟨fun p hp => ?_, ?_⟩
 ·have : p.1 ∈ l.map (·.1) := h ▸ List.mem_map.2 ⟨p, hp, rfl⟩
  obtain ⟨q, hq, e⟩ := List.mem_map.1 this
  exact e ▸ H.ok q hq
 ·have h1 : (l.map (·.1)).Pairwise (· ≠ ·) := List.pairwise_map.2 H.ds
  rw [← h] at h1
  exact List.pairwise_map.1 h1
theorem TsM.absent {w : Int} {e : Ex} : ∀ {ts : List (Ex × Tr)} {ps : List (Ex × PV)} {N : List Ent}, TsM w ts ps N → wget ts e = none → wget ps e = none
 | [], [], _, _, _ => rfl
 | (a, t) :: ts, (b, p) :: ps, N, H, hn => by
  obtain ⟨rfl, pr, Nt, Ns, _, _, _, _, h⟩ := H
  unfold wget at hn ⊢
  by_cases hc : a = e
  ·rw [if_pos hc] at hn; cases hn
  ·rw [if_neg hc] at hn ⊢
   exact h.absent hn
 | [], _ :: _, _, H, _ => H.elim
 | _ :: _, [], _, H, _ => H.elim
theorem TsM.found {w : Int} {e : Ex} {t : Tr} : ∀ {ts : List (Ex × Tr)} {ps : List (Ex × PV)} {N : List Ent}, TsM w ts ps N → wget ts e = some t →
  ∃ pr Nt Nr, wget ps e = some (triP w pr) ∧ t ≠ .nil ∧ TrM t pr Nt ∧ N.Perm (Nt ++ Nr) ∧ ∀ t' Nt', t' ≠ .nil → TrM t' pr Nt' → ∃ N', TsM w (wput ts e t') ps N' ∧ (Nt' ++ Nr).Perm N'
 | (a, u) :: ts, (b, p) :: ps, N, H, hs => by
  obtain ⟨rfl, pr, Nt, Ns, rfl, h1, h2, rfl, h3⟩ := H
  unfold wget at hs ⊢
  by_cases hc : a = e
  ·rw [if_pos hc] at hs ⊢
   simp only [Option.some.injEq] at hs
   subst hs
   refine ⟨pr, Nt, Ns, rfl, h1, h2, .refl _, fun t' Nt' g1 g2 => ⟨Nt' ++ Ns, ?_, .refl _⟩⟩
   unfold wput
   rw [if_pos hc]
   exact ⟨hc.symm, pr, Nt', Ns, rfl, g1, g2, rfl, h3⟩
  ·rw [if_neg hc] at hs ⊢
   obtain ⟨qr, Mt, Mr, k1, k2, k3, k4, k5⟩ := h3.found hs
   refine ⟨qr, Mt, Nt ++ Mr, k1, k2, k3, ?_, fun t' Nt' g1 g2 => ?_⟩
   ·refine (k4.append_left Nt).trans ?_
    classical exact List.perm_iff_count.2 fun a => by simp only [List.count_append]; omega
   ·obtain ⟨N', j1, j2⟩ := k5 t' Nt' g1 g2
    refine ⟨Nt ++ N', ?_, .trans ?_ (j2.append_left Nt)⟩
    ·unfold wput
     rw [if_neg hc]
     exact ⟨rfl, pr, Nt, N', rfl, h1, h2, rfl, j1⟩
    ·classical exact List.perm_iff_count.2 fun a => by simp only [List.count_append]; omega
 | [], [], _, _, hs => by cases hs
 | [], _ :: _, _, H, _ => H.elim
 | _ :: _, [], _, H, _ => H.elim
theorem TsM.new {w : Int} {e : Ex} {t : Tr} {pr : PV} {Nt : List Ent} (ht : t ≠ .nil) (hT : TrM t pr Nt) : ∀ {ts : List (Ex × Tr)} {ps : List (Ex × PV)} {N : List Ent}, TsM w ts ps N → wget ts e = none → ∃ N', TsM w (wput ts e t) (wput ps e (triP w pr)) N' ∧ (Nt ++ N).Perm N'
 | [], [], N, H, _ => by
  have H : N = [] := H
  subst H
  exact ⟨Nt ++ [], ⟨rfl, pr, Nt, [], rfl, ht, hT, rfl, rfl⟩, .refl _⟩
 | (a, u) :: ts, (b, p) :: ps, N, H, hn => by
  obtain ⟨rfl, qr, Mt, Ns, rfl, h1, h2, rfl, h3⟩ := H
  unfold wget at hn
  by_cases hc : a = e
  ·rw [if_pos hc] at hn; cases hn
  ·rw [if_neg hc] at hn
   obtain ⟨N', j1, j2⟩ := h3.new ht hT hn
   refine ⟨Mt ++ N', ?_, .trans ?_ (j2.append_left Mt)⟩
   ·unfold wput
    rw [if_neg hc, if_neg hc]
    exact ⟨rfl, qr, Mt, N', rfl, h1, h2, rfl, j1⟩
   ·classical exact List.perm_iff_count.2 fun a => by simp only [List.count_append]; omega
 | [], _ :: _, _, H, _ => H.elim
 | _ :: _, [], _, H, _ => H.elim
theorem retell {P : Program} {w0 : World} {F0 : Nat → Prop} {h : Heap} {x : Cx} (R : RelP P w0 F0 h x) {id ver : Nat} {ty : TypeId} {mt : Bool} {cs cs' : List PV} (hb : blk h id = some (.cells ver ty mt cs)) (hl : cs'.length = cs.length) (hc : ∀ us, VRL P x cs us → VRL P x cs' us) :
  RelP P w0 F0 (hput h id (.cells ver ty mt cs')) x := by
 have hb' : h.bl[id]? = some (.cells ver ty mt cs) := hb
 have look : ∀ (i : Nat) b, (hput h id (.cells ver ty mt cs')).bl[i]? = some b → (i = id ∧ b = .cells ver ty mt cs') ∨ (i ≠ id ∧ h.bl[i]? = some b) := by
  intro i b hi
  by_cases e : i = id
  ·subst e
   have := ro h i (.cells ver ty mt cs') (mg hb)
   simp only [blk] at this
   rw [this] at hi
   exact .inl ⟨rfl, (Option.some.inj hi).symm⟩
  ·have := je h id i (.cells ver ty mt cs') (fun e' => e e'.symm)
   simp only [blk] at this
   rw [this] at hi
   exact .inr ⟨e, hi⟩
 refine ⟨R.below, R.f0, R.fsub, R.fnew, R.own, R.fresh, fun i j bi bj b h1 h2 h3 h4 => ?_, fun i bi hi => ?_⟩
 ·have g1 : ∃ b', h.bl[i]? = some b' ∧ b'.ver = bi.ver := by
   rcases look i bi h1 with ⟨rfl, rfl⟩ | ⟨_, h5⟩
   ·exact ⟨_, hb', rfl⟩
   ·exact ⟨_, h5, rfl⟩
  have g2 : ∃ b', h.bl[j]? = some b' ∧ b'.ver = bj.ver := by
   rcases look j bj h2 with ⟨rfl, rfl⟩ | ⟨_, h5⟩
   ·exact ⟨_, hb', rfl⟩
   ·exact ⟨_, h5, rfl⟩
  obtain ⟨b1, e1, e2⟩ := g1
  obtain ⟨b2, e3, e4⟩ := g2
  exact R.inj i j b1 b2 b e1 e3 (by rw [e2]; exact h3) (by rw [e4]; exact h4)
 ·rcases look i bi hi with ⟨rfl, rfl⟩ | ⟨hne, h5⟩
  ·intro b hj
   obtain ⟨⟨cur, h1, h2, h3⟩, h4⟩ := R.hr i _ hb' b hj
   exact ⟨⟨cur, h1, by omega, by rw [hl]; exact hc _ h3⟩, h4⟩
  ·exact R.hr i bi h5
theorem az4 {P : Program} {S : List Fr} {Q : Post} {E : TEnv} {h : Heap} {L : List Ent} {r : List AOper} {k j id ver n a b : Nat} {ty ty' : TypeId} {sz sz' : Nat} {es cs cs' : List PV} (M : Mem h L) (hk : L[k]? = some ⟨.os id ver 0 n, ty, sz, es⟩) (hj : L[j]? = some ⟨.op a b 0, ty', sz', [.agg cs]⟩)
  (hF : FrzL (.os id ver 0 n) (.fs false es) cs cs') (hl : cs'.length = cs.length) (K : ∀ h', Mem h' ((L.set j ⟨.op a b 0, ty', sz', [.agg cs']⟩).eraseIdx k) → RS P r S Q E h') : RS P r S Q E h := by
 have hne : k ≠ j := fun e => by subst e; rw [hk] at hj; cases hj
 obtain ⟨hc, hn, ds, h1, h2⟩ := M.atF hk
 obtain ⟨hcj, x', a3, j1, j2, j3⟩ := M.atF hj
 simp only [List.cons.injEq, and_true] at j1
 subst j1
 simp only [PV.cellsOf, Option.some.injEq] at j2
 subst j2
 have hia : id ≠ a := fun e => lf M.dis hj hne hk a rfl (by simp [idOf, e])
 have a0 : blk (hput h id (.cells ver ty false ds)) a = some (.cells b ty' true cs) := by rw [je h id a _ hia]; exact j3
 have hM : Mem (hput (hput h id (.cells ver ty false ds)) a (.cells b ty' true cs')) ((L.set j ⟨.op a b 0, ty', sz', [.agg cs']⟩).eraseIdx k) := by
  refine ⟨fun e he => ?_, (xn (e' := ⟨.op a b 0, ty', sz', [.agg cs']⟩) M.dis hj fun x hx ha i h1 h2 => ha i h1 h2).sublist (List.eraseIdx_sublist ..)⟩
  obtain ⟨i, hi⟩ := List.getElem?_of_mem he
  rw [List.getElem?_eraseIdx] at hi
  have hik : ∃ i, i ≠ k ∧ (L.set j ⟨.op a b 0, ty', sz', [.agg cs']⟩)[i]? = some e := by
   split at hi
   ·exact ⟨i, by omega, hi⟩
   ·exact ⟨i + 1, by omega, hi⟩
  obtain ⟨i, hik, hi⟩ := hik
  by_cases hij : i = j
  ·subst hij
   rw [List.getElem?_set_self (List.getElem?_eq_some_iff.1 hj).1] at hi
   simp only [Option.some.injEq] at hi
   subst hi
   have hcn := hcj _ (List.mem_singleton.2 rfl)
   simp only [cnt, Option.some.injEq] at hcn
   refine ⟨by simp [cnt]; omega, _, cs', rfl, rfl, ro _ _ _ ?_⟩
   exact mg a0
  ·rw [List.getElem?_set_ne (fun e => hij e.symm)] at hi
   have a1 := lf M.dis hk hik hi
   have a2 := lf M.dis hj hij hi
   refine (M.ent e (List.mem_of_getElem? hi)).frame fun q hq _ => ?_
   rw [je _ a q _ fun e' => a2 a rfl (by rw [hq, e']), je h id q _ fun e' => a1 id rfl (by rw [hq, e'])]
 intro T hT
 refine aq5 (T' := T) (h' := hput (hput h id (.cells ver ty false ds)) a (.cells b ty' true cs')) ?_ (K _ hM _ hT)
 intro w0 F0 n' x act R hTm
 obtain ⟨y, ew, eJ, Ex, hFr, R'⟩ := R.freeze h2
 have hb : ∀ us, VRC P y (.os id ver 0 n) us → VRC P y (.fs false es) us := fun us hv => by
  have hone : ∃ u, us = [u] := by
   simp only [VRC] at hv
   obtain ⟨b, cap, _, e, _⟩ := hv
   exact ⟨_, e⟩
  obtain ⟨u, rfl⟩ := hone
  exact VR_frozen (u := u) R' (ro h id _ (mg h2)) (fun b hj => hFr b (by rw [← eJ]; exact hj)) hn h1 hc hv
 exact ⟨y, ew, Ex, retell R' a0 hl (fun us hv => FrzL.conv hb hF us hv), hTm.ext Ex⟩
theorem bm3 {v d : PV} : ∀ cs : List PV, FrzL v d cs cs
 | [] => .nil
 | c :: cs => .cons (.same c) (bm3 cs)
theorem ba3 {P : Program} {S : List Fr} {Q : Post} {E : TEnv} {h : Heap} {L : List Ent} {r : List AOper} {k j a b : Nat} {v : PV} {ty ty' : TypeId} {sz sz' : Nat} {es : List PV} {cs : PV → List PV} (M : Mem h L) (hk : L[k]? = some ⟨v, ty, sz, es⟩) (hj : L[j]? = some ⟨.op a b 0, ty', sz', [.agg (cs v)]⟩)
  (hne : isL v = true) (hF : ∀ d, FrzL v d (cs v) (cs d)) (hl : ∀ d, (cs d).length = (cs v).length) (K : ∀ d h', IsSl d es → Mem h' ((L.set j ⟨.op a b 0, ty', sz', [.agg (cs d)]⟩).eraseIdx k) → RS P r S Q E h') : RS P r S Q E h := by
 have hv := (M.atF hk).2
 have hsame : L.set j ⟨.op a b 0, ty', sz', [.agg (cs v)]⟩ = L := by
  obtain ⟨hlt, e⟩ := List.getElem?_eq_some_iff.1 hj
  rw [← e]; exact List.set_getElem_self hlt
 have same : IsSl v es → RS P r S Q E h := fun hs => K v h hs (by rw [hsame]; exact M.sub (List.eraseIdx_sublist ..))
 cases v with
 | os id ver off n =>
  cases off with
  | zero => exact az4 M hk hj (hF _) (hl _) fun h' M' => K _ h' (.inr ⟨false, rfl⟩) M'
  | succ off => exact hv.elim
 | fs t es' =>
  cases t with
  | true => have e : es' = es := hv; exact same (.inr ⟨true, by rw [e]⟩)
  | false => exact hv.elim
 | sc u =>
  unfold EntV at hv
  split at hv <;> first | exact hv.elim | skip
  all_goals first | (rename_i heq; cases heq; exact same (.inl ⟨_, rfl, hv⟩)) | (rename_i heq; cases heq)
 | _ => first | exact hv.elim | (simp [isL] at hne)
theorem af2 {P : Program} {h : Heap} {id ver : Nat} : DeepC P h (.om id ver) .junk := ⟨rfl, rfl, fun k hk w0 F0 x us R hv => by simp only [VRC]⟩
def ixC (pc : List PV) (t kd : Int) (wv rv : PV) (lp : Int) (m1 m2 : PV) : List PV := pc ++ [vi t, vi kd, wv, rv, vi lp, m1, m2]
theorem ee5 {a0 a1 a2 a3 a4 a5 a6 a7 a8 wv rv m1 m2 : PV} {t kd lp : Int} {l : List aj} (rr : (tSl aj.t).R l rv) : FnR Tryz.prog 18 [.fp (.agg (ixC [a0, a1, a2, a3, a4, a5, a6, a7, a8] t kd wv rv lp m1 m2))] (vi (l.length : Int)) := by
 obtain ⟨r, h1, rfl⟩ : ∃ r, FnR Tryz.prog 18 [.fp (.agg (ixC [a0, a1, a2, a3, a4, a5, a6, a7, a8] t kd wv rv lp m1 m2))] r ∧ r = vi (l.length : Int) := by
  refine fnE bp7 (by simp) ?_
  refine ae (ah (ab (v := vi 0) (am rfl) (aw (af ?_))))
  refine ae (ae (ah (ab (am rfl) (ab (v := vb false) (bd rfl rfl rfl) (aw (af (bg rfl (fun hc => by cases hc) fun hc => ?_)))))))
  refine az (af (ae (ah (ab (am rfl) (ab (bt rfl rfl) (ab (bc (w := rv) rfl (mk1 (TR.agg _ rr))) (ab (ba rfl (TR.cnt _ rr) (TR.agg _ rr)) (ab (cd rfl (br rr Tryz.underlying32 _)) (ab (am rfl) (aw (af ?_)))))))))))
  exact fg (.tmp rfl .nil) (cm rfl) rfl
 exact h1
theorem ca8 {S : List Fr} {res : Bool} {W : List Int} {k : List (BitVec 32)} {wv kv : PV} (rw_ : (tSl tI).R W wv) (rk : (tSl ko).R k kv) (hl : k.length = W.length)
  (K : res = true → PX Tryz.prog 0 S (QR Tryz.prog [(4, none)] fun r => r = vb res) [] ⟨0, []⟩) : ∀ (m : Nat) {i : Int}, m = Int.toNat ((W.length : Int) - i) → 0 ≤ i → i ≤ W.length → fitsL W k m i = res →
   RC Tryz.prog (.loop cs3) S (QR Tryz.prog [(4, none)] fun r => r = vb res) [(12, vi i), (11, vi (W.length : Int)), (10, wv), (1, kv)] ⟨0, []⟩
 | 0, i, hm, h0, h1, hp => by
  refine bq ?_
  refine ae (ah (ab (bd rfl rfl co) (aw (af (ae (bg rfl (fun hc => ?_) fun hc => ?_))))))
  ·simp only [decide_eq_true_eq] at hc; omega
  ·have hp : true = res := hp
   exact dm (dx (cy (wP (K hp.symm) rfl)))
 | m + 1, i, hm, h0, h1, hp => by
  have hlt : i < (W.length : Int) := by omega
  have hb := du rw_
  refine bq ?_
  refine ae (ah (ab (bd rfl rfl co) (aw (af (ae (bg rfl (fun hc => ?_) fun hc => ?_))))))
  ·refine az (af (ae (bf (ae (ah (ab (am rfl) (ab (bn rfl rfl (slI rw_ h0 hlt)) (ab (ba rfl rfl rfl) (ab (am rfl) (ab (am rfl) (aw (af ?_))))))))))))
   refine ae (ah (ab (am rfl) (ab (am rfl) (ab (bn rfl rfl (zw rk h0 (by omega))) (ab (ba rfl rfl rfl) (ab (am rfl) ?_))))))
   refine cL ah7 rfl rfl (aq rfl (aq rfl bm)) (ab (gc rfl) (aw (af (bg rfl (fun hd => ?_) fun hd => ?_))))
   ·rw [fitsL, if_pos hd] at hp
    subst hp
    refine ae (ah (ab (v := vb false) (am rfl) (aw (af ?_))))
    exact fg (.tmp rfl .nil) (cm rfl) rfl
   ·rw [fitsL, if_neg (by rw [hd]; simp)] at hp
    have hinc : wr (i + 1) = i + 1 := dw (by omega) (by omega)
    refine az (dg (af (ah (ab (bd rfl rfl eg) (ab (am rfl) (aw (ct ?_)))))))
    refine mo ?_ (ca8 rw_ rk hl K m (i := i + 1) (by omega) (by omega) (by omega) hp)
    exact ky (by show some (vi (wr (i + 1))) = _; rw [hinc]) (sB rfl)
  ·simp only [decide_eq_false_iff_not] at hc; omega
theorem dc2 {a0 a1 a2 a3 a4 a5 a6 a7 a8 wv rv m1 m2 kv : PV} {t kd lp : Int} {W : List Int} {k : List (BitVec 32)} (rw_ : (tSl tI).R W wv) (rk : (tSl ko).R k kv) (hl : k.length = W.length) : FnR Tryz.prog 50 [.fp (.agg (ixC [a0, a1, a2, a3, a4, a5, a6, a7, a8] t kd wv rv lp m1 m2)), kv] (vb (fitsK W k)) := by
 generalize hres : fitsK W k = res
 obtain ⟨r, h1, rfl⟩ : ∃ r, FnR Tryz.prog 50 [.fp (.agg (ixC [a0, a1, a2, a3, a4, a5, a6, a7, a8] t kd wv rv lp m1 m2)), kv] r ∧ r = vb res := by
  refine fnE bu0 (by simp) ?_
  refine ae (ah (ab (v := vb false) (am rfl) (aw (af ?_))))
  refine ae (ae (ah (ab (am rfl) (ab (bt rfl rfl) (ab (bc (w := wv) rfl (mk1 (TR.agg _ rw_))) (ab (ba rfl (TR.cnt _ rw_) (TR.agg _ rw_)) (ab (cd rfl (br rw_ Tryz.underlying29 _)) (ab (v := vi 0) (am rfl) (aw (af (bf ?_)))))))))))
  refine wC (ca8 rw_ rk hl (res := res) ?_ W.length (i := 0) (by omega) (by omega) (by omega) hres) rfl
  ·intro hr
   refine fd (af (ae (ah (ab (v := vb true) (am rfl) (aw (af ?_))))))
   exact fg (.tmp rfl .nil) (cm rfl) (by rw [hr]; rfl)
 exact h1
theorem ck8 (w : Int) (p : PV) : cnt (triP w p) = some 1 := rfl
theorem az1 {S : List Fr} {Q : Post} {ixi ixv m1 u1 m2 u2 : Nat} {a0 a1 a2 a3 a4 a5 a6 a7 a8 wv rv : PV} {t kd lp : Int} {W : List Int} {l : List aj} {R : List Ent} {res : IxS} (rw_ : (tSl tI).R W wv) (rr : (tSl aj.t).R l rv) (HB : RowB W lp l)
  (K : ∀ {h : Heap} {ps : List (Ex × PV)} {N : List Ent}, TsM (ix W lp) res.2 ps N → MapB res.1 → MapB res.2 → Mem h (⟨.op ixi ixv 0, 69, 16, [.agg (ixC [a0, a1, a2, a3, a4, a5, a6, a7, a8] t kd wv rv lp (.om m1 u1) (.om m2 u2))]⟩ :: ⟨.om m1 u1, 66, 2, exE (mpV res.1)⟩ :: ⟨.om m2 u2, 67, 2, exE ps⟩ :: (N ++ R)) → PX Tryz.prog 0 S Q [] h) :
  ∀ (m : Nat) {i : Int} {st : IxS} {h : Heap} {ps : List (Ex × PV)} {N : List Ent}, m = Int.toNat ((l.length : Int) - i) → 0 ≤ i → i ≤ l.length → MapB st.1 → MapB st.2 → TsM (ix W lp) st.2 ps N → bL (ix W lp) lp l m i st = res →
   Mem h (⟨.op ixi ixv 0, 69, 16, [.agg (ixC [a0, a1, a2, a3, a4, a5, a6, a7, a8] t kd wv rv lp (.om m1 u1) (.om m2 u2))]⟩ :: ⟨.om m1 u1, 66, 2, exE (mpV st.1)⟩ :: ⟨.om m2 u2, 67, 2, exE ps⟩ :: (N ++ R)) →
   RC Tryz.prog (.loop bf3) S Q [(37, vi i), (36, vi (l.length : Int)), (35, rv), (0, .op ixi ixv 0)] h
 | 0, i, st, h, ps, N, hm, h0, h1, hB1, hB2, HT, hp, M => by
  refine bq ?_
  refine ae (ah (ab (bd rfl rfl co) (aw (af (ae (bg rfl (fun hc => ?_) fun hc => ?_))))))
  ·simp only [decide_eq_true_eq] at hc; omega
  ·have hp : st = res := hp
   subst hp
   exact dm (dx (cy (wP (K HT hB1 hB2 M) rfl)))
 | m + 1, i, st, h, ps, N, hm, h0, h1, hB1, hB2, HT, hp, M => by
  have hlt : i < (l.length : Int) := by omega
  have hn := HB.n
  have hinc : wr (i + 1) = i + 1 := dw (by omega) (by omega)
  have b0 := HB.k i h0 hlt
  refine bq ?_
  refine ae (ah (ab (bd rfl rfl co) (aw (af (ae (bg rfl (fun hc => ?_) fun hc => ?_))))))
  ·obtain ⟨g, e0, q0⟩ := cx (i := i) rr h0 hlt
   obtain ⟨we, ge, re⟩ := aj.g_Entry q0
   obtain ⟨c1, c2, rfl, qk, qa⟩ := q0
   refine az (af (ae (bf (ae (ah (mV rfl (ab (bn rfl rfl e0) (ab (ba rfl rfl rfl) ?_))))))))
   refine dt (x := .agg [vi 0, nilS, vi 0, vi 0, nilS]) M rfl rfl (fun i3 w3 h3 M3 => mV rfl ?_)
   refine de (k := 0) (v := .agg [vi (ix l i).ID, c1, vi (ix l i).Entry.Priority, vi (ix l i).Entry.Call.Action, c2]) M3 rfl rfl rfl rfl (fun h4 M4 => aw (af ?_))
   obtain ⟨kv, b5, rk⟩ := dm0 re b0
   have hvl : (jw (ix l i).Entry).length ≤ 1000000 := by rw [zq, List.length_map]; omega
   have he : ExB (bE lp (ix l i)) := pk_B _ _
   refine ae (ah (ab (bz rfl) (ab (dl (k := 0) (off := 1) M4 rfl rfl ge) ?_)))
   refine cL b5 rfl rfl (aq (TR.clo _ re) bm) (mV rfl (ab (bt rfl rfl) (ab (bz rfl) (ab (dl (k := 1) (off := 13) (w := vi lp) M4 rfl rfl rfl) ?_))))
   refine cL (by7 rk hvl) rfl rfl (aq (TR.clo _ rk) (aq rfl bm)) ?_
   refine dt (x := exV exz) M4 rfl rfl (fun i5 w5 h5 M5 => ?_)
   refine de (k := 0) (v := exV (bE lp (ix l i))) M5 rfl rfl rfl (bc1 he) (fun h6 M6 => aw (af ?_))
   replace M6 : Mem h6 (⟨.op i5 w5 0, 90, 7, [exV (bE lp (ix l i))]⟩ :: ⟨.op i3 w3 0, 44, 5, [.agg [vi (ix l i).ID, c1, vi (ix l i).Entry.Priority, vi (ix l i).Entry.Call.Action, c2]]⟩ :: ⟨.op ixi ixv 0, 69, 16, [.agg (ixC [a0, a1, a2, a3, a4, a5, a6, a7, a8] t kd wv rv lp (.om m1 u1) (.om m2 u2))]⟩ :: ⟨.om m1 u1, 66, 2, exE (mpV st.1)⟩ :: ⟨.om m2 u2, 67, 2, exE ps⟩ :: (N ++ R)) := M6
   refine ae (ae (ah (mV rfl (ab (bt rfl rfl) (ab (bz rfl) (ab (dl (k := 2) (off := 13) (w := vi lp) M6 rfl rfl rfl) (ab (bd rfl rfl co) (aw (af (bg rfl (fun hc => ?_) fun hc => ?_))))))))))
   ·simp only [decide_eq_true_eq] at hc
    have hs : bS (ix W lp) lp (ix l i) i st = (wput st.1 (bE lp (ix l i)) i, st.2) := by unfold bS; rw [if_pos hc]
    rw [bL, hs] at hp
    refine ae (ah (mV rfl (ab (bt rfl rfl) (ab (bz rfl) (ab (dl (k := 2) (off := 14) (w := .om m1 u1) M6 rfl rfl rfl) (ab (gq (k := 0) M6 rfl rfl rfl) (mV rfl ?_)))))))
    refine bh3 (k := 3) (v := vi i) M6 rfl rfl rfl rfl (cw0 hB1) he rfl (fun h7 M7 => aw (af ?_))
    rw [← be7] at M7
    refine dm (dx (fd (af (ah (ab (bd rfl rfl eg) (mV rfl (aw (ct ?_))))))))
    refine mo ?_ (az1 rw_ rr HB K m (i := i + 1) (st := (wput st.1 (bE lp (ix l i)) i, st.2)) (ps := ps) (N := N) (by omega) (by omega) (by omega) (hB1.put he i) hB2 HT hp (Mem.sub M7 (.cons _ (.cons _ (List.Sublist.refl _)))))
    exact ky (by show some (vi (wr (i + 1))) = _; rw [hinc]) (sB rfl)
   ·simp only [decide_eq_false_iff_not] at hc
    have hlp : 0 ≤ lp := by omega
    have hs : bS (ix W lp) lp (ix l i) i st = (st.1, wput st.2 (bE lp (ix l i)) (bT (ix W lp) lp (ix l i) i ((wget st.2 (bE lp (ix l i))).getD t0))) := by unfold bS; rw [if_neg (by omega)]
    obtain ⟨b9, b2, c3⟩ := HB.w hlp (by omega)
    obtain ⟨c0, b7⟩ := HB.lk i h0 hlt hlp
    rw [bL, hs] at hp
    refine az (af (ae (ah (mV rfl (ab (bt rfl rfl) (ab (bz rfl) (ab (dl (k := 2) (off := 11) (w := wv) M6 rfl rfl (mk1 (TR.agg _ rw_))) (mV rfl (ab (bt rfl rfl) (ab (bz rfl) (ab (dl (k := 2) (off := 13) (w := vi lp) M6 rfl rfl rfl) ?_)))))))))))
    refine ab (bn rfl rfl (slI rw_ hlp b9)) (ab (ba rfl rfl rfl) (mV rfl (aw (af ?_))))
    refine ae ?_
    refine yy (F := fun b S Q => ∀ {h : Heap} {ps : List (Ex × PV)} {N : List Ent} {ts : List (Ex × Tr)} {tr : Tr}, TsM (ix W lp) ts ps N → MapB ts → wget ts (bE lp (ix l i)) = some tr → bL (ix W lp) lp l m (i + 1) (st.1, wput ts (bE lp (ix l i)) (bT (ix W lp) lp (ix l i) i tr)) = res → Mem h (⟨.op i5 w5 0, 90, 7, [exV (bE lp (ix l i))]⟩ :: ⟨.op i3 w3 0, 44, 5, [.agg [vi (ix l i).ID, c1, vi (ix l i).Entry.Priority, vi (ix l i).Entry.Call.Action, c2]]⟩ :: ⟨.op ixi ixv 0, 69, 16, [.agg (ixC [a0, a1, a2, a3, a4, a5, a6, a7, a8] t kd wv rv lp (.om m1 u1) (.om m2 u2))]⟩ :: ⟨.om m1 u1, 66, 2, exE (mpV st.1)⟩ :: ⟨.om m2 u2, 67, 2, exE ps⟩ :: (N ++ R)) → RC Tryz.prog b S Q [(37, vi i), (36, vi (l.length : Int)), (35, rv), (5, vi (ix W lp)), (4, .op i5 w5 0), (3, .op i3 w3 0), (2, vi i), (0, .op ixi ixv 0)] h) ?_ ?_
    ·clear hp HT M M3 M4 M5 M6
     intro h ps N ts tr HT hBt hg hp M6
     obtain ⟨km, ek, qm⟩ := cx (i := lp) qk hlp c0
     refine ae (ah (ab (bz rfl) (ab (bz rfl) (ab (dl (k := 1) (off := 1) (w := c1) M6 rfl rfl (mk1 (TR.agg _ qk))) (mV rfl (ab (bt rfl rfl) (ab (bz rfl) (ab (dl (k := 2) (off := 13) (w := vi lp) M6 rfl rfl rfl) ?_))))))))
     refine ab (bn rfl rfl ek) (ab (ba rfl (TR.cnt _ qm) (TR.agg _ qm)) ?_)
     refine dt (x := .agg [df 0#32, df 0#32]) M6 rfl rfl (fun i8 w8 h8 M8 => ?_)
     refine de (k := 0) (v := km) M8 rfl rfl rfl (TR.cnt _ qm) (fun h9 M9 => aw (af ?_))
     refine ae (af9 (k := 0) (E' := [(37, vi i), (36, vi (l.length : Int)), (35, rv), (8, .fp km), (5, vi (ix W lp)), (4, .op i5 w5 0), (2, vi i), (0, .op ixi ixv 0)]) M9 rfl (ip rfl (ip rfl (ip rfl (uk rfl (ip rfl (ip rfl (ip rfl (ip rfl ya)))))))) (fun b1 a9 => ?_))
     replace a9 : Mem b1 (⟨.op i5 w5 0, 90, 7, [exV (bE lp (ix l i))]⟩ :: ⟨.op i3 w3 0, 44, 5, [.agg [vi (ix l i).ID, c1, vi (ix l i).Entry.Priority, vi (ix l i).Entry.Call.Action, c2]]⟩ :: ⟨.op ixi ixv 0, 69, 16, [.agg (ixC [a0, a1, a2, a3, a4, a5, a6, a7, a8] t kd wv rv lp (.om m1 u1) (.om m2 u2))]⟩ :: ⟨.om m1 u1, 66, 2, exE (mpV st.1)⟩ :: ⟨.om m2 u2, 67, 2, exE ps⟩ :: (N ++ R)) := a9
     refine ab (bc rfl (ay.g_Mask qm)) (ab (ba rfl rfl rfl) (mV rfl ?_))
     refine cL cc6 rfl rfl (aq rfl (aq rfl bm)) (mV rfl (ab (dp rfl rfl) (ab (dp rfl rfl) (mV rfl (mV rfl (aw (af ?_)))))))
     obtain ⟨pr, Nt, Nr, g1, g2, g3, g4, g5⟩ := HT.found hg
     cases tr with
     | nil => exact absurd rfl g2
     | node tl tr_ ts_ tv =>
     refine ae (ah (mV rfl (aw (af (bg rfl (fun hd => ?_) fun hd => ?_)))))
     ·refine tn ?_
      have hBp := an3 HT.B hBt
      refine cz (mV rfl (da (cz (ab (bt rfl rfl) (da (cz (ab (bz rfl) (da ?_))))))))
      refine cz (ab (dl (k := 2) (off := 15) (w := .om m2 u2) a9 rfl rfl rfl) (da (cz (ab (gq (k := 0) a9 rfl rfl rfl) (da ?_)))))
      refine cz (ur (k := 4) a9 rfl rfl rfl hBp he (da ?_))
      rw [g1]
      refine cz (ab (bc rfl (ay.g_Value qm)) (da (cz (ab (ba rfl rfl rfl) (da (cz (mV rfl (da (cz (mV rfl (da ?_)))))))))))
      have c5 : Mem b1 (Nt ++ (⟨.op i5 w5 0, 90, 7, [exV (bE lp (ix l i))]⟩ :: ⟨.op i3 w3 0, 44, 5, [.agg [vi (ix l i).ID, c1, vi (ix l i).Entry.Priority, vi (ix l i).Entry.Call.Action, c2]]⟩ :: ⟨.op ixi ixv 0, 69, 16, [.agg (ixC [a0, a1, a2, a3, a4, a5, a6, a7, a8] t kd wv rv lp (.om m1 u1) (.om m2 u2))]⟩ :: ⟨.om m1 u1, 66, 2, exE (mpV st.1)⟩ :: ⟨.om m2 u2, 67, 2, exE ps⟩ :: (Nr ++ R))) := a9.perm (by
       refine .trans (.cons _ (.cons _ (.cons _ (.cons _ (.cons _ (g4.append_right R)))))) ?_
       classical exact List.perm_iff_count.2 fun a => by simp only [List.count_append, List.count_cons, List.cons_append]; omega)
      obtain ⟨c8, c6, c4, L', k1, b4⟩ := dh6 (x := (ix (ix l i).Entry.Keys lp).Value) (n := (dk (ix (ix l i).Entry.Keys lp).Mask (ix W lp)).1) (i := i) g3 c5 c3
      refine bl7 (cap := []) rfl rfl c4 (an4 ?_)
      obtain ⟨N', k2, k3⟩ := g5 (bT (ix W lp) lp (ix l i) i (.node tl tr_ ts_ tv)) L' (ci2 (by simp)) k1
      have b8 : Mem c6 (⟨.op ixi ixv 0, 69, 16, [.agg (ixC [a0, a1, a2, a3, a4, a5, a6, a7, a8] t kd wv rv lp (.om m1 u1) (.om m2 u2))]⟩ :: ⟨.om m1 u1, 66, 2, exE (mpV st.1)⟩ :: ⟨.om m2 u2, 67, 2, exE ps⟩ :: (N' ++ R)) := by
       have b6 := b4.perm (L' := ⟨.op i5 w5 0, 90, 7, [exV (bE lp (ix l i))]⟩ :: ⟨.op i3 w3 0, 44, 5, [.agg [vi (ix l i).ID, c1, vi (ix l i).Entry.Priority, vi (ix l i).Entry.Call.Action, c2]]⟩ :: ⟨.op ixi ixv 0, 69, 16, [.agg (ixC [a0, a1, a2, a3, a4, a5, a6, a7, a8] t kd wv rv lp (.om m1 u1) (.om m2 u2))]⟩ :: ⟨.om m1 u1, 66, 2, exE (mpV st.1)⟩ :: ⟨.om m2 u2, 67, 2, exE ps⟩ :: (N' ++ R)) (by
        refine .trans ?_ (.cons _ (.cons _ (.cons _ (.cons _ (.cons _ (k3.append_right R))))))
        classical exact List.perm_iff_count.2 fun a => by simp only [List.count_append, List.count_cons, List.cons_append]; omega)
       exact Mem.sub b6 (.cons _ (.cons _ (List.Sublist.refl _)))
      refine dg (af (ah (ab (bd rfl rfl eg) (mV rfl (aw (ct ?_))))))
      refine mo ?_ (az1 rw_ rr HB K m (i := i + 1) (st := (st.1, wput ts (bE lp (ix l i)) (bT (ix W lp) lp (ix l i) i (.node tl tr_ ts_ tv)))) (ps := ps) (N := N') (by omega) (by omega) (by omega) hB1 (hBt.put he _) k2 hp b8)
      exact ky (by show some (vi (wr (i + 1))) = _; rw [hinc]) (sB rfl)
     ·rw [b7] at hd; cases hd
    ·intro J
     have hBp := an3 HT.B hB2
     refine ae (ah (mV rfl (ab (bt rfl rfl) (ab (bz rfl) (ab (dl (k := 2) (off := 15) (w := .om m2 u2) M6 rfl rfl rfl) (ab (gq (k := 0) M6 rfl rfl rfl) ?_))))))
     refine ur (k := 4) M6 rfl rfl rfl hBp he ?_
     cases hg : wget st.2 (bE lp (ix l i)) with
     | none =>
      rw [HT.absent hg]
      refine ab (v := vb true) (bd rfl rfl rfl) (aw (af (bg rfl (fun hd => ?_) fun hd => by cases hd)))
      obtain ⟨c7, h7, b3, pr, Lt, rfl, k1, M7⟩ := dk9 b2 M6
      refine ae (mm (cv (mV rfl (cw (qs rfl rfl b3 (cv (mV rfl (cw (cv (ab (dp rfl rfl) (cw (cv (ab (dp rfl rfl) (cw (cv (mV rfl (cw (cv (mV rfl (cw (sg (af ?_))))))))))))))))))))))
      refine ae (ah (mV rfl (ab (bd rfl rfl lh) (aw (af (bg rfl (fun hd => ?_) fun hd => by simp at hd))))))
      have M8 := M7.perm (L' := ⟨.op i5 w5 0, 90, 7, [exV (bE lp (ix l i))]⟩ :: ⟨.op i3 w3 0, 44, 5, [.agg [vi (ix l i).ID, c1, vi (ix l i).Entry.Priority, vi (ix l i).Entry.Call.Action, c2]]⟩ :: ⟨.op ixi ixv 0, 69, 16, [.agg (ixC [a0, a1, a2, a3, a4, a5, a6, a7, a8] t kd wv rv lp (.om m1 u1) (.om m2 u2))]⟩ :: ⟨.om m1 u1, 66, 2, exE (mpV st.1)⟩ :: ⟨.om m2 u2, 67, 2, exE ps⟩ :: (Lt ++ (N ++ R))) (by
       classical exact List.perm_iff_count.2 fun a => by simp only [List.count_append, List.count_cons, List.cons_append]; omega)
      refine ah (mV rfl (ab (bt rfl rfl) (ab (bz rfl) (ab (dl (k := 2) (off := 15) (w := .om m2 u2) M8 rfl rfl rfl) (ab (gq (k := 0) M8 rfl rfl rfl) (mV rfl ?_))))))
      refine bh3 (k := 4) (v := triP (ix W lp) pr) M8 rfl rfl rfl rfl hBp he (ck8 _ _) (fun h9 M9 => aw (af ?_))
      obtain ⟨N', k2, k3⟩ := HT.new (t := t0) (by simp [t0]) k1 hg
      refine wC (J (ps := wput ps (bE lp (ix l i)) (triP (ix W lp) pr)) (N := N') (ts := wput st.2 (bE lp (ix l i)) t0) (tr := t0) k2 (hB2.put he _) (by rw [yt, if_pos rfl]) (by rw [at7]; rw [hg] at hp; exact hp) (M9.perm ?_)) rfl
      ·refine .trans ?_ (.cons _ (.cons _ (.cons _ (.cons _ (.cons _ (k3.append_right R))))))
       show List.Perm (_ :: _ :: _ :: _ :: _ :: (Lt ++ (N ++ R))) _
       rw [List.append_assoc]
     | some tr =>
      obtain ⟨pr, Nt, Nr, g1, g2, g3, g4, g5⟩ := HT.found hg
      rw [g1]
      refine ab (v := vb false) (bd rfl rfl rfl) (aw (af (bg rfl (fun hd => by cases hd) fun hd => ?_)))
      refine az (af ?_)
      exact wC (J (ps := ps) (N := N) (ts := st.2) (tr := tr) HT hB2 hg (by rw [hg] at hp; exact hp) M6) rfl
  ·simp only [decide_eq_false_iff_not] at hc; omega
theorem TsM.nil_ (w : Int) : TsM w [] [] [] := rfl
theorem dg7 {ixi ixv m1 u1 m2 u2 : Nat} {a0 a1 a2 a3 a4 a5 a6 a7 a8 wv rv : PV} {t kd : Int} {W : List Int} {l : List aj} {R : List Ent} {h : Heap} {q : aa} (rq : aa.t.R q (.agg [a0, a1, a2, a3, a4, a5, a6, a7, a8])) (b0 : 0 ≤ t) (b1 : t < q.Tables.length) (rw_ : (tSl tI).R W wv) (rr : (tSl aj.t).R l rv)
  (HB : kd ≠ 3 → RowB W (lpX (ix q.Tables t).Keys) l) (M : Mem h (⟨.op ixi ixv 0, 69, 16, [.agg (ixC [a0, a1, a2, a3, a4, a5, a6, a7, a8] t kd wv rv (-1) (.om m1 u1) (.om m2 u2))]⟩ :: ⟨.om m1 u1, 66, 2, []⟩ :: ⟨.om m2 u2, 67, 2, []⟩ :: R)) :
  ∃ r h', FnX Tryz.prog 46 [.op ixi ixv 0] h r h' ∧ r = .tup [] ∧ ∃ ps N, TsM (ix W (if kd = 3 then -1 else lpX (ix q.Tables t).Keys)) (bR kd W (lpX (ix q.Tables t).Keys) l).2 ps N ∧ MapB (bR kd W (lpX (ix q.Tables t).Keys) l).1 ∧ MapB (bR kd W (lpX (ix q.Tables t).Keys) l).2 ∧
   Mem h' (⟨.op ixi ixv 0, 69, 16, [.agg (ixC [a0, a1, a2, a3, a4, a5, a6, a7, a8] t kd wv rv (if kd = 3 then -1 else lpX (ix q.Tables t).Keys) (.om m1 u1) (.om m2 u2))]⟩ :: ⟨.om m1 u1, 66, 2, exE (mpV (bR kd W (lpX (ix q.Tables t).Keys) l).1)⟩ :: ⟨.om m2 u2, 67, 2, exE ps⟩ :: (N ++ R)) := by
 refine fnX bu3 (by simp) ?_
 refine ae (ae (ah (mV rfl (ab (bt rfl rfl) (ab (bz rfl) (ab (dl (k := 0) (off := 10) (w := vi kd) M rfl rfl rfl) (ab (bd rfl rfl lh) (aw (af (bg rfl (fun hc => ?_) fun hc => ?_))))))))))
 ·simp only [decide_eq_true_eq] at hc
  refine mq .nil ⟨rfl, [], [], ?_⟩
  unfold bR
  rw [if_pos hc, if_pos hc]
  exact ⟨rfl, MapB.nil, MapB.nil, M⟩
 ·simp only [decide_eq_false_iff_not] at hc
  obtain ⟨wt, gt, rt⟩ := aa.g_Tables rq
  obtain ⟨e0, a9, q0⟩ := cx (i := t) rt b0 b1
  obtain ⟨wk, gk, rk⟩ := ax.g_Keys q0
  unfold bR
  rw [if_neg hc, if_neg hc]
  refine az (af (ae (tn ?_)))
  refine cz (mV rfl (da (cz (mV rfl (da (cz (ab (bt rfl rfl) (da (cz (ab (bz rfl) (da (cz (ab (bz rfl) (da ?_))))))))))))))
  refine cz (ab (dl (k := 0) (off := 5) (w := wt) M rfl rfl gt) (da ?_))
  refine cz (mV rfl (da (cz (ab (bt rfl rfl) (da (cz (ab (bz rfl) (da ?_))))))))
  refine cz (ab (dl (k := 0) (off := 9) (w := vi t) M rfl rfl rfl) (da ?_))
  refine cz (ab (bn rfl rfl a9) (da (cz (ab (bc rfl gk) (da (cz (ab (ba rfl (TR.cnt _ rk) (TR.agg _ rk)) (da ?_))))))))
  refine cz (cL (dk4 rk ef5) rfl rfl (aq (TR.clo _ rk) (aq rfl bm)) (da ?_))
  refine cz (ab (bt rfl rfl) (da (cz (ab (bz rfl) (da ?_)))))
  refine cz (mz (off := 13) (k := 0) (v := vi (lpX (ix q.Tables t).Keys)) M rfl rfl rfl rfl rfl (by simp [ixC]) (fun h2 M2 => da (an4 (af ?_))))
  replace M2 : Mem h2 (⟨.op ixi ixv 0, 69, 16, [.agg (ixC [a0, a1, a2, a3, a4, a5, a6, a7, a8] t kd wv rv (lpX (ix q.Tables t).Keys) (.om m1 u1) (.om m2 u2))]⟩ :: ⟨.om m1 u1, 66, 2, []⟩ :: ⟨.om m2 u2, 67, 2, []⟩ :: R) := M2
  refine ae (ah (mV rfl (ab (bt rfl rfl) (ab (bz rfl) (ab (dl (k := 0) (off := 12) (w := rv) M2 rfl rfl (mk1 (TR.agg _ rr))) (ab (cd rfl (br rr Tryz.underlying32 _)) (ab (v := vi 0) (am rfl) (aw (af (bf ?_))))))))))
  refine wC (az1 rw_ rr (HB hc) (t := t) (kd := kd) (R := R) ?_ l.length (i := 0) (st := ([], [])) (ps := []) (N := []) (by omega) (by omega) (by omega) MapB.nil MapB.nil (TsM.nil_ _) rfl M2) rfl
  ·intro h3 ps N k1 k2 k3 M3
   exact fd (cl1 .nil ⟨rfl, ps, N, k1, k2, k3, M3⟩)
theorem bz5 {S : List Fr} {p : aa} {t : Int} {l : List aj} {v0 v2 : PV} {R : List Ent} {mi mv : Nat} {res : Int} {Φ : PV → Heap → Prop} (r0 : aa.t.R p v0) (r2 : (tSl aj.t).R l v2)
  (Kb : ∀ {h : Heap}, res ≠ 0 → Mem h R → Φ (.tup [nilP, vi res]) h)
  (K : ∀ {h : Heap}, res = 0 → Mem h R → PX Tryz.prog 0 S (retPost Tryz.prog [(6, none), (7, none)] Φ) [(3, .fp v0), (2, v2), (1, vi t)] h) :
  ∀ (m : Nat) {i : Int} {z : List (Int × Bool)} {es : List PV} {h : Heap}, m = Int.toNat ((l.length : Int) - i) → 0 ≤ i → i ≤ l.length → All2 (tKV tB).R z es → newL p t l m i z = res → Mem h (⟨.om mi mv, 82, 2, es⟩ :: R) →
   RC Tryz.prog (.loop cn4) S (retPost Tryz.prog [(6, none), (7, none)] Φ) [(31, vi i), (30, vi (l.length : Int)), (29, v2), (10, .om mi mv), (3, .fp v0), (2, v2), (1, vi t)] h
 | 0, i, z, es, h, hm, h0, h1, hz, hp, M => by
  refine bq ?_
  refine ae (ah (ab (bd rfl rfl co) (aw (af (ae (bg rfl (fun hc => ?_) fun hc => ?_))))))
  ·simp only [decide_eq_true_eq] at hc; omega
  ·have hp : (0 : Int) = res := hp
   exact dm (dx (cy (wP (K hp.symm (Mem.sub M (.cons _ (List.Sublist.refl _)))) rfl)))
 | m + 1, i, z, es, h, hm, h0, h1, hz, hp, M => by
  have hlt : i < (l.length : Int) := by omega
  have hb := du r2
  have hinc : wr (i + 1) = i + 1 := dw (by omega) (by omega)
  refine bq ?_
  refine ae (ah (ab (bd rfl rfl co) (aw (af (ae (bg rfl (fun hc => ?_) fun hc => ?_))))))
  ·obtain ⟨g, e0, q0⟩ := cx (i := i) r2 h0 hlt
   obtain ⟨we, ge, re⟩ := aj.g_Entry q0
   refine az (af (ae (bf (ae (ah (mV rfl (ab (bn rfl rfl e0) (ab (ba rfl (TR.cnt _ q0) (TR.agg _ q0)) ?_))))))))
   refine dt (x := .agg [vi 0, nilS, vi 0, vi 0, nilS]) M rfl rfl (fun i3 w3 h3 M3 => mV rfl ?_)
   refine de (k := 0) (v := g) M3 rfl rfl rfl (TR.cnt _ q0) (fun h4 M4 => aw (af ?_))
   refine ae (ae (af9 (k := 0) (E' := [(31, vi i), (30, vi (l.length : Int)), (29, v2), (12, .fp g), (11, vi i), (10, .om mi mv), (3, .fp v0), (2, v2), (1, vi t)]) M4 rfl (ip rfl (ip rfl (ip rfl (uk rfl (ip rfl (ip rfl (ip rfl (ip rfl (ip rfl ya))))))))) (fun h5 M5 => ?_)))
   replace M5 : Mem h5 (⟨.om mi mv, 82, 2, es⟩ :: R) := M5
   refine ab (ba rfl (TR.cnt _ r0) (TR.agg _ r0)) (mV rfl (ab (bc rfl ge) (ab (ba rfl (TR.cnt _ re) (TR.agg _ re)) ?_)))
   refine cL (dl2 r0 re) rfl rfl (aq (TR.clo _ r0) (aq rfl (aq (TR.clo _ re) bm))) (mV rfl (aw (af ?_)))
   rw [newL] at hp
   refine ae (ah (mV rfl (ab (bd rfl rfl jk) (aw (af (bg rfl (fun hc => ?_) fun hc => ?_))))))
   ·replace hc : (!decide (lu p t (ix l i).Entry = 0)) = true := hc
    rw [if_pos hc] at hp
    have a0 : lu p t (ix l i).Entry ≠ 0 := by simpa using hc
    refine ae (ah (mV rfl (ab (v := nilP) (am rfl) (mV rfl (aw (af ?_))))))
    refine mq (.tmp rfl (.tmp rfl .nil)) ?_
    show Φ (.tup [nilP, vi _]) h5
    rw [hp]
    exact Kb (by rw [← hp]; exact a0) (Mem.sub M5 (.cons _ (List.Sublist.refl _)))
   ·replace hc : (!decide (lu p t (ix l i).Entry = 0)) = false := hc
    rw [if_neg (by rw [hc]; simp)] at hp
    have hsl : ∃ tg fs, v2 = .fs tg fs ∧ All2 aj.t.R l fs := by
     obtain ⟨⟨fs, hv, hl⟩, _⟩ := r2
     rcases hv with ⟨ad, rfl, rfl⟩ | ⟨tg, rfl⟩
     ·cases l with
      | nil => simp at hlt; omega
      | cons _ _ => simp [All2] at hl
     ·exact ⟨tg, fs, rfl, hl⟩
    obtain ⟨tg, fs, rfl, hfs⟩ := hsl
    have hsub : (tSl aj.t).R (l.take i.toNat) (.fs (tg && (i.toNat == fs.length)) ((fs.drop 0).take (i.toNat - 0))) := by
     rw [List.drop_zero, Nat.sub_zero]
     exact zu (All2.take _ hfs) (by rw [List.length_take]; omega)
    obtain ⟨d, a1, a2⟩ := bc4 hsub (ed4 q0)
    have hfl := hfs.length
    refine az (af (ae (ae (ah (mV rfl (mV rfl (ab (bv9 (l := 0) (u := i.toNat) rfl (vl := none) (vu := some (vi i)) rfl rfl rfl (by show (if 0 ≤ i then some i.toNat else none) = _; rw [if_pos h0]) (by omega) (by omega) (List.all_eq_true.2 fun x hx => by rw [hfs.cnt x hx]; rfl)) ?_)))))))
    refine ab (v := .fn (.func 41) [] [.fp g]) (vp rfl rfl) ?_
    refine cL a1 rfl rfl (aq (TR.clo _ hsub) (aq (by simp [closedL, closed, TR.clo _ q0]) bm)) (mV rfl (ab (dp rfl rfl) (ab (dp rfl rfl) ?_)))
    refine dt (x := .agg [vi 0, nilS, vi 0, vi 0, nilS]) M5 rfl rfl (fun i6 w6 h6 M6 => ?_)
    refine de (k := 0) (v := d) M6 rfl rfl rfl (TR.cnt _ a2) (fun h7 M7 => mV rfl (aw (af ?_)))
    replace M7 : Mem h7 (⟨.op i6 w6 0, 44, 5, [d]⟩ :: ⟨.om mi mv, 82, 2, es⟩ :: R) := M7
    have gid : fieldR 0 1 false g = some (vi (ix l i).ID) := by obtain ⟨_, _, rfl, _⟩ := q0; rfl
    refine ae (ah (mV rfl (mV rfl ?_)))
    refine bv 5 (d := 58) (v := vb ((cr (l.take i.toNat) fun x => iq x.Entry (ix l i).Entry).2 || (mget z (ix l i).ID).getD false)) ?_ ?_
    ·intro S Q r
     cases (cr (l.take i.toNat) fun x => iq x.Entry (ix l i).Entry).2
     ·intro k
      refine ai rfl rfl (am rfl) (ai rfl rfl (bc rfl gid) (ai rfl rfl (ba rfl rfl rfl) ?_))
      obtain ⟨v, k1, k2⟩ := ax0 (t := tB) (zero := false) (z := .bool false) (ix l i).ID false M7 (k := 1) rfl hz rfl
      have k2 : v = vb ((mget z (ix l i).ID).getD false) := k2
      subst k2
      refine cq8 rfl rfl ⟨rfl, fun T hT => by show lookM h7 (.bool false) false (ev T (.tmp 54)) (ev T (.tmp 56)) = _; rw [dy hT rfl, dy hT rfl, k1]⟩ ?_
      exact gK rfl rfl rfl rfl rfl k
     ·exact gN 4 rfl rfl rfl rfl rfl rfl
    refine aw (af (bg rfl (fun hd => ?_) fun hd => ?_))
    ·rw [if_pos hd] at hp
     refine ae (ah (ab (v := nilP) (am rfl) (ab (v := vi 7) (am rfl) (aw (af ?_)))))
     refine mq (.tmp rfl (.tmp rfl .nil)) ?_
     show Φ (.tup [nilP, vi 7]) h7
     rw [hp]
     exact Kb (by omega) (Mem.sub M7 (.cons _ (.cons _ (List.Sublist.refl _))))
    ·rw [if_neg (by rw [hd]; simp)] at hp
     refine az (af (ah (mV rfl (ab (bc rfl gid) (ab (ba rfl rfl rfl) ?_)))))
     refine bg4 (t := tB) (k := 1) (b := true) M7 rfl rfl rfl rfl hz rfl (fun h8 es' M8 hz' => aw (dg (af ?_)))
     refine ah (ab (bd rfl rfl eg) (mV rfl (aw (ct ?_))))
     refine mo ?_ (bz5 r0 r2 Kb K m (i := i + 1) (by omega) (by omega) (by omega) hz' hp (Mem.sub M8 (.cons _ (List.Sublist.refl _))))
     exact ky (by show some (vi (wr (i + 1))) = _; rw [hinc]) (sB rfl)
  ·simp only [decide_eq_false_iff_not] at hc; omega
theorem co4 {v d a0 a1 a2 a3 a4 a5 a6 a7 a8 wv m1 m2 : PV} {t kd lp : Int} : FrzL v d (ixC [a0, a1, a2, a3, a4, a5, a6, a7, a8] t kd wv v lp m1 m2) (ixC [a0, a1, a2, a3, a4, a5, a6, a7, a8] t kd wv d lp m1 m2) :=
 .cons (.same _) (.cons (.same _) (.cons (.same _) (.cons (.same _) (.cons (.same _) (.cons (.same _) (.cons (.same _) (.cons (.same _) (.cons (.same _) (.cons (.same _) (.cons (.same _) (.cons (.same _) (.cons .turn (.cons (.same _) (.cons (.same _) (.cons (.same _) .nil)))))))))))))))
theorem cb7 {S : List Fr} {Q : Post} {l : List aj} {v2 wv : PV} {R : List Ent} {ixi ixv m1 u1 m2 u2 : Nat} {a0 a1 a2 a3 a4 a5 a6 a7 a8 : PV} {t kd : Int} (r2 : (tSl aj.t).R l v2) (hs : ∀ r ∈ l, SR r) (hn : l.length ≤ 1000)
  (K : ∀ {h : Heap} {rv : PV} {es : List PV}, isL rv = true → All2 aj.t.R l es → Mem h (⟨rv, 44, 5, es⟩ :: ⟨.op ixi ixv 0, 69, 16, [.agg (ixC [a0, a1, a2, a3, a4, a5, a6, a7, a8] t kd wv rv (-1) (.om m1 u1) (.om m2 u2))]⟩ :: ⟨.om m1 u1, 66, 2, []⟩ :: ⟨.om m2 u2, 67, 2, []⟩ :: R) → PX Tryz.prog 2 S Q [(16, .op ixi ixv 0)] h) :
  ∀ (m : Nat) {i : Int} {rv : PV} {es : List PV} {h : Heap}, m = Int.toNat ((l.length : Int) - i) → 0 ≤ i → i ≤ l.length → isL rv = true → Wri rv es → All2 aj.t.R (l.take i.toNat) es →
   Mem h (⟨rv, 44, 5, es⟩ :: ⟨.op ixi ixv 0, 69, 16, [.agg (ixC [a0, a1, a2, a3, a4, a5, a6, a7, a8] t kd wv rv (-1) (.om m1 u1) (.om m2 u2))]⟩ :: ⟨.om m1 u1, 66, 2, []⟩ :: ⟨.om m2 u2, 67, 2, []⟩ :: R) →
   RC Tryz.prog (.loop cg5) S Q [(79, vi i), (78, vi (l.length : Int)), (77, v2), (16, .op ixi ixv 0)] h
 | 0, i, rv, es, h, hm, h0, h1, hne, hw, hl, M => by
  refine bq ?_
  refine ae (ah (ab (bd rfl rfl co) (aw (af (ae (bg rfl (fun hc => ?_) fun hc => ?_))))))
  ·simp only [decide_eq_true_eq] at hc; omega
  ·rw [List.take_of_length_le (by omega)] at hl
   exact dm (dx (cy (wP (K hne hl M) rfl)))
 | m + 1, i, rv, es, h, hm, h0, h1, hne, hw, hl, M => by
  have hlt : i < (l.length : Int) := by omega
  have hinc : wr (i + 1) = i + 1 := dw (by omega) (by omega)
  refine bq ?_
  refine ae (ah (ab (bd rfl rfl co) (aw (af (ae (bg rfl (fun hc => ?_) fun hc => ?_))))))
  ·obtain ⟨g, e0, q0⟩ := cx (i := i) r2 h0 hlt
   refine az (af (ae (bf (ae (ah (ab (bn rfl rfl e0) (ab (ba rfl (TR.cnt _ q0) (TR.agg _ q0)) ?_)))))))
   refine dt (x := .agg [vi 0, nilS, vi 0, vi 0, nilS]) M rfl rfl (fun i3 w3 h3 M3 => ?_)
   refine de (k := 0) (v := g) M3 rfl rfl rfl (TR.cnt _ q0) (fun h4 M4 => aw (af ?_))
   replace M4 : Mem h4 (⟨.op i3 w3 0, 44, 5, [g]⟩ :: ⟨rv, 44, 5, es⟩ :: ⟨.op ixi ixv 0, 69, 16, [.agg (ixC [a0, a1, a2, a3, a4, a5, a6, a7, a8] t kd wv rv (-1) (.om m1 u1) (.om m2 u2))]⟩ :: ⟨.om m1 u1, 66, 2, []⟩ :: ⟨.om m2 u2, 67, 2, []⟩ :: R) := M4
   have hrow : SR (ix l i) := by rw [oe h0 hlt]; exact hs _ (List.getElem_mem _)
   obtain ⟨d, b1, a9⟩ := an7 q0 hrow
   have b0 := (bf6 M4 (k := 1) rfl hne)
   refine ah (mV rfl (mV rfl (ab (bt rfl rfl) (ab (bz rfl) (ab (dl (k := 2) (off := 12) (w := rv) M4 rfl rfl (mk1 b0.2)) (ab (gq (k := 0) M4 rfl rfl (TR.agg _ q0)) ?_))))))
   refine cL b1 rfl rfl (aq (TR.clo _ q0) bm) (ab (v := .fs true [d]) (lj rfl (all_cons (TR.cnt _ a9) og)) ?_)
   have hlen := hl.length
   have hti : (l.take i.toNat).length = i.toNat := by rw [List.length_take]; omega
   have ff : fits (es.length + [d].length) 72 = true := qi (by simp only [List.length_cons, List.length_nil]; omega) (by simp only [List.length_cons, List.length_nil]; omega)
   refine rn (k := 1) (es := es) (news := [d]) M4 rfl rfl rfl hne hw (ax8 (.inr ⟨true, rfl⟩) (by intro y hy; rw [List.mem_singleton.1 hy]; exact TR.cnt _ a9)) ff (fun a h5 hna hwa M5 => ?_)
   replace M5 : Mem h5 (⟨.op i3 w3 0, 44, 5, [g]⟩ :: ⟨a, 44, 5, es ++ [d]⟩ :: ⟨.op ixi ixv 0, 69, 16, [.agg (ixC [a0, a1, a2, a3, a4, a5, a6, a7, a8] t kd wv rv (-1) (.om m1 u1) (.om m2 u2))]⟩ :: ⟨.om m1 u1, 66, 2, []⟩ :: ⟨.om m2 u2, 67, 2, []⟩ :: R) := M5
   refine ab (bt rfl rfl) (ab (bz rfl) ?_)
   refine mz (off := 12) (k := 2) (v := a) (ds := [a]) M5 rfl rfl rfl (bf6 M5 (k := 1) rfl hna).1 rfl (by simp [ixC]) (fun h6 M6 => aw (dg (af ?_)))
   replace M6 : Mem h6 (⟨.op i3 w3 0, 44, 5, [g]⟩ :: ⟨a, 44, 5, es ++ [d]⟩ :: ⟨.op ixi ixv 0, 69, 16, [.agg (ixC [a0, a1, a2, a3, a4, a5, a6, a7, a8] t kd wv a (-1) (.om m1 u1) (.om m2 u2))]⟩ :: ⟨.om m1 u1, 66, 2, []⟩ :: ⟨.om m2 u2, 67, 2, []⟩ :: R) := M6
   refine ah (ab (bd rfl rfl eg) (mV rfl (aw (ct ?_))))
   have hta : l.take (i + 1).toNat = l.take i.toNat ++ [ix l i] := by rw [show (i + 1).toNat = i.toNat + 1 by omega, List.take_succ_eq_append_getElem (by omega), oe h0 hlt]
   refine mo ?_ (cb7 r2 hs hn K m (i := i + 1) (by omega) (by omega) (by omega) hna hwa (by rw [hta]; exact All2.app hl ⟨a9, trivial⟩) (Mem.sub M6 (.cons _ (List.Sublist.refl _))))
   exact ky (by show some (vi (wr (i + 1))) = _; rw [hinc]) (sB rfl)
  ·simp only [decide_eq_false_iff_not] at hc; omega
def IsIx (p : aa) (t : Int) (l : List aj) (x : PV) (L : List Ent) : Prop := ∃ a0 a1 a2 a3 a4 a5 a6 a7 a8 wv rv m1 u1 m2 u2 ps N, x = .fp (.agg (ixC [a0, a1, a2, a3, a4, a5, a6, a7, a8] t (fb p t) wv rv (lpN p t) (.om m1 u1) (.om m2 u2))) ∧
 aa.t.R (ownP p t) (.agg [a0, a1, a2, a3, a4, a5, a6, a7, a8]) ∧ (tSl tI).R (dn p t) wv ∧ (tSl aj.t).R l rv ∧ TsM (ix (dn p t) (lpN p t)) (bNd p t l).2 ps N ∧ MapB (bNd p t l).1 ∧ MapB (bNd p t l).2 ∧ L = ⟨.om m1 u1, 66, 2, exE (mpV (bNd p t l).1)⟩ :: ⟨.om m2 u2, 67, 2, exE ps⟩ :: N
theorem bb9 {p : aa} {t : Int} {l : List aj} {v0 v2 : PV} {h : Heap} {R : List Ent} (r0 : aa.t.R p v0) (r2 : (tSl aj.t).R l v2) (hn : l.length ≤ 1000) (hs : ∀ r ∈ l, SR r) (hok : newE p t l = 0 → NewOK p t l) (M : Mem h R) :
  ∃ r h', FnX Tryz.prog 15 [v0, vi t, v2] h r h' ∧ ((newE p t l ≠ 0 ∧ r = .tup [nilP, vi (newE p t l)] ∧ Mem h' R) ∨ (newE p t l = 0 ∧ ∃ x L, r = .tup [x, vi 0] ∧ IsIx p t l x L ∧ Mem h' (L ++ R))) := by
 generalize hres : newE p t l = res at *
 refine fnX ca7 (by simp) ?_
 refine ae (ah (ab (dh rfl (TR.cnt _ r0)) (ab (v := nilP) (am rfl) (ab (v := vi 0) (am rfl) (aw (af ?_))))))
 unfold newE at hres
 refine ae (ae (ah (ab (ba rfl (TR.cnt _ r0) (TR.agg _ r0)) (mV rfl ?_))))
 refine cL (bb3 r0) rfl rfl (aq (TR.clo _ r0) (aq rfl bm)) (mV rfl (ab (dp rfl rfl) (ab (dp rfl rfl) (mV rfl (mV rfl (aw (af ?_)))))))
 refine ae (ah (mV rfl (ab (bd rfl rfl jk) (aw (af (bg rfl (fun hc => ?_) fun hc => ?_))))))
 ·replace hc : (!decide ((gj p t).2 = 0)) = true := hc
  rw [if_pos hc] at hres
  refine ae (ah (mV rfl (ab (v := nilP) (am rfl) (mV rfl (aw (af ?_))))))
  refine mq (.tmp rfl (.tmp rfl .nil)) (.inl ⟨by rw [← hres]; simpa using hc, ?_, M⟩)
  show PV.tup [nilP, vi _] = _
  rw [hres]
 ·replace hc : (!decide ((gj p t).2 = 0)) = false := hc
  rw [if_neg (by rw [hc]; simp)] at hres
  refine az (af (ae (ah (ac2 M (fun mi mv h1 M1 => mV rfl (aw (af ?_)))))))
  refine ae (ae (ah (mV rfl (ab (cd rfl (br r2 Tryz.underlying32 _)) (ab (v := vi 0) (am rfl) (aw (af (bf ?_))))))))
  refine wC (bz5 r0 r2 (res := res) (R := R) (fun {h'} hr M' => .inl ⟨hr, rfl, M'⟩) ?_ l.length (i := 0) (z := []) (es := []) (by omega) (by omega) (by omega) trivial hres M1) rfl
  ·intro h2 hr M2
   have OK := hok hr
   have hb := OK.b
   obtain ⟨pr, a5, a1⟩ := da0 r0 OK.a OK.b OK.c OK.d
   obtain ⟨wv, a4, rw_⟩ := cc7 (x1 := t) r0
   refine fd (af (ae (ah (ab (ba rfl (TR.cnt _ r0) (TR.agg _ r0)) (mV rfl ?_)))))
   refine cL a5 rfl rfl (aq (TR.clo _ r0) (aq rfl bm)) (mV rfl (ab (ba rfl (TR.cnt _ r0) (TR.agg _ r0)) (mV rfl ?_)))
   refine cL (cd7 r0) rfl rfl (aq (TR.clo _ r0) (aq rfl bm)) (ab (ba rfl (TR.cnt _ r0) (TR.agg _ r0)) (mV rfl ?_))
   refine cL a4 rfl rfl (aq (TR.clo _ r0) (aq rfl bm)) ?_
   refine ac2 M2 (fun m1 u1 h3 M3 => ac2 M3 (fun m2 u2 h4 M4 => ?_))
   have a0 := a1
   obtain ⟨c1, c2, c3, c4, c5, c6, c7, c8, rfl, _⟩ := a0
   have hwv := rw_.1
   refine ab (v := .agg (ixC [vs (ownP p t).Name, c1, c2, c3, c4, c5, c6, c7, c8] t (fb p t) wv nilS (-1) (.om m1 u1) (.om m2 u2))) (nm (cs := ixC [vs (ownP p t).Name, c1, c2, c3, c4, c5, c6, c7, c8] t (fb p t) wv nilS (-1) (.om m1 u1) (.om m2 u2)) rfl (by obtain ⟨es, he, _⟩ := hwv; rcases he with ⟨ad, rfl, _⟩ | ⟨tg, rfl⟩ <;> rfl)) ?_
   refine xv M4 rfl rfl (fun ixi ixv h5 M5 => mV rfl (aw (af ?_)))
   refine ae (ae (ah (mV rfl (ab (cd rfl (br r2 Tryz.underlying32 _)) (ab (v := vi 0) (am rfl) (aw (af (bf ?_))))))))
   have M6 : Mem h5 (⟨nilS, 44, 5, []⟩ :: ⟨.op ixi ixv 0, 69, 16, [.agg (ixC [vs (ownP p t).Name, c1, c2, c3, c4, c5, c6, c7, c8] t (fb p t) wv nilS (-1) (.om m1 u1) (.om m2 u2))]⟩ :: ⟨.om m1 u1, 66, 2, []⟩ :: ⟨.om m2 u2, 67, 2, []⟩ :: R) :=
    rj (M5.perm (.cons _ (.swap _ _ _))) 44 (.inl ⟨none, rfl, rfl⟩) (by simp)
   refine wC (cb7 r2 hs hn (R := R) ?_ l.length (i := 0) (rv := nilS) (es := []) (by omega) (by omega) (by omega) rfl (.inl rfl) trivial M6) rfl
   ·intro h7 rv es hne hl M7
    refine fd (af (ae (mm ?_)))
    refine ba3 (k := 0) (j := 1) (cs := fun v => ixC [vs (ownP p t).Name, c1, c2, c3, c4, c5, c6, c7, c8] t (fb p t) wv v (-1) (.om m1 u1) (.om m2 u2)) M7 rfl rfl hne (fun d => co4) (fun d => rfl) (fun d h8 hd M8 => ?_)
    replace M8 : Mem h8 (⟨.op ixi ixv 0, 69, 16, [.agg (ixC [vs (ownP p t).Name, c1, c2, c3, c4, c5, c6, c7, c8] t (fb p t) wv d (-1) (.om m1 u1) (.om m2 u2))]⟩ :: ⟨.om m1 u1, 66, 2, []⟩ :: ⟨.om m2 u2, 67, 2, []⟩ :: R) := M8
    have rd : (tSl aj.t).R l d := ⟨⟨es, hd, hl⟩, by omega⟩
    obtain ⟨a6, h9, a3, rfl, ps, N, k1, k2, k3, M9⟩ := dg7 a1 OK.a (xh p t OK.a) rw_ rd (by rw [su p t OK.a]; exact OK.e) M8
    rw [su p t OK.a] at k1 k2 k3 M9
    refine cv (mV rfl (cw (qs rfl rfl a3 (sg (af ?_)))))
    refine ae (mm ?_)
    refine ah1 (k := 0) (E' := [(16, .fp (.agg (ixC [vs (ownP p t).Name, c1, c2, c3, c4, c5, c6, c7, c8] t (fb p t) wv d (lpN p t) (.om m1 u1) (.om m2 u2))))]) M9 rfl (uk rfl ya) (fun a7 a2 => ?_)
    refine cv (mV rfl (cw (cv (mV rfl (cw (cv (ab (v := vi 0) (am rfl) (cw (sg (af ?_)))))))))) 
    exact mq (.tmp rfl (.tmp rfl .nil)) (.inr ⟨hr, _, _, rfl, ⟨_, _, _, _, _, _, _, _, _, wv, d, m1, u1, m2, u2, ps, N, rfl, a1, rw_, rd, k1, k2, k3, rfl⟩, a2⟩)
def zrowV : PV := .agg [vi 0, nilS, vi 0, vi 0, nilS]
theorem aq9 : aj.t.R zrow zrowV := ⟨nilS, nilS, rfl, ib, ib⟩
theorem cs5 {P : Program} {h : Heap} {a0 a1 a2 a3 a4 a5 a6 a7 a8 wv rv : PV} {t kd lp : Int} {m1 u1 m2 u2 : Nat} (hp : closed (.agg [a0, a1, a2, a3, a4, a5, a6, a7, a8]) = true) (hw : closed wv = true) (hr : closed rv = true) :
  Deep P h (.fp (.agg (ixC [a0, a1, a2, a3, a4, a5, a6, a7, a8] t kd wv rv lp (.om m1 u1) (.om m2 u2)))) (.fp (.agg (ixC [a0, a1, a2, a3, a4, a5, a6, a7, a8] t kd wv rv lp .junk .junk))) := by
 simp only [closed, closedL, Bool.and_eq_true] at hp
 refine (ax4 (v := .agg (ixC [a0, a1, a2, a3, a4, a5, a6, a7, a8] t kd wv rv lp (.om m1 u1) (.om m2 u2))) (d := .agg (ixC [a0, a1, a2, a3, a4, a5, a6, a7, a8] t kd wv rv lp .junk .junk)) ⟨by simp [ixC, closed, closedL, hw, hr, hp], rfl, fun k hk w0 F0 x us R hv => ?_⟩).deep
 have H2 : DeepCL P h (ixC [a0, a1, a2, a3, a4, a5, a6, a7, a8] t kd wv rv lp (.om m1 u1) (.om m2 u2)) (ixC [a0, a1, a2, a3, a4, a5, a6, a7, a8] t kd wv rv lp .junk .junk) :=
  ⟨fa hp.1, fa hp.2.1, fa hp.2.2.1, fa hp.2.2.2.1, fa hp.2.2.2.2.1, fa hp.2.2.2.2.2.1, fa hp.2.2.2.2.2.2.1, fa hp.2.2.2.2.2.2.2.1, fa hp.2.2.2.2.2.2.2.2.1, fa rfl, fa rfl, fa hw, fa hr, fa rfl, af2, af2, trivial⟩
 simp only [VRC] at hv ⊢
 exact H2.vrl hk R hv
theorem br3 {p : aa} {t : Int} {l : List aj} {x kv : PV} {key : List (BitVec 32)} {h : Heap} {L R : List Ent} (I : IsIx p t l x L) (rk : (tSl ko).R key kv) (OK : FindOK p t l) (hs : ∀ r ∈ l, SR r) (M : Mem h (L ++ R)) :
  ∃ r h', FnX Tryz.prog 17 [x, kv] h r h' ∧ ∃ c0, r = .tup [c0, vb (findP p t l key).2] ∧ aj.t.R (findP p t l key).1 c0 ∧ Mem h' (L ++ R) := by
 obtain ⟨a0, a1, a2, a3, a4, a5, a6, a7, a8, wv, rv, m1, u1, m2, u2, ps, N, rfl, rq, rw_, rr, HT, b7, b6, rfl⟩ := I
 generalize hres : findP p t l key = res
 refine fnX bw4 (by simp) ?_
 unfold dt7 bf2 be0 be9
 have hpc := TR.clo _ rq
 refine ae (ah ?_)
 refine dt (x := zrowV) M rfl rfl (fun i4 w4 h4 M4 => ab (v := vb false) (am rfl) (aw (af ?_)))
 refine ae (ae (ah (mV rfl (ab (v := vb false) (bd rfl rfl rfl) (mV rfl ?_)))))
 refine ai rfl rfl (am rfl) (ai rfl rfl (bt rfl rfl) (ai rfl rfl (bc (w := .om m1 u1) rfl rfl) (ai rfl rfl (ba rfl rfl rfl) ?_)))
 refine ai rfl rfl (v := vb false) (bd rfl rfl rfl) (ab (v := vb false) (lz rfl rfl rfl rfl) (aw (af (bg rfl (fun hc => by cases hc) fun hc => ?_))))
 obtain ⟨wt, gt, rt⟩ := aa.g_Tables rq
 obtain ⟨e0, b4, q0⟩ := cx (i := t) rt OK.a (xh p t OK.a)
 obtain ⟨wk, gk, rks⟩ := ax.g_Keys q0
 rw [su p t OK.a] at rks
 refine az (af (ae (ah (mV rfl (ab (bt rfl rfl) (ab (bc (w := .agg [a0, a1, a2, a3, a4, a5, a6, a7, a8]) rfl rfl) (ab (bc (w := wt) rfl gt) (ab (ba rfl (TR.cnt _ rt) (TR.agg _ rt)) ?_))))))))
 refine mV rfl (ab (bt rfl rfl) (ab (bc (w := vi t) rfl rfl) (ab (ba rfl rfl rfl) (ab (bn rfl rfl b4) (ab (bc rfl gk) (ab (ba rfl (TR.cnt _ rks) (TR.agg _ rks)) (mV rfl (aw (af ?_)))))))))
 refine ae (ae (ah (mV rfl (ab (bt rfl rfl) (ab (bc (w := vi (fb p t)) rfl rfl) (ab (ba rfl rfl rfl) (ab (bd rfl rfl lh) (mV rfl ?_))))))))
 refine bv 6 (d := 46) (v := vb (decide (fb p t = 3) || !decide ((key.length : Int) = ((ix p.Tables t).Keys.length : Int)))) ?_ ?_
 ·intro S Q r
  show RD _ _ S Q ((46, vb (decide (fb p t = 3) || !decide ((key.length : Int) = ((ix p.Tables t).Keys.length : Int)))) :: (40, vb (decide (fb p t = 3))) :: (39, vb (decide (fb p t = 3))) :: _) _ → RD _ _ S Q ((40, vb (decide (fb p t = 3))) :: (39, vb (decide (fb p t = 3))) :: _) _
  cases decide (fb p t = 3)
  ·intro k
   refine ai rfl rfl (am rfl) (ai rfl rfl (cd rfl (br rk Tryz.underlying33 _)) (ai rfl rfl (am rfl) (ai rfl rfl (cd rfl (br rks Tryz.underlying85 _)) (ai rfl rfl (bd rfl rfl jk) ?_))))
   exact gK rfl rfl rfl rfl rfl k
  ·exact gN 5 rfl rfl rfl rfl rfl rfl
 refine mV rfl ?_
 refine bv 5 (d := 52) (v := vb (slowB p t key)) ?_ ?_
 ·intro S Q r
  unfold slowB
  cases hA : (decide (fb p t = 3) || !decide ((key.length : Int) = ((ix p.Tables t).Keys.length : Int)))
  ·intro k
   have hkl : key.length = (dn p t).length := by
    rw [OK.w]
    simp only [Bool.or_eq_false_iff, Bool.not_eq_false', decide_eq_true_eq] at hA
    omega
   refine ai rfl rfl (am rfl) (ai rfl rfl (am rfl) ?_)
   refine fu rfl rfl (yi rfl rfl (ow (cs5 hpc (TR.clo _ rw_) (TR.clo _ rr)) (ow (cm (TR.clo _ rk)) ah4)) (dc2 rw_ rk hkl) rfl) (ai rfl rfl (gc rfl) ?_)
   exact gK rfl rfl rfl rfl rfl k
  ·exact gN 4 rfl rfl rfl rfl rfl rfl
 unfold findP at hres
 refine aw (af (bg rfl (fun hc => ?_) fun hc => ?_))
 ·rw [if_pos hc] at hres
  obtain ⟨c0, b3, b0⟩ := db0 (x1 := t) rq rr rk hs
  rw [hres] at b3 b0
  refine ae (tn ?_)
  refine cz (mV rfl (da (cz (ab (bt rfl rfl) (da (cz (ab (bc (w := .agg [a0, a1, a2, a3, a4, a5, a6, a7, a8]) rfl rfl) (da (cz (ab (ba rfl rfl rfl) (da ?_)))))))))))
  refine cz (mV rfl (da (cz (ab (bt rfl rfl) (da (cz (ab (bc (w := vi t) rfl rfl) (da (cz (ab (ba rfl rfl rfl) (da ?_)))))))))))
  refine cz (mV rfl (da (cz (ab (bt rfl rfl) (da (cz (ab (bc (w := rv) rfl (mk1 (TR.agg _ rr))) (da (cz (ab (ba rfl (TR.cnt _ rr) (TR.agg _ rr)) (da ?_)))))))))))
  refine cz (mV rfl (da ?_))
  refine cz (cL b3 rfl rfl (aq hpc (aq rfl (aq (TR.clo _ rr) (aq (TR.clo _ rk) bm)))) (da ?_))
  refine cz (ab (dp rfl rfl) (da (cz (ab (dp rfl rfl) (da ?_)))))
  refine cz (de (k := 0) (v := c0) M4 rfl rfl rfl (TR.cnt _ b0) (fun h5 M5 => da (cz (mV rfl (da (an4 (af ?_)))))))
  exact mq (.cell rfl (gh (k := 0) M5 rfl (TR.agg _ b0)) (.tmp rfl .nil)) ⟨c0, rfl, b0, Mem.sub M5 (.cons _ (List.Sublist.refl _))⟩
 ·have b1 := hc
  rw [if_neg (by rw [hc]; simp)] at hres
  unfold slowB at b1
  simp only [Bool.or_eq_false_iff, Bool.not_eq_false', decide_eq_true_eq, decide_eq_false_iff_not] at b1
  have hd := OK.d
  have hkl := b1.1.2
  have he : ExB (pk key (lpN p t)) := pk_B _ _
  refine az (af (ae (ah (mV rfl (mV rfl (ab (bt rfl rfl) (ab (bc (w := vi (lpN p t)) rfl rfl) (ab (ba rfl rfl rfl) ?_))))))))
  refine cL (by7 rk (by omega)) rfl rfl (aq (TR.clo _ rk) (aq rfl bm)) ?_
  refine dt (x := exV exz) M4 rfl rfl (fun i7 w7 h7 M7 => ?_)
  refine de (k := 0) (v := exV (pk key (lpN p t))) M7 rfl rfl rfl (bc1 he) (fun h8 M8 => aw (af ?_))
  replace M8 : Mem h8 (⟨.op i7 w7 0, 90, 7, [exV (pk key (lpN p t))]⟩ :: ⟨.op i4 w4 0, 44, 5, [zrowV]⟩ :: ⟨.om m1 u1, 66, 2, exE (mpV (bNd p t l).1)⟩ :: ⟨.om m2 u2, 67, 2, exE ps⟩ :: (N ++ R)) := M8
  refine ae (ae (ah (mV rfl (ab (bt rfl rfl) (ab (bc (w := vi (lpN p t)) rfl rfl) (ab (ba rfl rfl rfl) (ab (bd rfl rfl co) (aw (af (bg rfl (fun hc => ?_) fun hc => ?_))))))))))
  ·simp only [decide_eq_true_eq] at hc
   rw [if_pos hc] at hres
   refine ae (ah (mV rfl (ab (bt rfl rfl) (ab (bc (w := .om m1 u1) rfl rfl) (ab (ba rfl rfl rfl) (ab (gq (k := 0) M8 rfl rfl rfl) ?_))))))
   refine ur (k := 2) M8 rfl rfl rfl (cw0 b7) he ?_
   rw [bd5]
   cases hg : wget (bNd p t l).1 (pk key (lpN p t)) with
   | none =>
    rw [hg] at hres
    refine mV rfl (ab (v := vi 0) (dp rfl rfl) (ab (v := vb false) (dp rfl rfl) (mV rfl (mV rfl (aw (af ?_))))))
    refine ae (ae (ah (mV rfl (ab (v := vb true) (gc (k := false) rfl) (aw (af (bg rfl (fun hd => ?_) fun hd => by cases hd)))))))
    refine ae (ah (ab (v := zrowV) (nm (cs := [vi 0, nilS, vi 0, vi 0, nilS]) rfl rfl) ?_))
    refine de (k := 1) (v := zrowV) M8 rfl rfl rfl rfl (fun h9 M9 => ab (v := vb false) (am rfl) (aw (af ?_)))
    subst hres
    exact mq (.cell rfl (gh (k := 1) M9 rfl rfl) (.tmp rfl .nil)) ⟨_, rfl, aq9, Mem.sub M9 (.cons _ (.cons _ (List.Sublist.refl _)))⟩
   | some i =>
    rw [hg] at hres
    obtain ⟨j0, j1⟩ := OK.i1 hc _ _ hg
    obtain ⟨g, ig, qg⟩ := cx (i := i) rr j0 j1
    refine mV rfl (ab (v := vi i) (dp rfl rfl) (ab (v := vb true) (dp rfl rfl) (mV rfl (mV rfl (aw (af ?_))))))
    refine ae (ae (ah (mV rfl (ab (v := vb false) (gc (k := true) rfl) (aw (af (bg rfl (fun hd => by cases hd) fun hd => ?_)))))))
    refine az (af (ae (ah (mV rfl (ab (bt rfl rfl) (ab (bc (w := rv) rfl (mk1 (TR.agg _ rr))) (ab (ba rfl (TR.cnt _ rr) (TR.agg _ rr)) (mV rfl (ab (bn rfl rfl ig) (ab (ba rfl (TR.cnt _ qg) (TR.agg _ qg)) ?_))))))))))
    obtain ⟨c0, b2, a9⟩ := an7 qg (by rw [oe j0 j1]; exact hs _ (List.getElem_mem _))
    refine cL b2 rfl rfl (aq (TR.clo _ qg) bm) ?_
    refine de (k := 1) (v := c0) M8 rfl rfl rfl (TR.cnt _ a9) (fun h9 M9 => ab (v := vb true) (am rfl) (aw (af ?_)))
    subst hres
    exact mq (.cell rfl (gh (k := 1) M9 rfl (TR.agg _ a9)) (.tmp rfl .nil)) ⟨_, rfl, a9, Mem.sub M9 (.cons _ (.cons _ (List.Sublist.refl _)))⟩
  ·simp only [decide_eq_false_iff_not] at hc
   have hlp : 0 ≤ lpN p t := by omega
   have hlk := OK.lp
   rw [if_neg hc] at hres
   have hBp := an3 HT.B b6
   refine az (af (ae (ae (ah (mV rfl (ab (bt rfl rfl) (ab (bc (w := .om m2 u2) rfl rfl) (ab (ba rfl rfl rfl) (ab (gq (k := 0) M8 rfl rfl rfl) ?_)))))))))
   refine ur (k := 3) M8 rfl rfl rfl hBp he ?_
   cases hg : wget (bNd p t l).2 (pk key (lpN p t)) with
   | none =>
    rw [hg] at hres
    rw [HT.absent hg]
    refine ab (v := vb true) (bd rfl rfl rfl) (aw (af (bg rfl (fun hd => ?_) fun hd => by cases hd)))
    refine ae (ah (ab (v := zrowV) (nm (cs := [vi 0, nilS, vi 0, vi 0, nilS]) rfl rfl) ?_))
    refine de (k := 1) (v := zrowV) M8 rfl rfl rfl rfl (fun h9 M9 => ab (v := vb false) (am rfl) (aw (af ?_)))
    subst hres
    exact mq (.cell rfl (gh (k := 1) M9 rfl rfl) (.tmp rfl .nil)) ⟨_, rfl, aq9, Mem.sub M9 (.cons _ (.cons _ (List.Sublist.refl _)))⟩
   | some tr =>
    rw [hg] at hres
    simp only at hres
    obtain ⟨pr, Nt, Nr, g1, g2, g3, g4, g5⟩ := HT.found hg
    have b5 := OK.i2 hlp _ tr (ix key (lpN p t)) hg
    cases tr with
    | nil => exact absurd rfl g2
    | node tl tr_ ts_ tv =>
    rw [g1]
    refine ab (v := vb false) (bd rfl rfl rfl) (aw (af (bg rfl (fun hd => by cases hd) fun hd => ?_)))
    refine az (af (ae (ae (tn ?_))))
    refine cz (mV rfl (da (cz (ab (bt rfl rfl) (da (cz (ab (bc (w := .om m2 u2) rfl rfl) (da (cz (ab (ba rfl rfl rfl) (da (cz (ab (gq (k := 0) M8 rfl rfl rfl) (da ?_))))))))))))))
    refine cz (ur (k := 3) M8 rfl rfl rfl hBp he (da ?_))
    rw [g1]
    refine cz (mV rfl (da (cz (mV rfl (da (cz (ab (bt rfl rfl) (da (cz (ab (bc (w := vi (lpN p t)) rfl rfl) (da (cz (ab (ba rfl rfl rfl) (da ?_))))))))))))))
    refine cz (ab (bn rfl rfl (zw rk hlp (by omega))) (da (cz (ab (ba rfl rfl rfl) (da ?_)))))
    have hz : Deep Tryz.prog h8 (triP (ix (dn p t) (lpN p t)) pr) (triP (ix (dn p t) (lpN p t)) (trF (.node tl tr_ ts_ tv))) := av5 M8 g3 fun e hE => by
     have : e ∈ N := g4.mem_iff.2 (List.mem_append_left _ hE)
     simp [this]
    refine cz (rz (v := .tup [vi (lkR (ix (dn p t) (lpN p t)) (ix key (lpN p t)) (.node tl tr_ ts_ tv)).1, vi (lkR (ix (dn p t) (lpN p t)) (ix key (lpN p t)) (.node tl tr_ ts_ tv)).2.1, vb (lkR (ix (dn p t) (lpN p t)) (ix key (lpN p t)) (.node tl tr_ ts_ tv)).2.2]) (yi rfl rfl (ow hz (ow (cm rfl) ah4)) (de9 (OK.w32 hlp _ _ hg)) rfl) (da ?_))
    generalize hq : lkR (ix (dn p t) (lpN p t)) (ix key (lpN p t)) (.node tl tr_ ts_ tv) = q at *
    refine cz (mV rfl (da (cz (ab (dp rfl rfl) (da (cz (ab (dp rfl rfl) (da (cz (ab (dp rfl rfl) (da ?_)))))))))))
    refine cz (mV rfl (da (cz (mV rfl (da (cz (mV rfl (da (an4 (af ?_))))))))))
    refine ae (ah (mV rfl (ab (gc rfl) (aw (af (bg rfl (fun hd => ?_) fun hd => ?_))))))
    ·have hd : q.2.2 = false := by simpa using hd
     rw [if_neg (by rw [hd]; simp)] at hres
     refine ae (ah (ab (v := zrowV) (nm (cs := [vi 0, nilS, vi 0, vi 0, nilS]) rfl rfl) ?_))
     refine de (k := 1) (v := zrowV) M8 rfl rfl rfl rfl (fun h9 M9 => ab (v := vb false) (am rfl) (aw (af ?_)))
     subst hres
     exact mq (.cell rfl (gh (k := 1) M9 rfl rfl) (.tmp rfl .nil)) ⟨_, rfl, aq9, Mem.sub M9 (.cons _ (.cons _ (List.Sublist.refl _)))⟩
    ·have hd : q.2.2 = true := by simpa using hd
     rw [if_pos hd] at hres
     obtain ⟨j0, j1⟩ := b5 hd
     obtain ⟨g, ig, qg⟩ := cx (i := q.1) rr j0 j1
     refine az (af (ae (ah (mV rfl (ab (bt rfl rfl) (ab (bc (w := rv) rfl (mk1 (TR.agg _ rr))) (ab (ba rfl (TR.cnt _ rr) (TR.agg _ rr)) (mV rfl (ab (bn rfl rfl ig) (ab (ba rfl (TR.cnt _ qg) (TR.agg _ qg)) ?_))))))))))
     obtain ⟨c0, b2, a9⟩ := an7 qg (by rw [oe j0 j1]; exact hs _ (List.getElem_mem _))
     refine cL b2 rfl rfl (aq (TR.clo _ qg) bm) ?_
     refine de (k := 1) (v := c0) M8 rfl rfl rfl (TR.cnt _ a9) (fun h9 M9 => ab (v := vb true) (am rfl) (aw (af ?_)))
     subst hres
     exact mq (.cell rfl (gh (k := 1) M9 rfl (TR.agg _ a9)) (.tmp rfl .nil)) ⟨_, rfl, a9, Mem.sub M9 (.cons _ (.cons _ (List.Sublist.refl _)))⟩
theorem eb6 (b : Bool) (ox oy : Operand) : binF Tryz.prog .neq 4 ox oy (vb b) (vb b) = some (vb false) := by cases b <;> rfl
theorem dd9 {P : Program} {n : Int} {t : TypeId} {ox oy : Operand} : binF P .neq t ox oy (vi n) (vi n) = some (vb false) := by
 have := jk (P := P) (t := t) (ox := ox) (oy := oy) (a := n) (b := n)
 rwa [decide_eq_true rfl] at this
theorem db9 {P : Program} {n : Int} {t : TypeId} {ox oy : Operand} : binF P .eql t ox oy (vi n) (vi n) = some (vb true) := by
 have := lh (P := P) (t := t) (ox := ox) (oy := oy) (a := n) (b := n)
 rwa [decide_eq_true rfl] at this
theorem cx6 {x : cg} (h : me x = false) : x.Program.Tables.length ≤ 16 ∧ x.Rows.length ≤ 30 ∧ x.Key.length ≤ 20 := by
 unfold me at h
 simp only [LET] at h
 split at h
 ·cases h
 ·rename_i hc
  simp only [Bool.or_eq_true, decide_eq_true_eq, not_or] at hc
  refine ⟨?_, by omega, by omega⟩
  have h2 : mc x.Program = false := by simpa using hc.1.1
  unfold mc at h2
  split at h2
  ·cases h2
  ·rename_i hd
   simp only [Bool.or_eq_true, decide_eq_true_eq, not_or] at hd
   omega
theorem dg3 (b : Bool) (ox oy : Operand) : binF Tryz.prog .eql 4 ox oy (vb b) (vb b) = some (vb true) := by cases b <;> rfl
theorem cw2 {S : List Fr} {Q : Post} {x0 : cg} {v0 : PV} (r0 : cg.t.R x0 v0) (hl : x0.Rows.length ≤ 1000)
  (K : ∀ {h : Heap} {rv : PV} {es : List PV}, isL rv = true → All2 aj.t.R x0.Rows.reverse es → Mem h [⟨rv, 44, 5, es⟩] → PX Tryz.prog 0 S Q [(3, rv), (1, .fp v0)] h) :
  ∀ (m : Nat) {i : Int} {rv : PV} {es : List PV} {h : Heap}, m = Int.toNat (i + 1) → -1 ≤ i → i < x0.Rows.length → isL rv = true → Wri rv es → All2 aj.t.R (x0.Rows.drop m).reverse es → Mem h [⟨rv, 44, 5, es⟩] →
   RC Tryz.prog (.loop da8) S Q [(4, vi i), (3, rv), (1, .fp v0)] h
 | 0, i, rv, es, h, hm, h0, h1, hne, hw, ha, M => by
  refine bq ?_
  refine ae (ah (mV rfl (ab (bd rfl rfl oa) (aw (af (ae (bg rfl (fun hc => ?_) fun hc => ?_)))))))
  ·simp only [decide_eq_true_eq] at hc
   have : (0 : Int) ≤ i := hc
   omega
  ·exact dm (dx (cy (wP (K hne ha M) rfl)))
 | m + 1, i, rv, es, h, hm, h0, h1, hne, hw, ha, M => by
  have hi : 0 ≤ i := by omega
  have hinc : wr (i - 1) = i - 1 := dw (by omega) (by omega)
  obtain ⟨wr_, gr, rr⟩ := cg.g_Rows r0
  refine bq ?_
  refine ae (ah (mV rfl (ab (bd rfl rfl oa) (aw (af (ae (bg rfl (fun hc => ?_) fun hc => ?_)))))))
  ·obtain ⟨g, e0, q0⟩ := cx (i := i) rr hi h1
   refine az (af (ae (bf (ah (mV rfl (ab (bc rfl gr) (ab (ba rfl (TR.cnt _ rr) (TR.agg _ rr)) (mV rfl (ab (bn rfl rfl e0) (ab (ba rfl (TR.cnt _ q0) (TR.agg _ q0)) ?_))))))))))
   refine ab (v := .fs true [g]) (lj rfl (all_cons (TR.cnt _ q0) og)) ?_
   have hlen := ha.length
   rw [List.length_reverse, List.length_drop] at hlen
   have ff : fits (es.length + [g].length) 72 = true := qi (by simp only [List.length_cons, List.length_nil]; omega) (by simp only [List.length_cons, List.length_nil]; omega)
   refine rn (k := 0) (es := es) (news := [g]) M rfl rfl rfl hne hw (ax8 (.inr ⟨true, rfl⟩) (by intro y hy; rw [List.mem_singleton.1 hy]; exact TR.cnt _ q0)) ff (fun a h5 hna hwa M5 => mV rfl (aw (dg (af ?_))))
   refine ah (mV rfl (ab (bd rfl rfl aa5) (mV rfl (aw (ct ?_)))))
   have hta : (x0.Rows.drop m).reverse = (x0.Rows.drop (m + 1)).reverse ++ [ix x0.Rows i] := by
    have e : i.toNat = m := by omega
    rw [List.drop_eq_getElem_cons (by omega), List.reverse_cons, oe hi h1]
    simp only [e]
   refine mo ?_ (cw2 r0 hl K m (i := i - 1) (by omega) (by omega) (by omega) hna hwa (by rw [hta]; exact All2.app ha ⟨q0, trivial⟩) M5)
   exact ky (by show some (vi (wr (i - 1))) = _; rw [hinc]) (sB rfl)
  ·simp only [decide_eq_false_iff_not] at hc
   have : ¬(0 : Int) ≤ i := hc
   omega
theorem dq5 {x0 : cg} {v0 : PV} (r0 : cg.t.R x0 v0) : FnR Tryz.prog 5 [v0] (vb (ot x0)) := by
 obtain ⟨r, h1, rfl⟩ : ∃ r, FnR Tryz.prog 5 [v0] r ∧ r = vb true := by
  obtain ⟨wp, gp, rp⟩ := cg.g_Program r0
  obtain ⟨wr_, gr, rr⟩ := cg.g_Rows r0
  obtain ⟨kv, gk, rk⟩ := cg.g_Key r0
  refine fnE dw5 (by simp) ?_
  refine ae (ah (ab (dh rfl (TR.cnt cg.t r0)) (ab (v := vb false) (am rfl) (aw (af ?_)))))
  refine ae (ae (ah (ab (ba rfl (TR.cnt cg.t r0) (TR.agg cg.t r0)) (cL (dl6 r0) rfl rfl (aq (TR.clo cg.t r0) bm) (aw (af (bg rfl (fun hc => ?_) fun hc => ?_)))))))
  ·refine ae (ah (cL bi8 rfl rfl bm (mV rfl (aw (af ?_)))))
   exact fg (.tmp rfl .nil) (cm rfl) rfl
  ·obtain ⟨l1, l2, l3⟩ := cx6 hc
   have hs := tl hc rfl
   have hsr : ∀ r ∈ x0.Rows.reverse, SR r := fun r hr => hs r (by simpa using hr)
   have hOK : ∀ l : List aj, l.length ≤ 30 → newE x0.Program x0.Table l = 0 → NewOK x0.Program x0.Table l := fun l hl h => dv1 ((xk _ _ _).1 (by rw [← ac0]; exact h)) (by omega) (by omega)
   refine az (af (ae (ah (ab (v := nilS) (am rfl) (aw (af ?_))))))
   have hinc : wr ((x0.Rows.length : Int) - 1) = (x0.Rows.length : Int) - 1 := dw (by omega) (by omega)
   refine ae (ae (ah (ab (bc rfl gr) (ab (ba rfl (TR.cnt _ rr) (TR.agg _ rr)) (ab (cd rfl (br rr Tryz.underlying32 _)) (ab (v := vi ((x0.Rows.length : Int) - 1)) (bd rfl rfl (by rw [← hinc]; exact aa5)) (mV rfl (aw (af (bf ?_)))))))))) 
   refine wC (cw2 r0 (by omega) ?_ x0.Rows.length (i := (x0.Rows.length : Int) - 1) (rv := nilS) (es := []) (by omega) (by omega) (by omega) rfl (.inl rfl) (by rw [List.drop_length]; trivial) (rj (Mem.nil _) 44 (.inl ⟨none, rfl, rfl⟩) (by simp))) rfl
   ·intro h2 lv es hne ha M2
    refine fd (af (ae (mm ?_)))
    refine bm8 (k := 0) (E' := fun d => [(3, d), (1, .fp v0)]) M2 rfl hne (fun d => uk rfl (ip rfl ya)) (fun d h3 hd M3 => ?_)
    replace M3 : Mem h3 [] := M3
    have rd : (tSl aj.t).R x0.Rows.reverse d := ⟨⟨es, hd, ha⟩, by rw [List.length_reverse]; omega⟩
    obtain ⟨ra, h4, Fa, Da⟩ := bb9 (t := x0.Table) (R := []) rp rr (by omega) hs (hOK _ (by omega)) M3
    refine cv (ab (bc rfl gp) (cw (cv (ab (ba rfl (TR.cnt _ rp) (TR.agg _ rp)) (cw (cv (ab (bc rfl (cg.g_Table r0)) (cw (cv (ab (ba rfl rfl rfl) (cw ?_)))))))))))
    refine cv (ab (bc rfl gr) (cw (cv (ab (ba rfl (TR.cnt _ rr) (TR.agg _ rr)) (cw ?_)))))
    refine qs rfl rfl Fa ?_
    rcases Da with ⟨hna, rfl, M4⟩ | ⟨hea, x, La, rfl, I, M4⟩
    ·obtain ⟨rb, h5, Fb, Db⟩ := bb9 (t := x0.Table) (R := []) rp rd (by rw [List.length_reverse]; omega) hsr (hOK _ (by rw [List.length_reverse]; omega)) M4
     have hnb : newE x0.Program x0.Table x0.Rows.reverse ≠ 0 := fun h => hna ((as4 _ _ _).1 h)
     generalize newE x0.Program x0.Table x0.Rows = ea at *
     generalize newE x0.Program x0.Table x0.Rows.reverse = eb at *
     rcases Db with ⟨_, rfl, M5⟩ | ⟨h, _⟩
     ·refine cv (mV rfl (cw (cv (ab (dp rfl rfl) (cw (cv (ab (dp rfl rfl) (cw (cv (mV rfl (cw (cv (mV rfl (cw (sg (af ?_)))))))))))))))) 
      refine ae (mm ?_)
      refine cv (ab (bc rfl gp) (cw (cv (ab (ba rfl (TR.cnt _ rp) (TR.agg _ rp)) (cw (cv (ab (bc rfl (cg.g_Table r0)) (cw (cv (ab (ba rfl rfl rfl) (cw ?_)))))))))))
      refine cv (mV rfl (cw (qs rfl rfl Fb ?_)))
      refine cv (mV rfl (cw (cv (ab (dp rfl rfl) (cw (cv (ab (dp rfl rfl) (cw (cv (mV rfl (cw (cv (mV rfl (cw (sg (af ?_)))))))))))))))) 
      have ca : (!decide (ea = Int.ofNat 0)) = true := by simpa using hna
      have cb : (!decide (eb = Int.ofNat 0)) = true := by simpa using hnb
      refine ae (ae (ah (mV rfl (ab (bd rfl rfl jk) (aw (af (bg rfl (fun hd => ?_) fun hd => ?_)))))))
      ·refine ae (ah (mV rfl (ab (bd rfl rfl jk) ?_)))
       rw [cb]
       refine mV rfl (fu rfl rfl (mb rfl rfl bm bi8) (ab (v := vb true) (lz rfl rfl rfl rfl) (mV rfl (aw (af ?_)))))
       exact fg (.tmp rfl .nil) (cm rfl) rfl
      ·rw [ca] at hd; cases hd
     ·exact absurd h hnb
    ·have G := (xk _ _ _).1 (by rw [← ac0]; exact hea : nh x0.Program x0.Table x0.Rows = 0)
     obtain ⟨rb, h5, Fb, Db⟩ := bb9 (t := x0.Table) (R := La ++ []) rp rd (by rw [List.length_reverse]; omega) hsr (hOK _ (by rw [List.length_reverse]; omega)) M4
     rcases Db with ⟨h, _⟩ | ⟨_, y, Lb, rfl, J, M5⟩
     ·exact absurd ((as4 _ _ _).2 hea) h
     ·refine cv (mV rfl (cw (cv (ab (dp rfl rfl) (cw (cv (ab (dp rfl rfl) (cw (cv (mV rfl (cw (cv (mV rfl (cw (sg (af ?_)))))))))))))))) 
      refine ae (mm ?_)
      refine cv (ab (bc rfl gp) (cw (cv (ab (ba rfl (TR.cnt _ rp) (TR.agg _ rp)) (cw (cv (ab (bc rfl (cg.g_Table r0)) (cw (cv (ab (ba rfl rfl rfl) (cw ?_)))))))))))
      refine cv (mV rfl (cw (qs rfl rfl Fb ?_)))
      refine cv (mV rfl (cw (cv (ab (dp rfl rfl) (cw (cv (ab (dp rfl rfl) (cw (cv (mV rfl (cw (cv (mV rfl (cw (sg (af ?_)))))))))))))))) 
      refine ae (ae (ah (mV rfl (ab (v := vb false) (bd rfl rfl dd9) (aw (af (bg rfl (fun hd => by cases hd) fun hd => ?_)))))))
      obtain ⟨r6, h6, F6, c0, rfl, s6, M6⟩ := br3 (R := Lb) I rk (g_ok G) hs (M5.perm (by classical exact List.perm_iff_count.2 fun a => by simp only [List.count_append, List.count_nil]; omega))
      refine az (af (ae (mm ?_)))
      refine cv (mV rfl (cw (cv (ab (bc rfl gk) (cw (cv (ab (ba rfl (TR.cnt _ rk) (TR.agg _ rk)) (cw ?_))))))))
      refine qs rfl rfl F6 ?_
      refine cv (mV rfl (cw (cv (ab (dp rfl rfl) (cw (cv (ab (dp rfl rfl) (cw ?_))))))))
      refine cv (dt (x := zrowV) M6 rfl rfl (fun i8 w8 h8 M8 => cw ?_))
      refine cv (de (k := 0) (v := c0) M8 rfl rfl rfl (TR.cnt _ s6) (fun h9 M9 => cw (cv (mV rfl (cw (sg (af ?_)))))))
      replace M9 : Mem h9 (⟨.op i8 w8 0, 44, 5, [c0]⟩ :: (La ++ Lb)) := M9
      obtain ⟨r7, a8, F7, c1, rfl, s7, a2⟩ := br3 (R := ⟨.op i8 w8 0, 44, 5, [c0]⟩ :: La) J rk (g_ok (yo G)) hsr (M9.perm (by classical exact List.perm_iff_count.2 fun a => by simp only [List.count_append, List.count_cons, List.cons_append]; omega))
      refine ae (mm ?_)
      refine cv (mV rfl (cw (cv (ab (bc rfl gk) (cw (cv (ab (ba rfl (TR.cnt _ rk) (TR.agg _ rk)) (cw ?_))))))))
      refine qs rfl rfl F7 ?_
      refine cv (mV rfl (cw (cv (ab (dp rfl rfl) (cw (cv (ab (dp rfl rfl) (cw ?_))))))))
      refine cv (dt (x := zrowV) a2 rfl rfl (fun a5 a4 a9 a6 => cw ?_))
      refine cv (de (k := 0) (v := c1) a6 rfl rfl rfl (TR.cnt _ s7) (fun a7 a3 => cw (cv (mV rfl (cw (sg (af ?_)))))))
      have a1 : Mem a7 (⟨.op a5 a4 0, 44, 5, [c1]⟩ :: ⟨.op i8 w8 0, 44, 5, [c0]⟩ :: (La ++ Lb)) := Mem.perm a3 (by
       classical exact List.perm_iff_count.2 fun a => by simp only [List.set_cons_zero, List.count_append, List.count_cons, List.cons_append]; omega)
      rw [at6 G] at s7
      have a0 := cz2 s6 s7
      rw [bb8] at a0
      rw [at6 G]
      refine ae (ah (mV rfl (ab (bd rfl rfl db9) (mV rfl ?_))))
      refine ai rfl rfl (gq (k := 1) a1 rfl rfl (TR.agg _ s6)) (ai rfl rfl (gq (k := 0) a1 rfl rfl (TR.agg _ s7)) ?_)
      refine fu rfl rfl (mb rfl rfl (aq (TR.clo _ s6) (aq (TR.clo _ s7) bm)) a0) (ab (v := vb true) (lz rfl rfl rfl rfl) (mV rfl ?_))
      refine ai rfl rfl (am rfl) (ai rfl rfl (am rfl) (ai rfl rfl (bd rfl rfl (dg3 _ _ _)) (ab (v := vb true) (lz rfl rfl rfl rfl) (mV rfl ?_))))
      refine fu rfl rfl (mb rfl rfl bm bi8) (ab (v := vb true) (lz rfl rfl rfl rfl) (mV rfl (aw (af ?_))))
      exact fg (.tmp rfl .nil) (cm rfl) rfl
 exact h1

end Go.Proofs.YthdnpgpnodgicaaGreat
