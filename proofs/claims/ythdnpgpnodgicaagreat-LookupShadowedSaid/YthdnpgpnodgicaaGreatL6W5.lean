/-
 The code of each function does what its plain program says.
-/
import Derived.Test.YthdnpgpnodgicaaGreatL6W4
set_option linter.unusedVariables false
set_option linter.unusedSimpArgs false
set_option maxRecDepth 100000
namespace Go.Proofs.YthdnpgpnodgicaaGreat
open Go Go.Pb Go.RowKit
def RF117 (res : (BitVec 32)) (r : PV) : Prop := r = dx res
theorem cq0 {x0 x1 : Int} : FnR Tryz.prog 117 [vi x0, vi x1] (dx (jg x0 x1)) := by
 refine fnS (R := RF117) bo7 (fun _ h => h) rfl fun res hres => ?_
 unfold jg at hres
 refine sR (ae (v := dx 0#32) (aq rfl) (nS (af (sR (mV rfl (ae (v := .fs true [vi x1]) (fm rfl (all_cons rfl jn)) ?_))))))
 have a2 : (tSl tI).R ([x1] : List Int) (.fs true [vi x1]) := rh ⟨rfl, trivial⟩ (by simp)
 obtain ⟨a9, a1, hres⟩ := cw hres
 have a0 := ai7  a2 
 rw [a1] at a0
 refine cL a0 rfl rfl (aj (TR.clo (tSl tI) a2) bb) (ae (gu rfl) (nS ?_))
 refine cv hres rfl ?_ ?_ <;> clear hres <;> intro c hres <;> try simp only [qa] at c
 ·refine sR (ae (v := dx 0#32) (aq rfl) (nS ?_))
  exact rR hres rfl rfl rfl
 ·refine ax (ai (sR (mV rfl ?_)))
  obtain ⟨a8, a3, hres⟩ := cw hres
  have a5 := yv (x0 := x1)  
  rw [a3] at a5
  refine cL a5 rfl rfl (aj rfl bb) (mV rfl ?_)
  obtain ⟨a4, a7, hres⟩ := cw hres
  have a6 := yv (x0 := x1)  
  rw [a7] at a6
  refine cL a6 rfl rfl (aj rfl bb) (mV rfl (ae (cg rfl (ai9 _ _)) (mV rfl (ae (cg rfl (au7 _ _)) (ae (ay (a := dx a4) (b := vi (min (max x0 0) x1)) rfl rfl (bm7 (by have hk := mv (by assumption) (by assumption); omega))) (ae (ay (a := dx a8) (b := dx (a4 >>> (min (max x0 0) x1).toNat)) rfl rfl bc8) (mV rfl (nS ?_))))))))
  exact rR hres rfl rfl rfl

def RF86 (res : Int × Bool) (r : PV) : Prop := r = .tup [vi res.1, vb res.2]
theorem wj {S : List Fr} {res : Int × Bool} {x0 : BitVec 32} {x1 : Int} {a2 : Bool} (a9 : ja ([x1] : List Int) = a2) (a6 : (!a2) = false) {K0 : Unit → (Int × Bool)}
  (b0 : K0 () = res → PX Tryz.prog 0 S (QR Tryz.prog [(4, none), (5, none)] (RF86 res)) [] ⟨0, []⟩) :
  ∀ {m : Nat} {a0 : Int} (a8 : m = Int.toNat ((wr (x1 + 1)) - a0)) (a3 : 0 ≤ a0), fc x0 x1 K0 m a0 = res → RC Tryz.prog (.loop cw7) S (QR Tryz.prog [(4, none), (5, none)] (RF86 res)) [(13, vi a0), (12, vi (wr (x1 + 1))), (1, vi x1), (0, dx x0)] ⟨0, []⟩ := by
 have a1 := a6
 try simp only [qa] at a1
 intro m
 induction m with
 | zero =>
  intro a0 a8 a3 hres
  rw [fc] at hres
  refine bp (sR (bN cj rfl rfl (nS (af ?_))))
  refine bf rfl ?_ ?_ <;> intro c <;> try simp only [qa] at c
  ·omega
  refine db (dn (cq ?_))
  exact wP (b0  hres) rfl
 | succ m ih =>
  intro a0 a8 a3 hres
  rw [fc] at hres
  refine bp (sR (bN cj rfl rfl (nS (af ?_))))
  refine bf rfl ?_ ?_ <;> intro c <;> try simp only [qa] at c
  rotate_left
  ·omega
  refine ax (ai (af (bc (sR (mV rfl (mV rfl (nR (mV rfl ?_))))))))
  refine mV rfl ?_
  obtain ⟨a7, a5, hres⟩ := cw hres
  have a4 := cq0 (x0 := a0) (x1 := x1)  
  rw [a5] at a4
  refine cL a4 rfl rfl (aj rfl (aj rfl bb)) (mV rfl (ae (ay (a := dx a7) (b := dx x0) rfl rfl bp2) (nS ?_)))
  refine cv hres rfl ?_ ?_ <;> clear hres <;> intro c hres <;> try simp only [qa] at c
  ·refine sR (mV rfl (mV rfl (mB rfl (nS ?_))))
   exact rT hres rfl rfl rfl rfl rfl
  ·refine ax (da (ai (ah (bN dp rfl rfl (mV rfl (aw (cf ?_)))))))
   have hinc : wr (a0 + 1) = a0 + 1 := dg (by omega) (by have hk := mv (by assumption) (by assumption); have e := dg (n := x1 + 1) (by omega) (by omega); omega)
   erw [hinc]
   exact wC (ih   (by omega) (by omega) hres) rfl

theorem cl2 {x0 : BitVec 32} {x1 : Int} : FnR Tryz.prog 86 [dx x0, vi x1] (.tup [vi ((ee x0 x1).1), vb ((ee x0 x1).2)]) := by
 refine fnS (R := RF86) ck6 (fun _ h => h) rfl fun res hres => ?_
 unfold ee at hres
 refine sR (mI rfl (mB rfl (nS (af (sR (mV rfl (ae (v := .fs true [vi x1]) (fm rfl (all_cons rfl jn)) ?_)))))))
 have a4 : (tSl tI).R ([x1] : List Int) (.fs true [vi x1]) := rh ⟨rfl, trivial⟩ (by simp)
 obtain ⟨a5, a0, hres⟩ := cw hres
 have a3 := ai7  a4 
 rw [a0] at a3
 refine cL a3 rfl rfl (aj (TR.clo (tSl tI) a4) bb) (ae (gu rfl) (nS ?_))
 refine cv hres rfl ?_ ?_ <;> clear hres <;> intro a1 hres <;> have a2 := a1 <;> try simp only [qa] at a2
 ·refine sR (mI rfl (mB rfl (nS ?_)))
  exact rT hres rfl rfl rfl rfl rfl
 ·refine ax (ai (af (sR (mV rfl (bN dp rfl rfl (mI rfl (nS (bc ?_))))))))
  refine wC (wj a0 a1 ?_  rfl (by omega) hres) rfl
  ·intro  hres
   refine dv (ai (sR (mI rfl (mB rfl (nS ?_)))))
   exact rT hres rfl rfl rfl rfl rfl

def RF76 (res : Int) (r : PV) : Prop := r = vi res
theorem dt2 {x0 : ba} {x1 x2 : Int} {v0 : PV} (r0 : ba.t.R x0 v0) : FnR Tryz.prog 76 [v0, vi x1, vi x2] (vi (qh x0 x1 x2)) := by
 refine fnS (R := RF76) co5 (fun _ h => h) rfl fun res hres => ?_
 unfold qh at hres
 refine sR (ae (di rfl (TR.cnt ba.t r0)) (mI rfl (nS (af (bc (sR (fL rfl (ba.g_Value r0) rfl rfl (mV rfl ?_))))))))
 obtain ⟨a7, a9, hres⟩ := cw hres
 have a2 := at1 (x0 := x0.Value) (x1 := x2)  
 rw [a9] at a2
 refine cL a2 rfl rfl (aj rfl (aj rfl bb)) (ae (gu rfl) (mV rfl ?_))
 refine bw 6 (d := 21) (v := vb ((!a7) || (!(lv x0.Mask x2)))) ?_ ?_
 ·intro S Q r
  cases a5 : (!a7)
  ·intro k
   have a1 := a5
   try simp only [qa] at a1
   refine ak rfl rfl (bz rfl (ba.g_Mask r0)) (ak rfl rfl (br rfl rfl rfl) (ak rfl rfl (aq rfl) ?_))
   have b1 := at1 (x0 := x0.Mask) (x1 := x2)  
   refine io rfl rfl (qt rfl rfl (aj rfl (aj rfl bb)) b1) (ak rfl rfl (gu rfl) ?_)
   exact gK rfl rfl rfl rfl rfl k
  ·exact gN 5 rfl rfl rfl rfl rfl rfl
 refine mV rfl (nS ?_)
 refine cv hres rfl ?_ ?_ <;> clear hres <;> intro c hres <;> try simp only [qa] at c
 ·refine sR (mI rfl (nS ?_))
  exact rR hres rfl rfl rfl
 ·refine sR (fL rfl (ba.g_Value r0) rfl rfl (fL rfl (ba.g_Mask r0) rfl rfl (ae (ay (a := dx x0.Value) (b := dx x0.Mask) rfl rfl bc8) (ae (ay (a := dx (x0.Value &&& ~~~x0.Mask)) (b := dx 0#32) rfl rfl bo2) (mV rfl (nS ?_))))))
  refine cv hres rfl ?_ ?_ <;> clear hres <;> intro c hres <;> try simp only [qa] at c
  ·refine sR (mI rfl (nS ?_))
   exact rR hres rfl rfl rfl
  ·refine sR (mV rfl (bN md rfl rfl (mV rfl ?_)))
   refine bw 6 (d := 38) (v := vb ((decide (x1 = 1)) && (!decide (x0.Mask = (fh x2))))) ?_ ?_
   ·intro S Q r
    cases a6 : (decide (x1 = 1))
    ·exact gN 5 rfl rfl rfl rfl rfl rfl
    ·intro k
     have a0 := a6
     try simp only [qa] at a0
     refine ak rfl rfl (bz rfl (ba.g_Mask r0)) (ak rfl rfl (br rfl rfl rfl) (ak rfl rfl (aq rfl) ?_))
     have b2 := yv (x0 := x2)  
     refine io rfl rfl (qt rfl rfl (aj rfl bb) b2) (ak rfl rfl (ay (a := dx x0.Mask) (b := dx (fh x2)) rfl rfl bo2) ?_)
     exact gK rfl rfl rfl rfl rfl k
   refine mV rfl (nS ?_)
   refine cv hres rfl ?_ ?_ <;> clear hres <;> intro c hres <;> try simp only [qa] at c
   ·refine sR (mI rfl (nS ?_))
    exact rR hres rfl rfl rfl
   ·refine ax (da (ai (af (sR (mV rfl (bN md rfl rfl (nS ?_)))))))
    obtain ⟨b0, a8, hres⟩ := cw hres
    refine wh (F := fun b S Q =>  b0 () = res → RC Tryz.prog b S Q [] ⟨0, []⟩) ?_ ?_
    ·intro   hres
     rw [← a8] at hres
     refine sR (mI rfl (nS ?_))
     exact rR hres rfl rfl rfl
    ·intro J
     refine cv hres rfl ?_ ?_ <;> clear hres <;> intro c hres <;> try simp only [qa] at c
     ·refine sR (fL rfl (ba.g_Mask r0) rfl rfl (mV rfl ?_))
      obtain ⟨b3, a4, hres⟩ := cw hres
      have a3 := cl2 (x0 := x0.Mask) (x1 := x2)  
      rw [a4] at a3
      refine cL a3 rfl rfl (aj rfl (aj rfl bb)) (mV rfl (xT rfl rfl (xT rfl rfl (mV rfl (mV rfl (nR (mV rfl (ae (gu rfl) ?_))))))))
      refine nS ?_
      refine cv hres rfl ?_ ?_ <;> clear hres <;> intro c hres <;> try simp only [qa] at c
      ·refine sR (mI rfl (nS ?_))
       exact rR hres rfl rfl rfl
      ·refine ax ?_
       refine ai (wC (J   hres) rfl)
     ·refine ax ?_
      refine ai (wC (J   hres) rfl)

def RF44 (res : Int) (r : PV) : Prop := r = vi res
theorem af8 {S : List Fr} {res : Int} {x0 : ab} {x1 : Int} {a8 : Bool} {a6 : PV} (b7 : gc x0 x1 = a8) (b0 : (!a8) = false) (a5 : (tSl bn.t).R ((ix x0.Tables x1).Keys) a6) {K0 : Int → Int}
  (b9 : ∀ {a4 : Int} {h : Heap} (M0 : Mem h []), K0 a4 = res → PX Tryz.prog 0 S (QR Tryz.prog [(4, none)] (RF44 res)) [(5, vi a4)] h) :
  ∀ {m : Nat} {a4 a0 : Int} (b6 : m = Int.toNat ((((ix x0.Tables x1).Keys).length : Int) - a0)) (a7 : 0 ≤ a0) {h : Heap} (M0 : Mem h []), mo x0 x1 K0 m a4 a0 = res → RC Tryz.prog (.loop da7) S (QR Tryz.prog [(4, none)] (RF44 res)) [(19, vi a0), (18, vi (((ix x0.Tables x1).Keys).length : Int)), (17, a6), (5, vi a4)] h := by
 have a3 := b0
 try simp only [qa] at a3
 intro m
 induction m with
 | zero =>
  intro a4 a0 b6 a7 h M0 hres
  rw [mo] at hres
  refine bp (sR (bN cj rfl rfl (nS (af ?_))))
  refine bf rfl ?_ ?_ <;> intro c <;> try simp only [qa] at c
  ·omega
  refine db (dn (cq ?_))
  exact wP (b9 (Mem.sub M0 .slnil) hres) rfl
 | succ m ih =>
  intro a4 a0 b6 a7 h M0 hres
  rw [mo] at hres
  refine bp (sR (bN cj rfl rfl (nS (af ?_))))
  refine bf rfl ?_ ?_ <;> intro c <;> try simp only [qa] at c
  rotate_left
  ·omega
  refine ax (ai (af (bc (sR ?_))))
  obtain ⟨a9, b1, a2⟩ := ct (i := a0) a5 (by omega) (by omega)
  refine ae (bg rfl rfl b1) (lD a2 rfl rfl rfl ?_)
  refine dh (x := .agg [vi 0, vi 0, vi 0]) M0 rfl rfl (fun b4 b3 b8 b2 => ?_)
  refine de (k := 0) (v := a9) b2 rfl rfl rfl (TR.cnt bn.t a2) (fun b5 a1 => ?_)
  replace a1 : Mem b5 [⟨.op b4 b3 0, 112, 3, [a9]⟩] := a1
  refine nS (bc (sR (ae (bm rfl) (ae (cm (k := 0) a1 rfl rfl (bn.g_Kind a2)) (bN md rfl rfl (mV rfl (nS ?_)))))))
  refine cv hres rfl ?_ ?_ <;> clear hres <;> intro c hres <;> try simp only [qa] at c
  ·refine sR (mI rfl (nS ?_))
   exact rR hres rfl rfl rfl
  ·refine sR (ae (bm rfl) (ae (cm (k := 0) a1 rfl rfl (bn.g_Kind a2)) (bN md rfl rfl (mV rfl (nS ?_)))))
   refine cv hres rfl ?_ ?_ <;> clear hres <;> intro c hres <;> try simp only [qa] at c
   ·refine ah (mI rfl (aw (da (da (ai (ah (bN dp rfl rfl (mV rfl ?_))))))))
    refine aw (cf ?_)
    have hbd := df a5
    have hinc : wr (a0 + 1) = a0 + 1 := dg (by omega) (by omega)
    erw [hinc]
    exact wC (ih   (by omega) (by omega) (Mem.sub a1 (.cons _ .slnil)) hres) rfl
   ·refine ax (da (da (ai (ah (bN dp rfl rfl (mV rfl (aw (cf ?_))))))))
    have hbd := df a5
    have hinc : wr (a0 + 1) = a0 + 1 := dg (by omega) (by omega)
    erw [hinc]
    exact wC (ih   (by omega) (by omega) (Mem.sub a1 (.cons _ .slnil)) hres) rfl

theorem cn9 {x0 : ab} {x1 : Int} {v0 : PV} (r0 : ab.t.R x0 v0) : FnR Tryz.prog 44 [v0, vi x1] (vi (iw x0 x1)) := by
 refine fnS (R := RF44) ce8 (fun _ h => h) rfl fun res hres => ?_
 unfold iw at hres
 refine sR (ae (di rfl (TR.cnt ab.t r0)) (mI rfl (nS (af (sR (lD r0 rfl rfl rfl (mV rfl ?_)))))))
 obtain ⟨b6, a1, hres⟩ := cw hres
 have a4 := bi1 (x1 := x1) r0 
 rw [a1] at a4
 refine cL a4 rfl rfl (aj (TR.clo ab.t r0) (aj rfl bb)) (ae (gu rfl) (nS ?_))
 refine cv hres rfl ?_ ?_ <;> clear hres <;> intro a0 hres <;> have a2 := a0 <;> try simp only [qa] at a2
 ·refine sR (mI rfl (nS ?_))
  exact rR hres rfl rfl rfl
 ·refine ax (ai (sR (mI rfl (nS (af (sR ?_))))))
  obtain ⟨b4, a6, a5⟩ := ab.g_Tables r0
  refine fA rfl a6 (lD a5 rfl rfl rfl (mV rfl ?_))
  obtain ⟨b5, b0, a8⟩ := ct (i := x1) a5 (by ((have hk := tv (by assumption) (by assumption); omega))) (by ((have hk := tv (by assumption) (by assumption); omega)))
  refine ae (bg rfl rfl b0) ?_
  obtain ⟨b2, a9, a3⟩ := az.g_Keys a8
  refine fA rfl a9 (lD a3 rfl rfl rfl (ae (cg rfl (bq a3 Tryz.underlying85 _)) (mI rfl (nS (bc ?_)))))
  refine wC (af8 a1 a0 a3 ?_  rfl (by omega) (Mem.sub (Mem.nil ⟨0, []⟩) .slnil) hres) rfl
  ·intro a7 b3 b1 hres
   refine dv (ai (sR (mV rfl (mV rfl (nS ?_)))))
   exact rR hres rfl rfl rfl

def RF77 (res : Bool) (r : PV) : Prop := r = vb res
theorem zq {S : List Fr} {res : Bool} {x0 : ab} {x1 x2 : Int} {a4 : Bool} {a2 : PV} (a8 : gc x0 x1 = a4) (a6 : (!a4) = false) (a5 : (tSl tI).R ((ix x0.Tables x1).Actions) a2) {K0 : Unit → Bool}
  (a9 : K0 () = res → PX Tryz.prog 0 S (QR Tryz.prog [(6, none)] (RF77 res)) [] ⟨0, []⟩) :
  ∀ {m : Nat} {a0 : Int} (a7 : m = Int.toNat ((((ix x0.Tables x1).Actions).length : Int) - a0)) (a3 : 0 ≤ a0), kp x0 x1 x2 K0 m a0 = res → RC Tryz.prog (.loop db8) S (QR Tryz.prog [(6, none)] (RF77 res)) [(20, vi a0), (19, vi (((ix x0.Tables x1).Actions).length : Int)), (18, a2), (2, vi x2)] ⟨0, []⟩ := by
 have a1 := a6
 try simp only [qa] at a1
 intro m
 induction m with
 | zero =>
  intro a0 a7 a3 hres
  rw [kp] at hres
  refine bp (sR (bN cj rfl rfl (nS (af ?_))))
  refine bf rfl ?_ ?_ <;> intro c <;> try simp only [qa] at c
  ·omega
  refine db (dn (cq ?_))
  exact wP (a9  hres) rfl
 | succ m ih =>
  intro a0 a7 a3 hres
  rw [kp] at hres
  refine bp (sR (bN cj rfl rfl (nS (af ?_))))
  refine bf rfl ?_ ?_ <;> intro c <;> try simp only [qa] at c
  rotate_left
  ·omega
  refine ax (ai (af (bc (sR (ae (bg rfl rfl (slI a5 (by omega) (by omega))) (lR rfl rfl rfl (mV rfl (nR ?_))))))))
  refine mV rfl (mV rfl (bN md rfl rfl (nS ?_)))
  refine cv hres rfl ?_ ?_ <;> clear hres <;> intro c hres <;> try simp only [qa] at c
  ·refine sR (mB rfl (nS ?_))
   exact rR hres rfl rfl rfl
  ·refine ax (da (ai (ah (bN dp rfl rfl (mV rfl (aw (cf ?_)))))))
   have hbd := df a5
   have hinc : wr (a0 + 1) = a0 + 1 := dg (by omega) (by omega)
   erw [hinc]
   exact wC (ih   (by omega) (by omega) hres) rfl

theorem ds2 {x0 : ab} {x1 x2 : Int} {v0 : PV} (r0 : ab.t.R x0 v0) : FnR Tryz.prog 77 [v0, vi x1, vi x2] (vb (qx x0 x1 x2)) := by
 refine fnS (R := RF77) bx0 (fun _ h => h) rfl fun res hres => ?_
 unfold qx at hres
 refine sR (ae (di rfl (TR.cnt ab.t r0)) (mB rfl (nS (af (sR (lD r0 rfl rfl rfl (mV rfl ?_)))))))
 obtain ⟨b3, a1, hres⟩ := cw hres
 have a4 := bi1 (x1 := x1) r0 
 rw [a1] at a4
 refine cL a4 rfl rfl (aj (TR.clo ab.t r0) (aj rfl bb)) (ae (gu rfl) (nS ?_))
 refine cv hres rfl ?_ ?_ <;> clear hres <;> intro a0 hres <;> have a2 := a0 <;> try simp only [qa] at a2
 ·refine sR (mB rfl (nS ?_))
  exact rR hres rfl rfl rfl
 ·refine ax (ai (af (sR ?_)))
  obtain ⟨b1, a6, a5⟩ := ab.g_Tables r0
  refine fA rfl a6 (lD a5 rfl rfl rfl (mV rfl ?_))
  obtain ⟨b2, a9, a7⟩ := ct (i := x1) a5 (by ((have hk := tv (by assumption) (by assumption); omega))) (by ((have hk := tv (by assumption) (by assumption); omega)))
  refine ae (bg rfl rfl a9) ?_
  obtain ⟨b0, a8, a3⟩ := az.g_Actions a7
  refine fA rfl a8 (lD a3 rfl rfl rfl (ae (cg rfl (bq a3 Tryz.underlying29 _)) (mI rfl (nS (bc ?_)))))
  refine wC (zq a1 a0 a3 ?_  rfl (by omega) hres) rfl
  ·intro  hres
   refine dv (ai (sR (mB rfl (nS ?_))))
   exact rR hres rfl rfl rfl

def RF40 (res : Int) (r : PV) : Prop := r = vi res
theorem ad4 {S : List Fr} {res : Int} {x0 : ab} {x1 : Int} {x2 : au} {b2 : Int × Int} {a1 : (List Int)} {v0 v2 a8 b0 b4 : PV} (c9 : gx x0 x1 = b2) (b6 : (!decide (b2.2 = 0)) = false) (c5 : (tSl bn.t).R ((ix x0.Tables x1).Keys) a8) (c7 : dj x0 x1 = a1) (c4 : (tSl tI).R a1 b0) (c8 : (0 ≤ x1 ∧ x1 < x0.Tables.length) ∧ a1.length = (ix x0.Tables x1).Keys.length ∧ a1.length ≤ 6) (b3 : (!decide ((x2.Keys.length : Int) = (((ix x0.Tables x1).Keys).length : Int))) = false) (a6 : (tSl ba.t).R x2.Keys b4) {K0 : Unit → Int}
  (d1 : ∀ {h : Heap} (M0 : Mem h []), K0 () = res → PX Tryz.prog 0 S (QR Tryz.prog [(6, none)] (RF40 res)) [(1, vi x1), (3, .fp v0), (5, .fp v2)] h) :
  ∀ {m : Nat} {a0 : Int} (c6 : m = Int.toNat ((x2.Keys.length : Int) - a0)) (a9 : 0 ≤ a0) {h : Heap} (M0 : Mem h []), mz x0 x1 x2 a1 K0 m a0 = res → RC Tryz.prog (.loop cq1) S (QR Tryz.prog [(6, none)] (RF40 res)) [(41, vi a0), (40, vi (x2.Keys.length : Int)), (39, b4), (10, b0), (9, a8), (5, .fp v2), (3, .fp v0), (1, vi x1)] h := by
 have a5 := b6
 try simp only [qa] at a5
 have a4 := b3
 try simp only [qa] at a4
 intro m
 induction m with
 | zero =>
  intro a0 c6 a9 h M0 hres
  rw [mz] at hres
  refine bp (sR (bN cj rfl rfl (nS (af ?_))))
  refine bf rfl ?_ ?_ <;> intro c <;> try simp only [qa] at c
  ·omega
  refine db (dn (cq ?_))
  exact wP (d1 (Mem.sub M0 .slnil) hres) rfl
 | succ m ih =>
  intro a0 c6 a9 h M0 hres
  rw [mz] at hres
  refine bp (sR (bN cj rfl rfl (nS (af ?_))))
  refine bf rfl ?_ ?_ <;> intro c <;> try simp only [qa] at c
  rotate_left
  ·omega
  refine ax (ai (af (bc (sR (mV rfl ?_)))))
  obtain ⟨b5, c1, a2⟩ := ct (i := a0) a6 (by omega) (by omega)
  refine ae (bg rfl rfl c1) (lD a2 rfl rfl rfl ?_)
  refine dh (x := .agg [dx 0#32, dx 0#32]) M0 rfl rfl (fun c0 b9 d2 b8 => ?_)
  refine mV rfl ?_
  refine de (k := 0) (v := b5) b8 rfl rfl rfl (TR.cnt ba.t a2) (fun c2 a3 => ?_)
  replace a3 : Mem c2 [⟨.op c0 b9 0, 127, 2, [b5]⟩] := a3
  refine nR (ae (fe (k := 0) a3 rfl rfl (TR.agg ba.t a2)) (mV rfl (mV rfl ?_)))
  obtain ⟨d3, b7, c3⟩ := ct (i := a0) c5 (by omega) (by omega)
  refine ae (bg rfl rfl b7) (fL rfl (bn.g_Kind c3) rfl rfl (mV rfl (mV rfl (ae (bg rfl rfl (slI c4 (by omega) (by omega))) (lR rfl rfl rfl ?_)))))
  obtain ⟨d0, a7, hres⟩ := cw hres
  have b1 := dt2 (x1 := (ix ((ix x0.Tables x1).Keys) a0).Kind) (x2 := (ix a1 a0)) a2 
  rw [a7] at b1
  refine cL b1 rfl rfl (aj (TR.clo ba.t a2) (aj rfl (aj rfl bb))) (mV rfl (nR (mV rfl (bN jq rfl rfl (nS ?_)))))
  refine cv hres rfl ?_ ?_ <;> clear hres <;> intro c hres <;> try simp only [qa] at c
  ·refine sR (mV rfl (mV rfl (nS ?_)))
   exact rR hres rfl rfl rfl
  ·refine ax (da (ai (ah (bN dp rfl rfl (mV rfl (aw (cf ?_)))))))
   have hbd := df a6
   have hinc : wr (a0 + 1) = a0 + 1 := dg (by omega) (by omega)
   erw [hinc]
   exact wC (ih   (by omega) (by omega) (Mem.sub a3 (.cons _ .slnil)) hres) rfl

theorem ds8 {x0 : ab} {x1 : Int} {x2 : au} {v0 v2 : PV} (r0 : ab.t.R x0 v0) (r2 : au.t.R x2 v2) : FnR Tryz.prog 40 [v0, vi x1, v2] (vi (od x0 x1 x2)) := by
 refine fnS (R := RF40) cb9 (fun _ h => h) rfl fun res hres => ?_
 unfold od at hres
 refine sR (ae (di rfl (TR.cnt ab.t r0)) (ae (di rfl (TR.cnt au.t r2)) (mI rfl (nS (af (sR (lD r0 rfl rfl rfl (mV rfl ?_))))))))
 obtain ⟨d8, a3, hres⟩ := cw hres
 have b0 := bh1 (x1 := x1) r0 
 rw [a3] at b0
 refine cL b0 rfl rfl (aj (TR.clo ab.t r0) (aj rfl bb)) (mV rfl (xT rfl rfl (xT rfl rfl (mV rfl (mV rfl (nR (mV rfl (bN jq rfl rfl ?_))))))))
 refine nS ?_
 refine cv hres rfl ?_ ?_ <;> clear hres <;> intro a2 hres <;> have a5 := a2 <;> try simp only [qa] at a5
 ·refine sR (mV rfl (mV rfl (nS ?_)))
  exact rR hres rfl rfl rfl
 ·refine ax (ai (sR ?_))
  obtain ⟨d5, c3, c0⟩ := ab.g_Tables r0
  refine fA rfl c3 (lD c0 rfl rfl rfl (mV rfl ?_))
  obtain ⟨d7, c4, c9⟩ := ct (i := x1) c0 (by ((have hk := tck (by assumption) (by assumption); omega))) (by ((have hk := tck (by assumption) (by assumption); omega)))
  refine ae (bg rfl rfl c4) ?_
  obtain ⟨d2, d0, a7⟩ := az.g_Keys c9
  refine fA rfl d0 (lD a7 rfl rfl rfl (lD r0 rfl rfl rfl (mV rfl ?_)))
  obtain ⟨b8, a0, hres⟩ := cw hres
  obtain ⟨d4, c7, b4⟩ := av9 (x1 := x1) r0 
  rw [a0] at b4
  have b7 : (0 ≤ x1 ∧ x1 < x0.Tables.length) ∧ b8.length = (ix x0.Tables x1).Keys.length ∧ b8.length ≤ 6 := eck (by assumption) (by assumption) a0
  refine cL c7 rfl rfl (aj (TR.clo ab.t r0) (aj rfl bb)) (mV rfl (mV rfl (nS (af (sR ?_)))))
  obtain ⟨e0, c6, b5⟩ := au.g_Keys r2
  refine fA rfl c6 (lD b5 rfl rfl rfl (ae (cg rfl (bq b5 Tryz.underlying38 _)) (mV rfl (ae (cg rfl (bq a7 Tryz.underlying85 _)) (bN jq rfl rfl (nS ?_))))))
  refine cv hres rfl ?_ ?_ <;> clear hres <;> intro a1 hres <;> have a4 := a1 <;> try simp only [qa] at a4
  ·refine sR (mI rfl (nS ?_))
   exact rR hres rfl rfl rfl
  ·refine ax (ai (af (sR (gL (au.g_Keys r2) rfl rfl rfl fun d9 b1 => (ae (cg rfl (bq b1 Tryz.underlying38 _)) (mI rfl (nS (bc ?_))))))))
   refine wC (ad4 a3 a2 a7 a0 b4 b7 a1 b1 ?_  rfl (by omega) (Mem.sub (Mem.nil ⟨0, []⟩) .slnil) hres) rfl
   ·intro e2 e4 hres
    refine dv (ai (af (bc (sR (fL rfl (au.g_Priority r2) rfl rfl (bN cj rfl rfl (mV rfl ?_)))))))
    refine bw 4 (d := 69) (v := vb ((decide (x2.Priority < 0)) || (decide (255 < x2.Priority)))) ?_ ?_
    ·intro S Q r
     cases b2 : (decide (x2.Priority < 0))
     ·intro k
      have a6 := b2
      try simp only [qa] at a6
      refine ak rfl rfl (bz rfl (au.g_Priority r2)) (ak rfl rfl (br rfl rfl rfl) (ak rfl rfl (ay rfl rfl gh) ?_))
      exact gK rfl rfl rfl rfl rfl k
     ·exact gN 3 rfl rfl rfl rfl rfl rfl
    refine mV rfl (nS ?_)
    refine cv hres rfl ?_ ?_ <;> clear hres <;> intro c hres <;> try simp only [qa] at c
    ·refine sR (mI rfl (nS ?_))
     exact rR hres rfl rfl rfl
    ·refine sR (fL rfl (au.g_Priority r2) rfl rfl (bN jq rfl rfl (mV rfl ?_)))
     refine bw 5 (d := 79) (v := vb ((!decide (x2.Priority = 0)) && (!decide ((iw x0 x1) = 3)))) ?_ ?_
     ·intro S Q r
      cases b3 : (!decide (x2.Priority = 0))
      ·exact gN 4 rfl rfl rfl rfl rfl rfl
      ·intro k
       have a8 := b3
       try simp only [qa] at a8
       refine ak rfl rfl (br rfl (TR.cnt ab.t r0) (TR.agg ab.t r0)) (ak rfl rfl (aq rfl) ?_)
       have c5 := cn9 (x1 := x1) r0 
       refine io rfl rfl (qt rfl rfl (aj (TR.clo ab.t r0) (aj rfl bb)) c5) (ak rfl rfl (ay rfl rfl jq) ?_)
       exact gK rfl rfl rfl rfl rfl k
     refine mV rfl (nS ?_)
     refine cv hres rfl ?_ ?_ <;> clear hres <;> intro c hres <;> try simp only [qa] at c
     ·refine sR (mI rfl (nS ?_))
      exact rR hres rfl rfl rfl
     ·refine sR (lD r0 rfl rfl rfl (mV rfl ?_))
      obtain ⟨e3, d1, c8⟩ := au.g_Call r2
      refine fA rfl d1 (fL rfl (bh.g_Action c8) rfl rfl ?_)
      obtain ⟨d6, c1, hres⟩ := cw hres
      have b9 := ds2 (x1 := x1) (x2 := x2.Call.Action) r0 
      rw [c1] at b9
      refine cL b9 rfl rfl (aj (TR.clo ab.t r0) (aj rfl (aj rfl bb))) (ae (gu rfl) (mV rfl (nS ?_)))
      refine cv hres rfl ?_ ?_ <;> clear hres <;> intro c hres <;> try simp only [qa] at c
      ·refine sR (mI rfl (nS ?_))
       exact rR hres rfl rfl rfl
      ·refine ax (da (ai (sR (lD r0 rfl rfl rfl (gL (au.g_Call r2) rfl rfl rfl fun d3 a9 => ?_)))))
       obtain ⟨e1, b6, hres⟩ := cw hres
       have c2 := bz1  r0 a9 
       rw [b6] at c2
       refine cL c2 rfl rfl (aj (TR.clo ab.t r0) (aj (TR.clo bh.t a9) bb)) (mV rfl (nS ?_))
       exact rR hres rfl rfl rfl

def RF42 (res : Bool) (r : PV) : Prop := r = vb res
theorem zj {S : List Fr} {res : Bool} {x0 : au} {x1 : au} {v1 a6 : PV} (r1 : au.t.R x1 v1) (a5 : ((!decide (x0.Priority = x1.Priority)) || (!decide ((x0.Keys.length : Int) = (x1.Keys.length : Int)))) = false) (a9 : (tSl ba.t).R x0.Keys a6) {K0 : Unit → Bool}
  (c0 : ∀ {h : Heap} (M0 : Mem h []), K0 () = res → PX Tryz.prog 0 S (QR Tryz.prog [(4, none)] (RF42 res)) [] h) :
  ∀ {m : Nat} {a0 : Int} (b7 : m = Int.toNat ((x0.Keys.length : Int) - a0)) (a7 : 0 ≤ a0) {h : Heap} (M0 : Mem h []), lc x0 x1 K0 m a0 = res → RC Tryz.prog (.loop dg1) S (QR Tryz.prog [(4, none)] (RF42 res)) [(24, vi a0), (23, vi (x0.Keys.length : Int)), (22, a6), (3, .fp v1)] h := by
 have a3 := a5
 try simp only [qa] at a3
 intro m
 induction m with
 | zero =>
  intro a0 b7 a7 h M0 hres
  rw [lc] at hres
  refine bp (sR (bN cj rfl rfl (nS (af ?_))))
  refine bf rfl ?_ ?_ <;> intro c <;> try simp only [qa] at c
  ·omega
  refine db (dn (cq ?_))
  exact wP (c0 (Mem.sub M0 .slnil) hres) rfl
 | succ m ih =>
  intro a0 b7 a7 h M0 hres
  rw [lc] at hres
  refine bp (sR (bN cj rfl rfl (nS (af ?_))))
  refine bf rfl ?_ ?_ <;> intro c <;> try simp only [qa] at c
  rotate_left
  ·omega
  refine ax (ai (af (bc (sR (mV rfl ?_)))))
  obtain ⟨a8, b0, a2⟩ := ct (i := a0) a9 (by omega) (by omega)
  refine ae (bg rfl rfl b0) (lD a2 rfl rfl rfl ?_)
  refine dh (x := .agg [dx 0#32, dx 0#32]) M0 rfl rfl (fun b4 b2 b9 b1 => ?_)
  refine mV rfl ?_
  refine de (k := 0) (v := a8) b1 rfl rfl rfl (TR.cnt ba.t a2) (fun b5 a1 => ?_)
  replace a1 : Mem b5 [⟨.op b4 b2 0, 127, 2, [a8]⟩] := a1
  refine nR (ae (fe (k := 0) a1 rfl rfl (TR.agg ba.t a2)) (gL (au.g_Keys r1) rfl rfl rfl fun b8 b6 => (mV rfl ?_)))
  obtain ⟨c1, b3, a4⟩ := ct (i := a0) b6 (by omega) (by omega)
  refine ae (bg rfl rfl b3) (lD a4 rfl rfl rfl (bN (ba.neq_127 a2 a4) rfl rfl (nS ?_)))
  refine cv hres rfl ?_ ?_ <;> clear hres <;> intro c hres <;> try simp only [qa] at c
  ·refine sR (mB rfl (nS ?_))
   exact rR hres rfl rfl rfl
  ·refine ax (da (ai (ah (bN dp rfl rfl (mV rfl (aw (cf ?_)))))))
   have hbd := df a9
   have hinc : wr (a0 + 1) = a0 + 1 := dg (by omega) (by omega)
   erw [hinc]
   exact wC (ih   (by omega) (by omega) (Mem.sub a1 (.cons _ .slnil)) hres) rfl

theorem dt9 {x0 : au} {x1 : au} {v0 v1 : PV} (r0 : au.t.R x0 v0) (r1 : au.t.R x1 v1) : FnR Tryz.prog 42 [v0, v1] (vb (jm x0 x1)) := by
 refine fnS (R := RF42) cj4 (fun _ h => h) rfl fun res hres => ?_
 unfold jm at hres
 refine sR (ae (di rfl (TR.cnt au.t r0)) (ae (di rfl (TR.cnt au.t r1)) (mB rfl (nS (af (sR (fL rfl (au.g_Priority r0) rfl rfl (fL rfl (au.g_Priority r1) rfl rfl ?_))))))))
 refine bN jq rfl rfl (mV rfl ?_)
 refine bw 8 (d := 20) (v := vb ((!decide (x0.Priority = x1.Priority)) || (!decide ((x0.Keys.length : Int) = (x1.Keys.length : Int))))) ?_ ?_
 ·intro S Q r
  cases a6 : (!decide (x0.Priority = x1.Priority))
  ·intro k
   have a2 := a6
   try simp only [qa] at a2
   obtain ⟨b0, a9, a1⟩ := au.g_Keys r0
   refine ak rfl rfl (bz rfl a9) (ak rfl rfl (br rfl (TR.cnt (tSl ba.t) a1) (TR.agg (tSl ba.t) a1)) (ak rfl rfl (cg rfl (bq a1 Tryz.underlying38 _)) ?_))
   obtain ⟨b4, a7, a5⟩ := au.g_Keys r1
   refine ak rfl rfl (bz rfl a7) (ak rfl rfl (br rfl (TR.cnt (tSl ba.t) a5) (TR.agg (tSl ba.t) a5)) (ak rfl rfl (cg rfl (bq a5 Tryz.underlying38 _)) (ak rfl rfl (ay rfl rfl jq) ?_)))
   exact gK rfl rfl rfl rfl rfl k
  ·exact gN 7 rfl rfl rfl rfl rfl rfl
 refine nS ?_
 refine cv hres rfl ?_ ?_ <;> clear hres <;> intro a0 hres <;> have a3 := a0 <;> try simp only [qa] at a3
 ·refine sR (mB rfl (nS ?_))
  exact rR hres rfl rfl rfl
 ·refine ax (ai (af (sR ?_)))
  obtain ⟨b2, a8, a4⟩ := au.g_Keys r0
  refine fA rfl a8 (lD a4 rfl rfl rfl (ae (cg rfl (bq a4 Tryz.underlying38 _)) (mI rfl (nS (bc ?_)))))
  refine wC (zj r1 a0 a4 ?_  rfl (by omega) (Mem.sub (Mem.nil ⟨0, []⟩) .slnil) hres) rfl
  ·intro b1 b3 hres
   refine dv (ai (sR (mB rfl (nS ?_))))
   exact rR hres rfl rfl rfl

def RF53 (res : Int) (r : PV) : Prop := r = vi res
theorem af0 {S : List Fr} {res : Int} {x0 : ab} {x1 : Int} {a1 : (List Int)} {a4 : PV} (a7 : dj x0 x1 = a1) (a3 : (tSl tI).R a1 a4) {K0 : Int → Int}
  (a8 : ∀ {a2 : Int}, K0 a2 = res → PX Tryz.prog 0 S (QR Tryz.prog [(4, none)] (RF53 res)) [(5, vi a2)] ⟨0, []⟩) :
  ∀ {m : Nat} {a2 a0 : Int} (a6 : m = Int.toNat ((a1.length : Int) - a0)) (a5 : 0 ≤ a0), oi a1 K0 m a2 a0 = res → RC Tryz.prog (.loop dc0) S (QR Tryz.prog [(4, none)] (RF53 res)) [(12, vi a0), (11, vi (a1.length : Int)), (10, a4), (5, vi a2)] ⟨0, []⟩ := by
 intro m
 induction m with
 | zero =>
  intro a2 a0 a6 a5 hres
  rw [oi] at hres
  refine bp (sR (bN cj rfl rfl (nS (af ?_))))
  refine bf rfl ?_ ?_ <;> intro c <;> try simp only [qa] at c
  ·omega
  refine db (dn (cq ?_))
  exact wP (a8  hres) rfl
 | succ m ih =>
  intro a2 a0 a6 a5 hres
  rw [oi] at hres
  refine bp (sR (bN cj rfl rfl (nS (af ?_))))
  refine bf rfl ?_ ?_ <;> intro c <;> try simp only [qa] at c
  rotate_left
  ·omega
  refine ax (ai (af (bc (sR (ae (bg rfl rfl (slI a3 (by omega) (by omega))) (lR rfl rfl rfl (mV rfl (nS ?_))))))))
  refine ah (mV rfl (mV rfl (bN dp rfl rfl (mV rfl (aw (da (ai (ah ?_))))))))
  refine bN dp rfl rfl (mV rfl (aw (cf ?_)))
  have hbd := df a3
  have hinc : wr (a0 + 1) = a0 + 1 := dg (by omega) (by omega)
  erw [hinc]
  exact wC (ih   (by omega) (by omega) hres) rfl

theorem ec7 {x0 : ab} {x1 : Int} {v0 : PV} (r0 : ab.t.R x0 v0) : FnR Tryz.prog 53 [v0, vi x1] (vi (ld x0 x1)) := by
 refine fnS (R := RF53) ck4 (fun _ h => h) rfl fun res hres => ?_
 unfold ld at hres
 refine sR (ae (di rfl (TR.cnt ab.t r0)) (mI rfl (nR (mI rfl (nS (af (sR (lD r0 rfl rfl rfl ?_))))))))
 refine mV rfl ?_
 obtain ⟨a5, a0, hres⟩ := cw hres
 obtain ⟨a4, a2, a1⟩ := av9 (x1 := x1) r0 
 rw [a0] at a1
 refine cL a2 rfl rfl (aj (TR.clo ab.t r0) (aj rfl bb)) (ae (cg rfl (bq a1 Tryz.underlying29 _)) (mI rfl (nS (bc ?_))))
 refine wC (af0 a0 a1 ?_  rfl (by omega) hres) rfl
 ·intro a3 hres
  refine dv (ai (sR (mV rfl (mV rfl (nS ?_)))))
  exact rR hres rfl rfl rfl

def RF54 (res : aa) (r : PV) : Prop := aa.t.R res r
theorem ae0 {S : List Fr} {res : aa} {x0 : au} {x1 : List Int} {v1 b5 : PV} {a6 a5 a4 a7 : Nat} (r1 : (tSl tI).R x1 v1) (hl : x0.Keys.length ≤ x1.length) (hW : ∀ j : Int, 0 ≤ j → j < x1.length → 0 ≤ ix x1 j) (b7 : (tSl ba.t).R x0.Keys b5) {K0 : aa → aa}
  (c5 : ∀ {a1 : aa} {a2 : PV} (a3 : aa.t.R a1 a2) {h : Heap} (M0 : Mem h [⟨.op a4 a7 0, 99, 2, [a2]⟩, ⟨.op a6 a5 0, 99, 2, [.agg [bd 0#64, bd 0#64]]⟩]), K0 a1 = res → PX Tryz.prog 0 S (QR Tryz.prog [(4, some (2, true))] (RF54 res)) [(4, .op a6 a5 0), (5, .op a4 a7 0)] h) :
  ∀ {m : Nat} {a0 : Int} {a1 : aa} {a2 : PV} (a3 : aa.t.R a1 a2) (c4 : m = Int.toNat ((x0.Keys.length : Int) - a0)) (b6 : 0 ≤ a0) {h : Heap} (M0 : Mem h [⟨.op a4 a7 0, 99, 2, [a2]⟩, ⟨.op a6 a5 0, 99, 2, [.agg [bd 0#64, bd 0#64]]⟩]), my x0 x1 K0 m a0 a1 = res → RC Tryz.prog (.loop di4) S (QR Tryz.prog [(4, some (2, true))] (RF54 res)) [(11, vi a0), (10, vi (x0.Keys.length : Int)), (9, b5), (5, .op a4 a7 0), (4, .op a6 a5 0), (1, v1)] h := by
 intro m
 induction m with
 | zero =>
  intro a0 a1 a2 a3 c4 b6 h M0 hres
  rw [my] at hres
  refine bp (sR (bN cj rfl rfl (nS (af ?_))))
  refine bf rfl ?_ ?_ <;> intro c <;> try simp only [qa] at c
  ·omega
  refine db (dn (cq ?_))
  exact wP (c5 a3 (Mem.sub M0 (.cons_cons _ (.cons_cons _ .slnil))) hres) rfl
 | succ m ih =>
  intro a0 a1 a2 a3 c4 b6 h M0 hres
  rw [my] at hres
  refine bp (sR (bN cj rfl rfl (nS (af ?_))))
  refine bf rfl ?_ ?_ <;> intro c <;> try simp only [qa] at c
  rotate_left
  ·omega
  refine ax (ai (af (bc (sR (mV rfl ?_)))))
  obtain ⟨b1, b8, b0⟩ := ct (i := a0) b7 (by omega) (by omega)
  refine ae (bg rfl rfl b8) (lD b0 rfl rfl rfl ?_)
  refine dh (x := .agg [dx 0#32, dx 0#32]) M0 rfl rfl (fun b4 b2 c6 c1 => ?_)
  refine mV rfl ?_
  refine de (k := 0) (v := b1) c1 rfl rfl rfl (TR.cnt ba.t b0) (fun c3 a8 => ?_)
  replace a8 : Mem c3 [⟨.op b4 b2 0, 127, 2, [b1]⟩, ⟨.op a4 a7 0, 99, 2, [a2]⟩, ⟨.op a6 a5 0, 99, 2, [.agg [bd 0#64, bd 0#64]]⟩] := a8
  refine nR (ae (bm rfl) (ae (cm (k := 1) a8 rfl rfl (aa.g_Value a3)) (mV rfl (mV rfl (ae (bg rfl rfl (slI r1 (by omega) (by omega))) (lR rfl rfl rfl (ae (ay (a := bd a1.Value) (b := vi (ix x1 a0)) rfl rfl (aj7 (by exact hW _ (by omega) (by omega)))) (ae (bm rfl) ?_))))))))
  refine ae (cm (k := 0) a8 rfl rfl (ba.g_Value b0)) (ae (qw (a := dx ((ix x0.Keys a0).Value)) rfl (c_wd Tryz.underlying64 Tryz.underlying97)) (ae (ay (a := bd (a1.Value <<< (ix x1 a0).toNat)) (b := bd (BitVec.setWidth 64 ((ix x0.Keys a0).Value))) rfl rfl d_or) (ae (bm rfl) ?_)))
  have b9 := a3
  subst b9
  refine gw (k := 1) (v := bd ((a1.Value <<< (ix x1 a0).toNat) ||| (BitVec.setWidth 64 ((ix x0.Keys a0).Value)))) a8 rfl rfl rfl rfl rfl (by ((simp only [List.length_cons, List.length_nil]; omega))) (fun c2 a9 => ?_)
  replace a9 : Mem c2 [⟨.op b4 b2 0, 127, 2, [b1]⟩, ⟨.op a4 a7 0, 99, 2, [.agg [bd ((a1.Value <<< (ix x1 a0).toNat) ||| (BitVec.setWidth 64 ((ix x0.Keys a0).Value))), bd a1.Mask]]⟩, ⟨.op a6 a5 0, 99, 2, [.agg [bd 0#64, bd 0#64]]⟩] := a9
  refine nS (ah (ae (bm rfl) (ae (cm (k := 1) a9 rfl rfl rfl) (mV rfl (mV rfl (ae (bg rfl rfl (slI r1 (by omega) (by omega))) (lR rfl rfl rfl (ae (ay (a := bd a1.Mask) (b := vi (ix x1 a0)) rfl rfl (aj7 (by exact hW _ (by omega) (by omega)))) ?_))))))))
  refine ae (bm rfl) (ae (cm (k := 0) a9 rfl rfl (ba.g_Mask b0)) (ae (qw (a := dx ((ix x0.Keys a0).Mask)) rfl (c_wd Tryz.underlying64 Tryz.underlying97)) (ae (ay (a := bd (a1.Mask <<< (ix x1 a0).toNat)) (b := bd (BitVec.setWidth 64 ((ix x0.Keys a0).Mask))) rfl rfl d_or) (ae (bm rfl) ?_))))
  refine gw (k := 1) (v := bd ((a1.Mask <<< (ix x1 a0).toNat) ||| (BitVec.setWidth 64 ((ix x0.Keys a0).Mask)))) a9 rfl rfl rfl rfl rfl (by ((simp only [List.length_cons, List.length_nil]; omega))) (fun c0 b3 => ?_)
  replace b3 : Mem c0 [⟨.op b4 b2 0, 127, 2, [b1]⟩, ⟨.op a4 a7 0, 99, 2, [.agg [bd ((a1.Value <<< (ix x1 a0).toNat) ||| (BitVec.setWidth 64 ((ix x0.Keys a0).Value))), bd ((a1.Mask <<< (ix x1 a0).toNat) ||| (BitVec.setWidth 64 ((ix x0.Keys a0).Mask)))]]⟩, ⟨.op a6 a5 0, 99, 2, [.agg [bd 0#64, bd 0#64]]⟩] := b3
  refine aw (da (ai (ah (bN dp rfl rfl (mV rfl (aw (cf ?_)))))))
  have hbd := df b7
  have hinc : wr (a0 + 1) = a0 + 1 := dg (by omega) (by omega)
  erw [hinc]
  exact wC (ih  rfl (by omega) (by omega) (Mem.sub b3 (.cons _ (.cons_cons _ (.cons_cons _ .slnil)))) hres) rfl

theorem co6 {x0 : au} {x1 : List Int} {v0 v1 : PV} (r0 : au.t.R x0 v0) (r1 : (tSl tI).R x1 v1) (hl : x0.Keys.length ≤ x1.length) (hW : ∀ j : Int, 0 ≤ j → j < x1.length → 0 ≤ ix x1 j) : ∃ r, FnR Tryz.prog 54 [v0, v1] r ∧ aa.t.R (ji x0 x1) r := by
 refine fnT (R := RF54) ca0 rfl fun res hres => ?_
 unfold ji at hres
 refine sR (ae (di rfl (TR.cnt au.t r0)) ?_)
 refine dh (x := .agg [bd 0#64, bd 0#64]) (Mem.nil ⟨0, []⟩) rfl rfl (fun a8 a7 b3 b0 => ?_)
 refine nR ?_
 refine dh (x := .agg [bd 0#64, bd 0#64]) b0 rfl rfl (fun b2 a9 b7 b1 => ?_)
 refine nS (af (sR (gL (au.g_Keys r0) rfl rfl rfl fun b5 a5 => (ae (cg rfl (bq a5 Tryz.underlying38 _)) (mI rfl (nS (bc ?_)))))))
 have b4 : aa.t.R ({ Value := 0#64, Mask := 0#64 } : aa) (.agg [bd 0#64, bd 0#64]) := rfl
 refine wC (ae0 r1 hl hW a5 ?_  rfl rfl (by omega) (Mem.sub b1 (.cons_cons _ (.cons_cons _ .slnil))) hres) rfl
 ·intro a3 a1 a0 b6 a4 hres
  refine dv (ai (sR (ae (fe (k := 0) a4 rfl rfl (TR.agg aa.t a0)) ?_)))
  refine de (k := 1) (v := a1) a4 rfl rfl rfl (TR.cnt aa.t a0) (fun a6 a2 => ?_)
  replace a2 : Mem a6 [⟨.op b2 a9 0, 99, 2, [a1]⟩, ⟨.op a8 a7 0, 99, 2, [a1]⟩] := a2
  refine nS ?_
  subst hres
  exact dk (.cell rfl (ie (k := 1) a2 rfl (TR.agg aa.t a0)) .nil) (cd (TR.clo aa.t a0)) a0

end Go.Proofs.YthdnpgpnodgicaaGreat
