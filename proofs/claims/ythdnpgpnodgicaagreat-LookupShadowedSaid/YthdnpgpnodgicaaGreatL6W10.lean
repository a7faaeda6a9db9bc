/-
 The code of each function does what its plain program says.
-/
import Derived.Test.YthdnpgpnodgicaaGreatL6W9
set_option linter.unusedVariables false
set_option linter.unusedSimpArgs false
set_option maxRecDepth 100000
namespace Go.Proofs.YthdnpgpnodgicaaGreat
open Go Go.Pb Go.RowKit
def RF21 (res : Bool) (r : PV) : Prop := r = vb res
theorem xp {S : List Fr} {res : Bool} {x0 x1 : List Int} {v0 v1 : PV} (r0 : (tSl tI).R x0 v0) (r1 : (tSl tI).R x1 v1) (a3 : (!decide ((x0.length : Int) = (x1.length : Int))) = false) {K0 : Unit → Bool}
  (a5 : K0 () = res → PX Tryz.prog 0 S (QR Tryz.prog [(4, none)] (RF21 res)) [] ⟨0, []⟩) :
  ∀ {m : Nat} {a0 : Int} (a4 : m = Int.toNat ((x0.length : Int) - a0)) (a2 : 0 ≤ a0), ju x0 x1 K0 m a0 = res → RC Tryz.prog (.loop dc5) S (QR Tryz.prog [(4, none)] (RF21 res)) [(5, vi a0), (1, v1), (0, v0)] ⟨0, []⟩ := by
 have a1 := a3
 try simp only [qa] at a1
 intro m
 induction m with
 | zero =>
  intro a0 a4 a2 hres
  rw [ju] at hres
  refine bp (af (sR (mV rfl (mV rfl (ae (cg rfl (bq r0 Tryz.underlying29 _)) (bN cj rfl rfl (nS ?_)))))))
  refine bf rfl ?_ ?_ <;> intro c <;> try simp only [qa] at c
  ·omega
  refine db (dn (cq ?_))
  exact wP (a5  hres) rfl
 | succ m ih =>
  intro a0 a4 a2 hres
  rw [ju] at hres
  refine bp (af (sR (mV rfl (mV rfl (ae (cg rfl (bq r0 Tryz.underlying29 _)) (bN cj rfl rfl (nS ?_)))))))
  refine bf rfl ?_ ?_ <;> intro c <;> try simp only [qa] at c
  rotate_left
  ·omega
  refine ax (ai (af (bc (sR (mV rfl (mV rfl (ae (bg rfl rfl (slI r0 (by omega) (by omega))) (lR rfl rfl rfl ?_))))))))
  refine mV rfl (mV rfl (ae (bg rfl rfl (slI r1 (by omega) (by omega))) (lR rfl rfl rfl (bN jq rfl rfl (nS ?_)))))
  refine cv hres rfl ?_ ?_ <;> clear hres <;> intro c hres <;> try simp only [qa] at c
  ·refine sR (mB rfl (nS ?_))
   exact rR hres rfl rfl rfl
  ·refine ax (da (ai (ah (mV rfl (bN dp rfl rfl (mV rfl (aw (cf ?_))))))))
   have hbd := df r0
   have hinc : wr (a0 + 1) = a0 + 1 := dg (by omega) (by omega)
   erw [hinc]
   exact wC (ih   (by omega) (by omega) hres) rfl

theorem dr2 {x0 x1 : List Int} {v0 v1 : PV} (r0 : (tSl tI).R x0 v0) (r1 : (tSl tI).R x1 v1) : FnR Tryz.prog 21 [v0, v1] (vb (pv x0 x1)) := by
 refine fnS (R := RF21) cn7 (fun _ h => h) rfl fun res hres => ?_
 unfold pv at hres
 refine sR (mB rfl (nS (af (sR (mV rfl (ae (cg rfl (bq r0 Tryz.underlying29 _)) (mV rfl (ae (cg rfl (bq r1 Tryz.underlying29 _)) ?_))))))))
 refine bN jq rfl rfl (nS ?_)
 refine cv hres rfl ?_ ?_ <;> clear hres <;> intro a0 hres <;> have a1 := a0 <;> try simp only [qa] at a1
 ·refine sR (mB rfl (nS ?_))
  exact rR hres rfl rfl rfl
 ·refine ax (ai (af (sR (mI rfl (nS (bc ?_))))))
  refine wC (xp r0 r1 a0 ?_  rfl (by omega) hres) rfl
  ·intro  hres
   refine dv (ai (sR (mB rfl (nS ?_))))
   exact rR hres rfl rfl rfl

def RF6 (res : Bool) (r : PV) : Prop := r = vb res
theorem er1 {x0 : co} {v0 : PV} (r0 : co.t.R x0 v0) : FnR Tryz.prog 6 [v0] (vb (lq x0)) := by
 refine fnS (R := RF6) eg3 (fun _ h => h) rfl fun res hres => ?_
 unfold lq at hres
 refine sR (ae (di rfl (TR.cnt co.t r0)) (mB rfl (nS (af (sR (lD r0 rfl rfl rfl ?_))))))
 obtain ⟨c9, c2, hres⟩ := cw hres
 have a8 := eb6  r0 
 rw [c2] at a8
 refine cL a8 rfl rfl (aj (TR.clo co.t r0) bb) (nS ?_)
 refine cv hres rfl ?_ ?_ <;> clear hres <;> intro c hres <;> try simp only [qa] at c
 ·refine sR ?_
  obtain ⟨d1, c1, hres⟩ := cw hres
  have b4 := cf7   
  rw [c1] at b4
  refine cL b4 rfl rfl bb (mV rfl (nS ?_))
  exact rR hres rfl rfl rfl
 ·refine ax (ai (sR (gL (co.g_Program r0) rfl rfl rfl fun c8 b5 => (fL rfl (co.g_Table r0) rfl rfl (gL (co.g_Rows r0) rfl rfl rfl fun c5 b9 => ?_)))))
  obtain ⟨a4, b7, hres⟩ := cw hres
  obtain ⟨c6, b2, a3⟩ := dt1 (x1 := x0.Table) b5 b9 (by exact tl (by assumption) (by assumption)) (by exact (tlb (by assumption) (by assumption)).2.1) (by exact (tlb (by assumption) (by assumption)).1)
  rw [b7] at b2 a3
  refine cL b2 rfl rfl (aj (TR.clo ab.t b5) (aj rfl (aj (TR.clo (tSl av.t) b9) bb))) (mV rfl (xT rfl rfl (xT rfl rfl (mV rfl (mV rfl (nR (gL (co.g_Program r0) rfl rfl rfl fun d0 b6 => (fL rfl (co.g_Table r0) rfl rfl ?_))))))))
  refine gL (co.g_Rows r0) rfl rfl rfl fun c7 b0 => ?_
  obtain ⟨a2, b1, hres⟩ := cw hres
  obtain ⟨c4, a7, a5⟩ := du7 (x1 := x0.Table) b6 b0 (by (have hk := tlb (by assumption) (by assumption); omega))
  rw [b1] at a7 a5
  refine cL a7 rfl rfl (aj (TR.clo ab.t b6) (aj rfl (aj (TR.clo (tSl av.t) b0) bb))) (mV rfl (xT rfl rfl (xT rfl rfl (mV rfl (mV rfl (nR (mV rfl (mV rfl ?_))))))))
  obtain ⟨a0, a9, hres⟩ := cw hres
  have c0 := dr2  a3 a5 
  rw [a9] at c0
  refine cL c0 rfl rfl (aj (TR.clo (tSl tI) a3) (aj (TR.clo (tSl tI) a5) bb)) (mV rfl ?_)
  refine bw 4 (d := 37) (v := vb (a0 && (decide (a4.2 = a2.2)))) ?_ ?_
  ·intro S Q r
   cases b8 : a0
   ·exact gN 3 rfl rfl rfl rfl rfl rfl
   ·intro k
    have a1 := b8
    try simp only [qa] at a1
    refine ak rfl rfl (aq rfl) (ak rfl rfl (aq rfl) (ak rfl rfl (ay rfl rfl md) ?_))
    exact gK rfl rfl rfl rfl rfl k
  refine mV rfl ?_
  refine bw 2 (d := 40) (v := vb ((a0 && (decide (a4.2 = a2.2))) && (pm))) ?_ ?_
  ·intro S Q r
   cases b3 : (a0 && (decide (a4.2 = a2.2)))
   ·exact gN 1 rfl rfl rfl rfl rfl rfl
   ·intro k
    have a6 := b3
    try simp only [qa] at a6
    have c3 := cf7   
    refine io rfl rfl (qt rfl rfl bb c3) ?_
    exact gK rfl rfl rfl rfl rfl k
  refine mV rfl (nS ?_)
  exact rR hres rfl rfl rfl

end Go.Proofs.YthdnpgpnodgicaaGreat
