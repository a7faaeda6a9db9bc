/-
 The code of each function does what its plain program says.
-/
import Derived.Test.YthdnpgpnodgicaaGreatL4W3
set_option linter.unusedVariables false
set_option linter.unusedSimpArgs false
set_option maxRecDepth 100000
namespace Go.Proofs.YthdnpgpnodgicaaGreat
open Go Go.Pb Go.RowKit
def RF92 (res : Int) (r : PV) : Prop := r = vi res
theorem zh {S : List Fr} {res : Int} {x0 : aa} {x1 : Int} {b0 : Bool} {v0 : PV} (r0 : aa.t.R x0 v0) (c6 : fb x0 x1 = b0) (a4 : (!b0) = false) {K0 : Int → Int}
  (d5 : ∀ {a1 : Int}, K0 a1 = res → PX Tryz.prog 0 S (QR Tryz.prog [(4, none)] (RF92 res)) [(5, vi a1)] ⟨0, []⟩) :
  ∀ {m : Nat} {a1 a0 : Int} (c7 : m = Int.toNat ((((ix x0.Tables x1).Keys).length : Int) - a0)) (a8 : 0 ≤ a0), fj x0 x1 K0 m a1 a0 = res → RC Tryz.prog (.loop cp2) S (QR Tryz.prog [(4, none)] (RF92 res)) [(6, vi a0), (5, vi a1), (2, .fp v0), (1, vi x1)] ⟨0, []⟩ := by
 have a2 := a4
 try simp only [qa] at a2
 intro m
 induction m with
 | zero =>
  intro a1 a0 c7 a8 hres
  rw [fj] at hres
  refine br (ae (sR (mV rfl ?_)))
  obtain ⟨d0, b9, a5⟩ := aa.g_Tables r0
  refine fA rfl b9 (lD a5 rfl rfl rfl (mV rfl ?_))
  obtain ⟨d8, c3, b4⟩ := cr (i := x1) a5 (by first | omega | (have hk := bc (by assumption) (by assumption); omega) | (have hk := tck (by assumption) (by assumption); omega) | (have hk := rtck (by assumption) (by assumption); omega) | (have hk := eck (by assumption) (by assumption) (by assumption); omega) | (have hk := tv (by assumption) (by assumption); omega) | (have hk := rtv (by assumption) (by assumption); omega)) (by first | omega | (have hk := bc (by assumption) (by assumption); omega) | (have hk := tck (by assumption) (by assumption); omega) | (have hk := rtck (by assumption) (by assumption); omega) | (have hk := eck (by assumption) (by assumption) (by assumption); omega) | (have hk := tv (by assumption) (by assumption); omega) | (have hk := rtv (by assumption) (by assumption); omega))
  refine ab (bn rfl rfl c3) ?_
  obtain ⟨d2, b7, a7⟩ := ax.g_Keys b4
  refine fA rfl b7 (lD a7 rfl rfl rfl (ab (ca rfl (bq a7 Tryz.underlying85 _)) (bN ck rfl rfl (nS ?_))))
  refine bf rfl ?_ ?_ <;> intro c <;> try simp only [qa] at c
  ·omega
  refine di (dv (ct ?_))
  exact wP (d5  hres) rfl
 | succ m ih =>
  intro a1 a0 c7 a8 hres
  rw [fj] at hres
  refine br (ae (sR (mV rfl (gL (aa.g_Tables r0) rfl rfl rfl fun c9 c0 => (mV rfl ?_)))))
  obtain ⟨d3, c4, c5⟩ := cr (i := x1) c0 (by first | omega | (have hk := bc (by assumption) (by assumption); omega) | (have hk := tck (by assumption) (by assumption); omega) | (have hk := rtck (by assumption) (by assumption); omega) | (have hk := eck (by assumption) (by assumption) (by assumption); omega) | (have hk := tv (by assumption) (by assumption); omega) | (have hk := rtv (by assumption) (by assumption); omega)) (by first | omega | (have hk := bc (by assumption) (by assumption); omega) | (have hk := tck (by assumption) (by assumption); omega) | (have hk := rtck (by assumption) (by assumption); omega) | (have hk := eck (by assumption) (by assumption) (by assumption); omega) | (have hk := tv (by assumption) (by assumption); omega) | (have hk := rtv (by assumption) (by assumption); omega))
  refine ab (bn rfl rfl c4) ?_
  obtain ⟨d1, b5, a3⟩ := ax.g_Keys c5
  refine fA rfl b5 (lD a3 rfl rfl rfl (ab (ca rfl (bq a3 Tryz.underlying85 _)) (bN ck rfl rfl (nS ?_))))
  refine bf rfl ?_ ?_ <;> intro c <;> try simp only [qa] at c
  rotate_left
  ·omega
  refine az (ah (ae (bh (ai (mV rfl ?_)))))
  obtain ⟨d6, b6, a9⟩ := aa.g_Tables r0
  refine fA rfl b6 (lD a9 rfl rfl rfl (mV rfl ?_))
  obtain ⟨d4, b1, b8⟩ := cr (i := x1) a9 (by first | omega | (have hk := bc (by assumption) (by assumption); omega) | (have hk := tck (by assumption) (by assumption); omega) | (have hk := rtck (by assumption) (by assumption); omega) | (have hk := eck (by assumption) (by assumption) (by assumption); omega) | (have hk := tv (by assumption) (by assumption); omega) | (have hk := rtv (by assumption) (by assumption); omega)) (by first | omega | (have hk := bc (by assumption) (by assumption); omega) | (have hk := tck (by assumption) (by assumption); omega) | (have hk := rtck (by assumption) (by assumption); omega) | (have hk := eck (by assumption) (by assumption) (by assumption); omega) | (have hk := tv (by assumption) (by assumption); omega) | (have hk := rtv (by assumption) (by assumption); omega))
  refine ab (bn rfl rfl b1) ?_
  obtain ⟨c8, b3, a6⟩ := ax.g_Keys b8
  refine fA rfl b3 (lD a6 rfl rfl rfl (mV rfl ?_))
  obtain ⟨d7, c1, b2⟩ := cr (i := a0) a6 (by first | omega | (have hk := bc (by assumption) (by assumption); omega) | (have hk := tck (by assumption) (by assumption); omega) | (have hk := rtck (by assumption) (by assumption); omega) | (have hk := eck (by assumption) (by assumption) (by assumption); omega) | (have hk := tv (by assumption) (by assumption); omega) | (have hk := rtv (by assumption) (by assumption); omega)) (by first | omega | (have hk := bc (by assumption) (by assumption); omega) | (have hk := tck (by assumption) (by assumption); omega) | (have hk := rtck (by assumption) (by assumption); omega) | (have hk := eck (by assumption) (by assumption) (by assumption); omega) | (have hk := tv (by assumption) (by assumption); omega) | (have hk := rtv (by assumption) (by assumption); omega))
  refine ab (bn rfl rfl c1) (fL rfl (bm.g_Kind b2) rfl rfl (ab (ca rfl (ac6 _ _)) (mV rfl (aw (dc (ah (ai (mV rfl ?_))))))))
  refine bN dz rfl rfl (mV rfl (aw (cq ?_)))
  have hbd := dm a3
  have hinc : wr (a0 + 1) = a0 + 1 := dt (by omega) (by omega)
  erw [hinc]
  exact wC (ih   (by omega) (by omega) hres) rfl

theorem cw8 {x0 : aa} {x1 : Int} {v0 : PV} (r0 : aa.t.R x0 v0) : FnR Tryz.prog 92 [v0, vi x1] (vi (ky x0 x1)) := by
 refine fnS (R := RF92) dj4 (fun _ h => h) rfl fun res hres => ?_
 unfold ky at hres
 refine sR (ab (db rfl (TR.cnt aa.t r0)) (mI rfl (nS (ae (sR (lD r0 rfl rfl rfl (mV rfl ?_)))))))
 obtain ⟨a5, a0, hres⟩ := cy hres
 have a3 := ba0 (x1 := x1) r0 
 rw [a0] at a3
 refine cL a3 rfl rfl (aq (TR.clo aa.t r0) (aq rfl bg)) (ab (ft rfl) (nS ?_))
 refine co hres rfl ?_ ?_ <;> clear hres <;> intro a1 hres <;> have a2 := a1 <;> try simp only [qa] at a2
 ·refine sR (mI rfl (nS ?_))
  exact rR hres rfl rfl rfl
 ·refine az (ah (sR (mI rfl (nS (ae (sR (mI rfl (nS ?_))))))))
  refine bh ?_
  refine wC (zh r0 a0 a1 ?_  rfl (by omega) hres) rfl
  ·intro a4 hres
   refine fa (ah (sR (mV rfl (mV rfl (nS ?_)))))
   exact rR hres rfl rfl rfl

def RF93 (res : Bool) (r : PV) : Prop := r = vb res
theorem dk9 {x0 : aa} {x1 x2 : Int} {v0 : PV} (r0 : aa.t.R x0 v0) : FnR Tryz.prog 93 [v0, vi x1, vi x2] (vb (oo x0 x1 x2)) := by
 refine fnS (R := RF93) dc0 (fun _ h => h) rfl fun res hres => ?_
 unfold oo at hres
 refine sR (ab (db rfl (TR.cnt aa.t r0)) (mB rfl (nR (lD r0 rfl rfl rfl (mV rfl ?_)))))
 obtain ⟨a6, a5, hres⟩ := cy hres
 have a4 := ba0 (x1 := x1) r0 
 rw [a5] at a4
 refine cL a4 rfl rfl (aq (TR.clo aa.t r0) (aq rfl bg)) (mV rfl ?_)
 refine bt 10 (d := 20) (v := vb (a6 && (decide (0 ≤ (fy ((ix x0.Tables x1).Actions) x2))))) ?_ ?_
 ·intro S Q r
  cases a3 : a6
  ·exact gN 9 rfl rfl rfl rfl rfl rfl
  ·intro k
   have a1 := a3
   try simp only [qa] at a1
   obtain ⟨b2, b0, a2⟩ := aa.g_Tables r0
   refine af rfl rfl (bb rfl b0) (af rfl rfl (ba rfl (TR.cnt (tSl ax.t) a2) (TR.agg (tSl ax.t) a2)) (af rfl rfl (ak rfl) ?_))
   obtain ⟨b4, b1, a8⟩ := cr (i := x1) a2 (by first | omega | (have hk := bc (by assumption) (by assumption); omega) | (have hk := tck (by assumption) (by assumption); omega) | (have hk := rtck (by assumption) (by assumption); omega) | (have hk := eck (by assumption) (by assumption) (by assumption); omega) | (have hk := tv (by assumption) (by assumption); omega) | (have hk := rtv (by assumption) (by assumption); omega)) (by first | omega | (have hk := bc (by assumption) (by assumption); omega) | (have hk := tck (by assumption) (by assumption); omega) | (have hk := rtck (by assumption) (by assumption); omega) | (have hk := eck (by assumption) (by assumption) (by assumption); omega) | (have hk := tv (by assumption) (by assumption); omega) | (have hk := rtv (by assumption) (by assumption); omega))
   refine af rfl rfl (bn rfl rfl b1) ?_
   obtain ⟨b3, a9, a0⟩ := ax.g_Actions a8
   refine af rfl rfl (bb rfl a9) (af rfl rfl (ba rfl (TR.cnt (tSl tI) a0) (TR.agg (tSl tI) a0)) (af rfl rfl (ak rfl) ?_))
   have a7 := ap6 (x1 := x2) a0 
   refine fw rfl rfl (mc rfl rfl (aq (TR.clo (tSl tI) a0) (aq rfl bg)) a7) (af rfl rfl (bd rfl rfl od) ?_)
   exact gK rfl rfl rfl rfl rfl k
 refine mV rfl (nS ?_)
 exact rR hres rfl rfl rfl

def RF48 (res : Int) (r : PV) : Prop := r = vi res
theorem xk {S : List Fr} {res : Int} {x0 : aa} {x1 : Int} {x2 : au} {a9 : Int × Int} {a1 : (List Int)} {v0 v2 b3 : PV} (r0 : aa.t.R x0 v0) (r2 : au.t.R x2 v2) (c4 : ep x0 x1 = a9) (a6 : (!decide (a9.2 = 0)) = false) (c3 : cx x0 x1 = a1) (a2 : (tSl tI).R a1 b3) (c6 : (0 ≤ x1 ∧ x1 < x0.Tables.length) ∧ a1.length = (ix x0.Tables x1).Keys.length ∧ a1.length ≤ 6) (a7 : (!decide ((x2.Keys.length : Int) = (a1.length : Int))) = false) {K0 : Unit → Int}
  (d2 : K0 () = res → PX Tryz.prog 0 S (QR Tryz.prog [(6, none)] (RF48 res)) [(1, vi x1), (3, .fp v0), (5, .fp v2)] ⟨0, []⟩) :
  ∀ {m : Nat} {a0 : Int} (c5 : m = Int.toNat ((a1.length : Int) - a0)) (b0 : 0 ≤ a0), jd x0 x1 x2 a1 K0 m a0 = res → RC Tryz.prog (.loop cg7) S (QR Tryz.prog [(6, none)] (RF48 res)) [(10, vi a0), (9, b3), (5, .fp v2), (3, .fp v0), (1, vi x1)] ⟨0, []⟩ := by
 have a3 := a6
 try simp only [qa] at a3
 have a5 := a7
 try simp only [qa] at a5
 intro m
 induction m with
 | zero =>
  intro a0 c5 b0 hres
  rw [jd] at hres
  refine br (ae (sR (mV rfl (mV rfl (ab (ca rfl (bq a2 Tryz.underlying29 _)) (bN ck rfl rfl (nS ?_)))))))
  refine bf rfl ?_ ?_ <;> intro c <;> try simp only [qa] at c
  ·omega
  refine di (dv (ct ?_))
  exact wP (d2  hres) rfl
 | succ m ih =>
  intro a0 c5 b0 hres
  rw [jd] at hres
  refine br (ae (sR (mV rfl (mV rfl (ab (ca rfl (bq a2 Tryz.underlying29 _)) (bN ck rfl rfl (nS ?_)))))))
  refine bf rfl ?_ ?_ <;> intro c <;> try simp only [qa] at c
  rotate_left
  ·omega
  refine az (ah (ae (bh (sR (gL (au.g_Keys r2) rfl rfl rfl fun d0 c0 => (mV rfl ?_))))))
  obtain ⟨c9, b6, a4⟩ := cr (i := a0) c0 (by first | omega | (have hk := bc (by assumption) (by assumption); omega) | (have hk := tck (by assumption) (by assumption); omega) | (have hk := rtck (by assumption) (by assumption); omega) | (have hk := eck (by assumption) (by assumption) (by assumption); omega) | (have hk := tv (by assumption) (by assumption); omega) | (have hk := rtv (by assumption) (by assumption); omega)) (by first | omega | (have hk := bc (by assumption) (by assumption); omega) | (have hk := tck (by assumption) (by assumption); omega) | (have hk := rtck (by assumption) (by assumption); omega) | (have hk := eck (by assumption) (by assumption) (by assumption); omega) | (have hk := tv (by assumption) (by assumption); omega) | (have hk := rtv (by assumption) (by assumption); omega))
  refine ab (bn rfl rfl b6) (lD a4 rfl rfl rfl (mV rfl (mV rfl (ab (bn rfl rfl (slI a2 (by first | omega | (have hk := bc (by assumption) (by assumption); omega) | (have hk := tck (by assumption) (by assumption); omega) | (have hk := rtck (by assumption) (by assumption); omega) | (have hk := eck (by assumption) (by assumption) (by assumption); omega) | (have hk := tv (by assumption) (by assumption); omega) | (have hk := rtv (by assumption) (by assumption); omega)) (by first | omega | (have hk := bc (by assumption) (by assumption); omega) | (have hk := tck (by assumption) (by assumption); omega) | (have hk := rtck (by assumption) (by assumption); omega) | (have hk := eck (by assumption) (by assumption) (by assumption); omega) | (have hk := tv (by assumption) (by assumption); omega) | (have hk := rtv (by assumption) (by assumption); omega)))) (lR rfl rfl rfl ?_)))))
  obtain ⟨d3, b8, b1⟩ := aa.g_Tables r0
  refine fA rfl b8 (lD b1 rfl rfl rfl (mV rfl ?_))
  obtain ⟨d1, b4, b9⟩ := cr (i := x1) b1 (by first | omega | (have hk := bc (by assumption) (by assumption); omega) | (have hk := tck (by assumption) (by assumption); omega) | (have hk := rtck (by assumption) (by assumption); omega) | (have hk := eck (by assumption) (by assumption) (by assumption); omega) | (have hk := tv (by assumption) (by assumption); omega) | (have hk := rtv (by assumption) (by assumption); omega)) (by first | omega | (have hk := bc (by assumption) (by assumption); omega) | (have hk := tck (by assumption) (by assumption); omega) | (have hk := rtck (by assumption) (by assumption); omega) | (have hk := eck (by assumption) (by assumption) (by assumption); omega) | (have hk := tv (by assumption) (by assumption); omega) | (have hk := rtv (by assumption) (by assumption); omega))
  refine ab (bn rfl rfl b4) (gL (ax.g_Keys b9) rfl rfl rfl fun c7 b7 => (mV rfl ?_))
  obtain ⟨d4, c1, b5⟩ := cr (i := a0) b7 (by first | omega | (have hk := bc (by assumption) (by assumption); omega) | (have hk := tck (by assumption) (by assumption); omega) | (have hk := rtck (by assumption) (by assumption); omega) | (have hk := eck (by assumption) (by assumption) (by assumption); omega) | (have hk := tv (by assumption) (by assumption); omega) | (have hk := rtv (by assumption) (by assumption); omega)) (by first | omega | (have hk := bc (by assumption) (by assumption); omega) | (have hk := tck (by assumption) (by assumption); omega) | (have hk := rtck (by assumption) (by assumption); omega) | (have hk := eck (by assumption) (by assumption) (by assumption); omega) | (have hk := tv (by assumption) (by assumption); omega) | (have hk := rtv (by assumption) (by assumption); omega))
  refine ab (bn rfl rfl c1) (fL rfl (bm.g_Kind b5) rfl rfl ?_)
  obtain ⟨c8, a8, hres⟩ := cy hres
  have b2 := df3 (x1 := (ix a1 a0)) (x2 := (ix ((ix x0.Tables x1).Keys) a0).Kind) a4 
  rw [a8] at b2
  refine cL b2 rfl rfl (aq (TR.clo ay.t a4) (aq rfl (aq rfl bg))) (mV rfl (nR (mV rfl (bN jc rfl rfl (nS ?_)))))
  refine co hres rfl ?_ ?_ <;> clear hres <;> intro c hres <;> try simp only [qa] at c
  ·refine sR (mV rfl (mV rfl (nS ?_)))
   exact rR hres rfl rfl rfl
  ·refine az (dc (ah (ai (mV rfl (bN dz rfl rfl (mV rfl (aw (cq ?_))))))))
   have hbd := dm a2
   have hinc : wr (a0 + 1) = a0 + 1 := dt (by omega) (by omega)
   erw [hinc]
   exact wC (ih   (by omega) (by omega) hres) rfl

theorem da2 {x0 : aa} {x1 : Int} {x2 : au} {v0 v2 : PV} (r0 : aa.t.R x0 v0) (r2 : au.t.R x2 v2) : FnR Tryz.prog 48 [v0, vi x1, v2] (vi (jv x0 x1 x2)) := by
 refine fnS (R := RF48) dj8 (fun _ h => h) rfl fun res hres => ?_
 unfold jv at hres
 refine sR (ab (db rfl (TR.cnt aa.t r0)) (ab (db rfl (TR.cnt au.t r2)) (mI rfl (nR (lD r0 rfl rfl rfl (mV rfl ?_))))))
 obtain ⟨c8, a3, hres⟩ := cy hres
 have a9 := ax4 (x1 := x1) r0 
 rw [a3] at a9
 refine cL a9 rfl rfl (aq (TR.clo aa.t r0) (aq rfl bg)) (mV rfl (xT rfl rfl (xT rfl rfl (mV rfl (mV rfl (nS (ae (sR ?_))))))))
 refine mV rfl (bN jc rfl rfl (nS ?_))
 refine co hres rfl ?_ ?_ <;> clear hres <;> intro a1 hres <;> have a4 := a1 <;> try simp only [qa] at a4
 ·refine sR (mV rfl (mV rfl (nS ?_)))
  exact rR hres rfl rfl rfl
 ·refine az (ah (sR (lD r0 rfl rfl rfl (mV rfl ?_))))
  obtain ⟨b6, a0, hres⟩ := cy hres
  obtain ⟨d2, c4, a6⟩ := da6 (x1 := x1) r0 
  rw [a0] at a6
  have b9 : (0 ≤ x1 ∧ x1 < x0.Tables.length) ∧ b6.length = (ix x0.Tables x1).Keys.length ∧ b6.length ≤ 6 := reck (by assumption) (by assumption) a0
  refine cL c4 rfl rfl (aq (TR.clo aa.t r0) (aq rfl bg)) (mV rfl (nS (ae (sR ?_))))
  obtain ⟨c9, c5, b4⟩ := au.g_Keys r2
  refine fA rfl c5 (lD b4 rfl rfl rfl (ab (ca rfl (bq b4 Tryz.underlying38 _)) (mV rfl (ab (ca rfl (bq a6 Tryz.underlying29 _)) (bN jc rfl rfl (nS ?_))))))
  refine co hres rfl ?_ ?_ <;> clear hres <;> intro a2 hres <;> have a7 := a2 <;> try simp only [qa] at a7
  ·refine sR (mI rfl (nS ?_))
   exact rR hres rfl rfl rfl
  ·refine az (ah (ae (sR (mI rfl (nS (bh ?_))))))
   refine wC (xk r0 r2 a3 a1 a0 a6 b9 a2 ?_  rfl (by omega) hres) rfl
   ·intro  hres
    refine fa (ah (ae (bh (sR (fL rfl (au.g_Priority r2) rfl rfl (bN ck rfl rfl (mV rfl ?_)))))))
    refine bt 4 (d := 66) (v := vb ((decide (x2.Priority < 0)) || (decide (255 < x2.Priority)))) ?_ ?_
    ·intro S Q r
     cases b8 : (decide (x2.Priority < 0))
     ·intro k
      have a5 := b8
      try simp only [qa] at a5
      refine af rfl rfl (bb rfl (au.g_Priority r2)) (af rfl rfl (ba rfl rfl rfl) (af rfl rfl (bd rfl rfl gb) ?_))
      exact gK rfl rfl rfl rfl rfl k
     ·exact gN 3 rfl rfl rfl rfl rfl rfl
    refine mV rfl (nS ?_)
    refine co hres rfl ?_ ?_ <;> clear hres <;> intro c hres <;> try simp only [qa] at c
    ·refine sR (mI rfl (nS ?_))
     exact rR hres rfl rfl rfl
    ·refine sR (fL rfl (au.g_Priority r2) rfl rfl (bN gb rfl rfl (mV rfl ?_)))
     refine bt 5 (d := 76) (v := vb ((decide (0 < x2.Priority)) && (!decide ((ky x0 x1) = 3)))) ?_ ?_
     ·intro S Q r
      cases b5 : (decide (0 < x2.Priority))
      ·exact gN 4 rfl rfl rfl rfl rfl rfl
      ·intro k
       have a8 := b5
       try simp only [qa] at a8
       refine af rfl rfl (ba rfl (TR.cnt aa.t r0) (TR.agg aa.t r0)) (af rfl rfl (ak rfl) ?_)
       have c1 := cw8 (x1 := x1) r0 
       refine fw rfl rfl (mc rfl rfl (aq (TR.clo aa.t r0) (aq rfl bg)) c1) (af rfl rfl (bd rfl rfl jc) ?_)
       exact gK rfl rfl rfl rfl rfl k
     refine mV rfl (nS ?_)
     refine co hres rfl ?_ ?_ <;> clear hres <;> intro c hres <;> try simp only [qa] at c
     ·refine sR (mI rfl (nS ?_))
      exact rR hres rfl rfl rfl
     ·refine sR (lD r0 rfl rfl rfl (mV rfl ?_))
      obtain ⟨c7, c3, c0⟩ := au.g_Call r2
      refine fA rfl c3 (fL rfl (av.g_Action c0) rfl rfl ?_)
      obtain ⟨d1, b1, hres⟩ := cy hres
      have b2 := dk9 (x1 := x1) (x2 := x2.Call.Action) r0 
      rw [b1] at b2
      refine cL b2 rfl rfl (aq (TR.clo aa.t r0) (aq rfl (aq rfl bg))) (ab (ft rfl) (mV rfl (nS ?_)))
      refine co hres rfl ?_ ?_ <;> clear hres <;> intro c hres <;> try simp only [qa] at c
      ·refine sR (mI rfl (nS ?_))
       exact rR hres rfl rfl rfl
      ·refine az (dc (ah (sR (lD r0 rfl rfl rfl (gL (au.g_Call r2) rfl rfl rfl fun c6 b7 => ?_)))))
       obtain ⟨d0, b0, hres⟩ := cy hres
       have b3 := bm6  r0 b7 
       rw [b0] at b3
       refine cL b3 rfl rfl (aq (TR.clo aa.t r0) (aq (TR.clo av.t b7) bg)) (mV rfl (nS ?_))
       exact rR hres rfl rfl rfl

def RF16 (res : Int) (r : PV) : Prop := r = vi res
theorem xg {S : List Fr} {res : Int} {x0 : aa} {x1 : Int} {x2 : List am} {b4 : Int × Int} {a1 b2 : Int} {v0 v2 : PV} (r2 : (tSl am.t).R x2 v2) (c8 : ep x0 x1 = b4) (a8 : (!decide (b4.2 = 0)) = false) (d5 : 0 ≤ a1) (b1 : (decide (a1 < (x2.length : Int))) = true) (c7 : jv x0 x1 ((ix x2 a1).Entry) = b2) (b0 : (!decide (b2 = 0)) = false) {K2 : Unit → Int}
  (d4 : K2 () = res → PX Tryz.prog 2 S (QR Tryz.prog [(6, none)] (RF16 res)) [(1, vi x1), (2, v2), (3, .fp v0), (9, vi a1)] ⟨0, []⟩) :
  ∀ {m : Nat} {a0 : Int} (c9 : m = Int.toNat (a1 - a0)) (a9 : 0 ≤ a0), jz x2 a1 K2 m a0 = res → RC Tryz.prog (.loop cm6) S (QR Tryz.prog [(6, none)] (RF16 res)) [(10, vi a0), (9, vi a1), (3, .fp v0), (2, v2), (1, vi x1)] ⟨0, []⟩ := by
 have a4 := a8
 try simp only [qa] at a4
 have a6 := b1
 try simp only [qa] at a6
 have a7 := b0
 try simp only [qa] at a7
 intro m
 induction m with
 | zero =>
  intro a0 c9 a9 hres
  rw [jz] at hres
  refine br (ae (sR (mV rfl (mV rfl (bN ck rfl rfl (nS ?_))))))
  refine bf rfl ?_ ?_ <;> intro c <;> try simp only [qa] at c
  ·omega
  refine di (dv (ct ?_))
  exact wP (d4  hres) rfl
 | succ m ih =>
  intro a0 c9 a9 hres
  rw [jz] at hres
  refine br (ae (sR (mV rfl (mV rfl (bN ck rfl rfl (nS ?_))))))
  refine bf rfl ?_ ?_ <;> intro c <;> try simp only [qa] at c
  rotate_left
  ·omega
  refine az (ah (ae (bh (sR (mV rfl (mV rfl ?_))))))
  obtain ⟨d6, c0, c4⟩ := cr (i := a0) r2 (by first | omega | (have hk := bc (by assumption) (by assumption); omega) | (have hk := tck (by assumption) (by assumption); omega) | (have hk := rtck (by assumption) (by assumption); omega) | (have hk := eck (by assumption) (by assumption) (by assumption); omega) | (have hk := tv (by assumption) (by assumption); omega) | (have hk := rtv (by assumption) (by assumption); omega)) (by first | omega | (have hk := bc (by assumption) (by assumption); omega) | (have hk := tck (by assumption) (by assumption); omega) | (have hk := rtck (by assumption) (by assumption); omega) | (have hk := eck (by assumption) (by assumption) (by assumption); omega) | (have hk := tv (by assumption) (by assumption); omega) | (have hk := rtv (by assumption) (by assumption); omega))
  refine ab (bn rfl rfl c0) (fL rfl (am.g_ID c4) rfl rfl (mV rfl (mV rfl ?_)))
  obtain ⟨d2, b5, c1⟩ := cr (i := a1) r2 (by first | omega | (have hk := bc (by assumption) (by assumption); omega) | (have hk := tck (by assumption) (by assumption); omega) | (have hk := rtck (by assumption) (by assumption); omega) | (have hk := eck (by assumption) (by assumption) (by assumption); omega) | (have hk := tv (by assumption) (by assumption); omega) | (have hk := rtv (by assumption) (by assumption); omega)) (by first | omega | (have hk := bc (by assumption) (by assumption); omega) | (have hk := tck (by assumption) (by assumption); omega) | (have hk := rtck (by assumption) (by assumption); omega) | (have hk := eck (by assumption) (by assumption) (by assumption); omega) | (have hk := tv (by assumption) (by assumption); omega) | (have hk := rtv (by assumption) (by assumption); omega))
  refine ab (bn rfl rfl b5) (fL rfl (am.g_ID c1) rfl rfl (bN ld rfl rfl (mV rfl ?_)))
  refine bt 12 (d := 65) (v := vb ((decide (((ix x2 a0).ID) = ((ix x2 a1).ID))) || (gx ((ix x2 a0).Entry) ((ix x2 a1).Entry)))) ?_ ?_
  ·intro S Q r
   cases b3 : (decide (((ix x2 a0).ID) = ((ix x2 a1).ID)))
   ·intro k
    have a5 := b3
    try simp only [qa] at a5
    refine af rfl rfl (ak rfl) (af rfl rfl (ak rfl) ?_)
    obtain ⟨d7, c5, b7⟩ := cr (i := a0) r2 (by first | omega | (have hk := bc (by assumption) (by assumption); omega) | (have hk := tck (by assumption) (by assumption); omega) | (have hk := rtck (by assumption) (by assumption); omega) | (have hk := eck (by assumption) (by assumption) (by assumption); omega) | (have hk := tv (by assumption) (by assumption); omega) | (have hk := rtv (by assumption) (by assumption); omega)) (by first | omega | (have hk := bc (by assumption) (by assumption); omega) | (have hk := tck (by assumption) (by assumption); omega) | (have hk := rtck (by assumption) (by assumption); omega) | (have hk := eck (by assumption) (by assumption) (by assumption); omega) | (have hk := tv (by assumption) (by assumption); omega) | (have hk := rtv (by assumption) (by assumption); omega))
    refine af rfl rfl (bn rfl rfl c5) ?_
    obtain ⟨d3, b9, a2⟩ := am.g_Entry b7
    refine af rfl rfl (bb rfl b9) (af rfl rfl (ba rfl (TR.cnt au.t a2) (TR.agg au.t a2)) (af rfl rfl (ak rfl) (af rfl rfl (ak rfl) ?_)))
    obtain ⟨d1, b8, b6⟩ := cr (i := a1) r2 (by first | omega | (have hk := bc (by assumption) (by assumption); omega) | (have hk := tck (by assumption) (by assumption); omega) | (have hk := rtck (by assumption) (by assumption); omega) | (have hk := eck (by assumption) (by assumption) (by assumption); omega) | (have hk := tv (by assumption) (by assumption); omega) | (have hk := rtv (by assumption) (by assumption); omega)) (by first | omega | (have hk := bc (by assumption) (by assumption); omega) | (have hk := tck (by assumption) (by assumption); omega) | (have hk := rtck (by assumption) (by assumption); omega) | (have hk := eck (by assumption) (by assumption) (by assumption); omega) | (have hk := tv (by assumption) (by assumption); omega) | (have hk := rtv (by assumption) (by assumption); omega))
    refine af rfl rfl (bn rfl rfl b8) ?_
    obtain ⟨d0, c3, a3⟩ := am.g_Entry b6
    refine af rfl rfl (bb rfl c3) (af rfl rfl (ba rfl (TR.cnt au.t a3) (TR.agg au.t a3)) ?_)
    have c6 := bw5  a2 a3 
    refine fw rfl rfl (mc rfl rfl (aq (TR.clo au.t a2) (aq (TR.clo au.t a3) bg)) c6) ?_
    exact gK rfl rfl rfl rfl rfl k
   ·exact gN 11 rfl rfl rfl rfl rfl rfl
  refine nS ?_
  refine co hres rfl ?_ ?_ <;> clear hres <;> intro c hres <;> try simp only [qa] at c
  ·refine sR (mI rfl (nS ?_))
   exact rR hres rfl rfl rfl
  ·refine az (dc (ah (ai (mV rfl (bN dz rfl rfl (mV rfl (aw (cq ?_))))))))
   have hinc : wr (a0 + 1) = a0 + 1 := dt (by omega) (by have hk : x2.length ≤ 9223372036854775807 := r2.2; omega)
   erw [hinc]
   exact wC (ih   (by omega) (by omega) hres) rfl

theorem yh {S : List Fr} {res : Int} {x0 : aa} {x1 : Int} {x2 : List am} {b2 : Int × Int} {v0 v2 : PV} (r0 : aa.t.R x0 v0) (r2 : (tSl am.t).R x2 v2) (b1 : ep x0 x1 = b2) (a2 : (!decide (b2.2 = 0)) = false) {K0 : Unit → Int}
  (b8 : K0 () = res → PX Tryz.prog 0 S (QR Tryz.prog [(6, none)] (RF16 res)) [] ⟨0, []⟩) :
  ∀ {m : Nat} {a1 : Int} (b5 : m = Int.toNat ((x2.length : Int) - a1)) (a8 : 0 ≤ a1), gw x0 x1 x2 K0 m a1 = res → RC Tryz.prog (.loop cg0) S (QR Tryz.prog [(6, none)] (RF16 res)) [(9, vi a1), (3, .fp v0), (2, v2), (1, vi x1)] ⟨0, []⟩ := by
 have a5 := a2
 try simp only [qa] at a5
 intro m
 induction m with
 | zero =>
  intro a1 b5 a8 hres
  rw [gw] at hres
  refine br (ae (sR (mV rfl (mV rfl (ab (ca rfl (bq r2 Tryz.underlying32 _)) (bN ck rfl rfl (nS ?_)))))))
  refine bf rfl ?_ ?_ <;> intro c <;> try simp only [qa] at c
  ·omega
  refine di (dv (ct ?_))
  exact wP (b8  hres) rfl
 | succ m ih =>
  intro a1 b5 a8 hres
  rw [gw] at hres
  refine br (ae (sR (mV rfl (mV rfl (ab (ca rfl (bq r2 Tryz.underlying32 _)) (bN ck rfl rfl (nS ?_)))))))
  refine bf rfl (fun a0 => ?_) (fun a0 => ?_)
  ·have hgo := hres
   have a6 := a0
   try simp only [qa] at a6
   refine az (ah (ae (bh (sR (lD r0 rfl rfl rfl (mV rfl (mV rfl (mV rfl ?_))))))))
   obtain ⟨b6, b3, b4⟩ := cr (i := a1) r2 (by first | omega | (have hk := bc (by assumption) (by assumption); omega) | (have hk := tck (by assumption) (by assumption); omega) | (have hk := rtck (by assumption) (by assumption); omega) | (have hk := eck (by assumption) (by assumption) (by assumption); omega) | (have hk := tv (by assumption) (by assumption); omega) | (have hk := rtv (by assumption) (by assumption); omega)) (by first | omega | (have hk := bc (by assumption) (by assumption); omega) | (have hk := tck (by assumption) (by assumption); omega) | (have hk := rtck (by assumption) (by assumption); omega) | (have hk := eck (by assumption) (by assumption) (by assumption); omega) | (have hk := tv (by assumption) (by assumption); omega) | (have hk := rtv (by assumption) (by assumption); omega))
   refine ab (bn rfl rfl b3) (gL (am.g_Entry b4) rfl rfl rfl fun b9 b0 => ?_)
   obtain ⟨b7, a3, hres⟩ := cy hres
   have a9 := da2 (x1 := x1) r0 b0 
   rw [a3] at a9
   refine cL a9 rfl rfl (aq (TR.clo aa.t r0) (aq rfl (aq (TR.clo au.t b0) bg))) (mV rfl (nS (ae (sR (mV rfl (bN jc rfl rfl (nS ?_)))))))
   refine co hres rfl ?_ ?_ <;> clear hres <;> intro a4 hres <;> have a7 := a4 <;> try simp only [qa] at a7
   ·refine sR (mV rfl (mV rfl (nS ?_)))
    exact rR hres rfl rfl rfl
   ·refine az (ah (sR (mI rfl (nS (bh ?_)))))
    refine wC (xg r2 b1 a2 a8 a0 a3 a4 ?_  rfl (by omega) hres) rfl
    ·intro  hres
     refine fa (dc (ah (ai (mV rfl (bN dz rfl rfl (mV rfl (aw (cq ?_))))))))
     have hbd := dm r2
     have hinc : wr (a1 + 1) = a1 + 1 := dt (by omega) (by have hk : x2.length ≤ 9223372036854775807 := r2.2; omega)
     erw [hinc]
     exact wC (ih   (by omega) (by omega) hres) rfl
  ·exfalso
   try simp only [qa] at a0
   omega

theorem dh6 {x0 : aa} {x1 : Int} {x2 : List am} {v0 v2 : PV} (r0 : aa.t.R x0 v0) (r2 : (tSl am.t).R x2 v2) : FnR Tryz.prog 16 [v0, vi x1, v2] (vi (mz x0 x1 x2)) := by
 refine fnS (R := RF16) de7 (fun _ h => h) rfl fun res hres => ?_
 unfold mz at hres
 refine sR (ab (db rfl (TR.cnt aa.t r0)) (mI rfl (nR (lD r0 rfl rfl rfl (mV rfl ?_)))))
 obtain ⟨a4, a0, hres⟩ := cy hres
 have a3 := ax4 (x1 := x1) r0 
 rw [a0] at a3
 refine cL a3 rfl rfl (aq (TR.clo aa.t r0) (aq rfl bg)) (mV rfl (xT rfl rfl (xT rfl rfl (mV rfl (mV rfl (nS (ae (sR ?_))))))))
 refine mV rfl (bN jc rfl rfl (nS ?_))
 refine co hres rfl ?_ ?_ <;> clear hres <;> intro a1 hres <;> have a2 := a1 <;> try simp only [qa] at a2
 ·refine sR (mV rfl (mV rfl (nS ?_)))
  exact rR hres rfl rfl rfl
 ·refine az (ah (ae (sR (mI rfl (nS (bh ?_))))))
  refine wC (yh r0 r2 a0 a1 ?_  rfl (by omega) hres) rfl
  ·intro  hres
   refine fa (ah (sR (mI rfl (nS ?_))))
   exact rR hres rfl rfl rfl

def RF109 (res : Bool) (r : PV) : Prop := r = vb res
theorem bc8 {x0 : UInt8} : FnR Tryz.prog 109 [vu8 x0] (vb (jx x0)) := by
 refine fnS (R := RF109) bc4 (fun _ h => h) rfl fun res hres => ?_
 unfold jx at hres
 refine sR (mB rfl (nR (mV rfl (ab (bd (a := vu8 x0) (b := vu8 (97 : UInt8)) rfl rfl al1) (mV rfl ?_)))))
 refine bt 3 (d := 8) (v := vb ((decide ((97 : UInt8) ≤ x0)) && (decide (x0 ≤ (122 : UInt8))))) ?_ ?_
 ·intro S Q r
  cases a5 : (decide ((97 : UInt8) ≤ x0))
  ·exact gN 2 rfl rfl rfl rfl rfl rfl
  ·intro k
   have a2 := a5
   try simp only [qa] at a2
   refine af rfl rfl (ak rfl) (af rfl rfl (bd (a := vu8 x0) (b := vu8 (122 : UInt8)) rfl rfl ai0) ?_)
   exact gK rfl rfl rfl rfl rfl k
 refine mV rfl ?_
 refine bt 7 (d := 16) (v := vb (((decide ((97 : UInt8) ≤ x0)) && (decide (x0 ≤ (122 : UInt8)))) || ((decide ((65 : UInt8) ≤ x0)) && (decide (x0 ≤ (90 : UInt8)))))) ?_ ?_
 ·intro S Q r
  cases a3 : ((decide ((97 : UInt8) ≤ x0)) && (decide (x0 ≤ (122 : UInt8))))
  ·intro k
   have a1 := a3
   try simp only [qa] at a1
   refine af rfl rfl (ak rfl) (af rfl rfl (bd (a := vu8 x0) (b := vu8 (65 : UInt8)) rfl rfl al1) (af rfl rfl (ak rfl) ?_))
   refine bt 3 (d := 15) (v := vb ((decide ((65 : UInt8) ≤ x0)) && (decide (x0 ≤ (90 : UInt8))))) ?_ ?_
   ·intro S Q r
    cases a4 : (decide ((65 : UInt8) ≤ x0))
    ·intro k
     refine mh rfl rfl (mh rfl rfl (af (v := vb false) rfl rfl (lr rfl rfl rfl rfl) ?_))
     exact wD k rfl
    ·intro k
     have a0 := a4
     try simp only [qa] at a0
     refine af rfl rfl (ak rfl) (af rfl rfl (bd (a := vu8 x0) (b := vu8 (90 : UInt8)) rfl rfl ai0) (af (v := vb (decide (x0 ≤ (90 : UInt8)))) rfl rfl (lr rfl rfl rfl rfl) ?_))
     exact wD k rfl
   exact gK rfl rfl rfl rfl rfl k
  ·exact gN 6 rfl rfl rfl rfl rfl rfl
 refine mV rfl (nS ?_)
 exact rR hres rfl rfl rfl

def RF110 (res : Int) (r : PV) : Prop := r = vi res
theorem wq {S : List Fr} {res : Int} {x0 : List UInt8} {x1 : UInt8 → Bool} {v1 : PV} (r1 : (tFn Tryz.prog tU8 tB).R x1 v1) (hs : x0.length ≤ 1000) {K0 : Int → Int}
  (b0 : ∀ {a0 : Int}, K0 a0 = res → PX Tryz.prog 0 S (QR Tryz.prog [(4, none)] (RF110 res)) [(5, vi a0)] ⟨0, []⟩) :
  ∀ {m : Nat} {a0 : Int} (b1 : m = Int.toNat ((x0.length : Int) - a0)) (a7 : 0 ≤ a0), kf x0 x1 K0 m a0 = res → RC Tryz.prog (.loop bs5) S (QR Tryz.prog [(4, none)] (RF110 res)) [(5, vi a0), (1, v1), (0, vs x0)] ⟨0, []⟩ := by
 intro m
 induction m with
 | zero =>
  intro a0 b1 a7 hres
  rw [kf] at hres
  refine br (ae (sR (mV rfl (mV rfl (ab (ca rfl (mu Tryz.underlying9)) (bN ck rfl rfl (mV rfl ?_)))))))
  refine bt 6 (d := 16) (v := vb ((decide (a0 < (x0.length : Int))) && (x1 (ix x0 a0)))) ?_ ?_
  ·intro S Q r
   cases a6 : (decide (a0 < (x0.length : Int)))
   ·exact gN 5 rfl rfl rfl rfl rfl rfl
   ·intro k
    have a1 := a6
    try simp only [qa] at a1
    refine af rfl rfl (ak rfl) (af rfl rfl (ak rfl) (af rfl rfl (ak rfl) (af rfl rfl (pn rfl rfl (td Tryz.underlying9 (by first | omega | (have hk := bc (by assumption) (by assumption); omega) | (have hk := tck (by assumption) (by assumption); omega) | (have hk := rtck (by assumption) (by assumption); omega) | (have hk := eck (by assumption) (by assumption) (by assumption); omega) | (have hk := tv (by assumption) (by assumption); omega) | (have hk := rtv (by assumption) (by assumption); omega)) (by first | omega | (have hk := bc (by assumption) (by assumption); omega) | (have hk := tck (by assumption) (by assumption); omega) | (have hk := rtck (by assumption) (by assumption); omega) | (have hk := eck (by assumption) (by assumption) (by assumption); omega) | (have hk := tv (by assumption) (by assumption); omega) | (have hk := rtv (by assumption) (by assumption); omega)))) ?_)))
    refine aj8 rfl rfl rfl r1 rfl (show tU8.R (ix x0 a0) (vu8 (ix x0 a0)) from rfl) (fun a9 a3 => ?_)
    have a3 : a9 = vb (x1 (ix x0 a0)) := a3; subst a3
    exact gK rfl rfl rfl rfl rfl k
  refine nS ?_
  refine bf rfl ?_ ?_ <;> intro c <;> try simp only [qa] at c
  ·omega
  refine di (dv (ct ?_))
  exact wP (b0  hres) rfl
 | succ m ih =>
  intro a0 b1 a7 hres
  rw [kf] at hres
  refine br (ae (sR (mV rfl (mV rfl (ab (ca rfl (mu Tryz.underlying9)) (bN ck rfl rfl (mV rfl ?_)))))))
  refine bt 6 (d := 16) (v := vb ((decide (a0 < (x0.length : Int))) && (x1 (ix x0 a0)))) ?_ ?_
  ·intro S Q r
   cases a5 : (decide (a0 < (x0.length : Int)))
   ·exact gN 5 rfl rfl rfl rfl rfl rfl
   ·intro k
    have a2 := a5
    try simp only [qa] at a2
    refine af rfl rfl (ak rfl) (af rfl rfl (ak rfl) (af rfl rfl (ak rfl) (af rfl rfl (pn rfl rfl (td Tryz.underlying9 (by first | omega | (have hk := bc (by assumption) (by assumption); omega) | (have hk := tck (by assumption) (by assumption); omega) | (have hk := rtck (by assumption) (by assumption); omega) | (have hk := eck (by assumption) (by assumption) (by assumption); omega) | (have hk := tv (by assumption) (by assumption); omega) | (have hk := rtv (by assumption) (by assumption); omega)) (by first | omega | (have hk := bc (by assumption) (by assumption); omega) | (have hk := tck (by assumption) (by assumption); omega) | (have hk := rtck (by assumption) (by assumption); omega) | (have hk := eck (by assumption) (by assumption) (by assumption); omega) | (have hk := tv (by assumption) (by assumption); omega) | (have hk := rtv (by assumption) (by assumption); omega)))) ?_)))
    refine aj8 rfl rfl rfl r1 rfl (show tU8.R (ix x0 a0) (vu8 (ix x0 a0)) from rfl) (fun a8 a4 => ?_)
    have a4 : a8 = vb (x1 (ix x0 a0)) := a4; subst a4
    exact gK rfl rfl rfl rfl rfl k
  refine nS ?_
  refine co hres rfl ?_ ?_ <;> clear hres <;> intro c hres <;> try simp only [qa] at c
  ·refine az (ah (bh (ai (mV rfl (bN dz rfl rfl (mV rfl (aw (dc ?_))))))))
   refine cq ?_
   have hinc : wr (a0 + 1) = a0 + 1 := dt (by omega) (by omega)
   erw [hinc]
   exact wC (ih   (by omega) (by omega) hres) rfl
  ·refine di (dv (ct ?_))
   exact wP (b0  hres) rfl

theorem cj9 {x0 : List UInt8} {x1 : UInt8 → Bool} {v1 : PV} (r1 : (tFn Tryz.prog tU8 tB).R x1 v1) (hs : x0.length ≤ 1000) : FnR Tryz.prog 110 [vs x0, v1] (vi (pz x0 x1)) := by
 refine fnS (R := RF110) be1 (fun _ h => h) rfl fun res hres => ?_
 unfold pz at hres
 refine sR (mI rfl (nR (mI rfl (nS (ae (bh ?_))))))
 refine wC (wq r1 hs ?_  rfl (by omega) hres) rfl
 ·intro a0 hres
  refine fa (ah (sR (mV rfl (mV rfl (nS ?_)))))
  exact rR hres rfl rfl rfl

def RF112 (res : Bool) (r : PV) : Prop := r = vb res
theorem cr7 {x0 : UInt8} : FnR Tryz.prog 112 [vu8 x0] (vb (kj x0)) := by
 refine fnS (R := RF112) bd4 (fun _ h => h) rfl fun res hres => ?_
 unfold kj at hres
 refine sR (mB rfl (nR (mV rfl (ab (bd (a := vu8 x0) (b := vu8 (48 : UInt8)) rfl rfl al1) (mV rfl ?_)))))
 refine bt 3 (d := 8) (v := vb ((decide ((48 : UInt8) ≤ x0)) && (decide (x0 ≤ (57 : UInt8))))) ?_ ?_
 ·intro S Q r
  cases a1 : (decide ((48 : UInt8) ≤ x0))
  ·exact gN 2 rfl rfl rfl rfl rfl rfl
  ·intro k
   have a0 := a1
   try simp only [qa] at a0
   refine af rfl rfl (ak rfl) (af rfl rfl (bd (a := vu8 x0) (b := vu8 (57 : UInt8)) rfl rfl ai0) ?_)
   exact gK rfl rfl rfl rfl rfl k
 refine mV rfl (nS ?_)
 exact rR hres rfl rfl rfl

def RF111 (res : Bool) (r : PV) : Prop := r = vb res
theorem ci1 {x0 : UInt8} : FnR Tryz.prog 111 [vu8 x0] (vb (iq x0)) := by
 refine fnS (R := RF111) bh4 (fun _ h => h) rfl fun res hres => ?_
 unfold iq at hres
 refine sR (mB rfl (nR (mV rfl ?_)))
 obtain ⟨a0, a4, hres⟩ := cy hres
 have a3 := bc8 (x0 := x0)  
 rw [a4] at a3
 refine cL a3 rfl rfl (aq rfl bg) (mV rfl ?_)
 refine bt 3 (d := 8) (v := vb (a0 || (kj x0))) ?_ ?_
 ·intro S Q r
  cases a5 : a0
  ·intro k
   have a2 := a5
   try simp only [qa] at a2
   refine af rfl rfl (ak rfl) ?_
   have a7 := cr7 (x0 := x0)  
   refine fw rfl rfl (mc rfl rfl (aq rfl bg) a7) ?_
   exact gK rfl rfl rfl rfl rfl k
  ·exact gN 2 rfl rfl rfl rfl rfl rfl
 refine mV rfl ?_
 refine bt 3 (d := 12) (v := vb ((a0 || (kj x0)) || (decide (x0 = (95 : UInt8))))) ?_ ?_
 ·intro S Q r
  cases a6 : (a0 || (kj x0))
  ·intro k
   have a1 := a6
   try simp only [qa] at a1
   refine af rfl rfl (ak rfl) (af rfl rfl (bd (a := vu8 x0) (b := vu8 (95 : UInt8)) rfl rfl do5) ?_)
   exact gK rfl rfl rfl rfl rfl k
  ·exact gN 2 rfl rfl rfl rfl rfl rfl
 refine mV rfl (nS ?_)
 exact rR hres rfl rfl rfl

theorem di5 : (tFn Tryz.prog tU8 tB).R iq (.fn (.func 111) [] []) := dj6 fun a va ra => by obtain rfl := ra; exact ⟨_, ci1, rfl⟩

def RF73 (res : Bool) (r : PV) : Prop := r = vb res
theorem di8 {x0 : List UInt8} : FnR Tryz.prog 73 [vs x0] (vb (lb x0)) := by
 refine fnS (R := RF73) bz4 (fun _ h => h) rfl fun res hres => ?_
 unfold lb at hres
 refine sR (mB rfl (nS (ae (sR (mV rfl (ab (ca rfl (mu Tryz.underlying9)) (bN ld rfl rfl (mV rfl ?_))))))))
 refine bt 4 (d := 10) (v := vb ((decide ((x0.length : Int) = 0)) || (decide (16 < (x0.length : Int))))) ?_ ?_
 ·intro S Q r
  cases a5 : (decide ((x0.length : Int) = 0))
  ·intro k
   have a1 := a5
   try simp only [qa] at a1
   refine af rfl rfl (ak rfl) (af rfl rfl (ca rfl (mu Tryz.underlying9)) (af rfl rfl (bd rfl rfl gb) ?_))
   exact gK rfl rfl rfl rfl rfl k
  ·exact gN 3 rfl rfl rfl rfl rfl rfl
 refine mV rfl ?_
 refine bt 5 (d := 16) (v := vb (((decide ((x0.length : Int) = 0)) || (decide (16 < (x0.length : Int)))) || (!(jx (ix x0 0))))) ?_ ?_
 ·intro S Q r
  cases a2 : ((decide ((x0.length : Int) = 0)) || (decide (16 < (x0.length : Int))))
  ·intro k
   have a0 := a2
   try simp only [qa] at a0
   refine af rfl rfl (ak rfl) (af rfl rfl (pn rfl rfl (td (i := 0) Tryz.underlying9 (by first | omega | (have hk := bc (by assumption) (by assumption); omega) | (have hk := tck (by assumption) (by assumption); omega) | (have hk := rtck (by assumption) (by assumption); omega) | (have hk := eck (by assumption) (by assumption) (by assumption); omega) | (have hk := tv (by assumption) (by assumption); omega) | (have hk := rtv (by assumption) (by assumption); omega)) (by first | omega | (have hk := bc (by assumption) (by assumption); omega) | (have hk := tck (by assumption) (by assumption); omega) | (have hk := rtck (by assumption) (by assumption); omega) | (have hk := eck (by assumption) (by assumption) (by assumption); omega) | (have hk := tv (by assumption) (by assumption); omega) | (have hk := rtv (by assumption) (by assumption); omega)))) ?_)
   have a6 := bc8 (x0 := (ix x0 0))  
   refine fw rfl rfl (mc rfl rfl (aq rfl bg) a6) (af rfl rfl (ft rfl) ?_)
   exact gK rfl rfl rfl rfl rfl k
  ·exact gN 4 rfl rfl rfl rfl rfl rfl
 refine nS ?_
 refine co hres rfl ?_ ?_ <;> clear hres <;> intro c hres <;> try simp only [qa] at c
 ·refine sR (mB rfl (nS ?_))
  exact rR hres rfl rfl rfl
 ·refine az (ah (sR (mV rfl ?_)))
  obtain ⟨a7, a4, hres⟩ := cy hres
  have a3 := cj9 (x0 := x0) di5 (by first | assumption | omega | (have := rv (by assumption) (by assumption); omega) | (rw [dt (by omega) (by omega)]; omega))
  rw [a4] at a3
  refine cL a3 rfl rfl (aq rfl (aq rfl bg)) (mV rfl (ab (ca rfl (mu Tryz.underlying9)) (bN ld rfl rfl (mV rfl (nS ?_)))))
  exact rR hres rfl rfl rfl

def RF144 (res : cg) (r : PV) : Prop := cg.t.R res r
theorem cf9 {x0 : List cg} {x1 : Int} {v0 : PV} (r0 : (tSl cg.t).R x0 v0) : ∃ r, FnR Tryz.prog 144 [v0, vi x1] r ∧ cg.t.R (gh x0 x1) r := by
 refine fnT (R := RF144) bi0 rfl fun res hres => ?_
 unfold gh at hres
 refine sR ?_
 refine dk (x := .agg [vs [], nilS]) (Mem.nil ⟨0, []⟩) rfl rfl (fun a4 a5 b2 a6 => ?_)
 refine nR (ab (zj (x := .agg [vs [], nilS]) rfl rfl) (nS (ae (sR (mV rfl (bN ck rfl rfl (mV rfl ?_)))))))
 refine bt 5 (d := 13) (v := vb ((decide (x1 < 0)) || (decide ((x0.length : Int) ≤ x1)))) ?_ ?_
 ·intro S Q r
  cases a8 : (decide (x1 < 0))
  ·intro k
   have a1 := a8
   try simp only [qa] at a1
   refine af rfl rfl (ak rfl) (af rfl rfl (ak rfl) (af rfl rfl (ca rfl (bq r0 Tryz.underlying22 _)) (af rfl rfl (bd rfl rfl od) ?_)))
   exact gK rfl rfl rfl rfl rfl k
  ·exact gN 4 rfl rfl rfl rfl rfl rfl
 refine nS ?_
 refine co hres rfl ?_ ?_ <;> clear hres <;> intro c hres <;> try simp only [qa] at c
 ·refine sR (lR rfl rfl rfl ?_)
  refine cz (k := 0) (v := .agg [vs [], nilS]) a6 rfl rfl rfl rfl (fun b0 a3 => ?_)
  replace a3 : Mem b0 [⟨.op a4 a5 0, 116, 2, [.agg [vs [], nilS]]⟩] := a3
  refine nS ?_
  subst hres
  exact fc (.cell rfl (ga (k := 0) a3 rfl rfl) .nil) (cj (TR.clo cg.t (show cg.t.R ({ Name := ([] : List UInt8), Fields := ([] : List bw) } : cg) (.agg [vs [], nilS]) from ⟨nilS, rfl, gq⟩))) (show cg.t.R ({ Name := ([] : List UInt8), Fields := ([] : List bw) } : cg) (.agg [vs [], nilS]) from ⟨nilS, rfl, gq⟩)
 ·refine az (ah (sR (mV rfl (mV rfl ?_))))
  obtain ⟨a7, a9, a0⟩ := cr (i := x1) r0 (by first | omega | (have hk := bc (by assumption) (by assumption); omega) | (have hk := tck (by assumption) (by assumption); omega) | (have hk := rtck (by assumption) (by assumption); omega) | (have hk := eck (by assumption) (by assumption) (by assumption); omega) | (have hk := tv (by assumption) (by assumption); omega) | (have hk := rtv (by assumption) (by assumption); omega)) (by first | omega | (have hk := bc (by assumption) (by assumption); omega) | (have hk := tck (by assumption) (by assumption); omega) | (have hk := rtck (by assumption) (by assumption); omega) | (have hk := eck (by assumption) (by assumption) (by assumption); omega) | (have hk := tv (by assumption) (by assumption); omega) | (have hk := rtv (by assumption) (by assumption); omega))
  refine ab (bn rfl rfl a9) (lD a0 rfl rfl rfl ?_)
  refine cz (k := 0) (v := a7) a6 rfl rfl rfl (TR.cnt cg.t a0) (fun b1 a2 => ?_)
  replace a2 : Mem b1 [⟨.op a4 a5 0, 116, 2, [a7]⟩] := a2
  refine nS ?_
  subst hres
  exact fc (.cell rfl (ga (k := 0) a2 rfl (TR.agg cg.t a0)) .nil) (cj (TR.clo cg.t a0)) a0

def RF115 (res : (List bw)) (r : PV) : Prop := (tSl bw.t).R res r
theorem cp0 {x0 : aa} {x1 : Int} {v0 : PV} (r0 : aa.t.R x0 v0) : ∃ r, FnR Tryz.prog 115 [v0, vi x1] r ∧ (tSl bw.t).R (th x0 x1) r := by
 refine fnT (R := RF115) be9 rfl fun res hres => ?_
 unfold th at hres
 refine sR (ab (db rfl (TR.cnt aa.t r0)) (ab (v := nilS) (ak rfl) (nS (ae (sR (mV rfl (bN (ld (b := -1)) rfl rfl (nS ?_))))))))
 refine co hres rfl ?_ ?_ <;> clear hres <;> intro c hres <;> try simp only [qa] at c
 ·refine sR (gL (aa.g_Metadata r0) rfl rfl rfl fun b1 a1 => (mV rfl (nS ?_)))
  exact rR hres rfl (TR.clo (tSl bw.t) a1) a1
 ·refine az (ah (sR (gL (aa.g_Headers r0) rfl rfl rfl fun a7 a0 => (mV rfl ?_))))
  obtain ⟨a9, a4, hres⟩ := cy hres
  obtain ⟨a8, a5, a2⟩ := cf9 (x1 := x1) a0 
  rw [a4] at a2
  refine cL a5 rfl rfl (aq (TR.clo (tSl cg.t) a0) (aq rfl bg)) ?_
  obtain ⟨b0, a6, a3⟩ := cg.g_Fields a2
  refine ab (ar8 rfl a6) (mV rfl (nS ?_))
  exact rR hres rfl (TR.clo (tSl bw.t) a3) a3

def RF114 (res : bw) (r : PV) : Prop := bw.t.R res r
theorem ch2 {x0 : List bw} {x1 : Int} {v0 : PV} (r0 : (tSl bw.t).R x0 v0) : ∃ r, FnR Tryz.prog 114 [v0, vi x1] r ∧ bw.t.R (kp x0 x1) r := by
 refine fnT (R := RF114) bd8 rfl fun res hres => ?_
 unfold kp at hres
 refine sR ?_
 refine dk (x := .agg [vs [], vi 0]) (Mem.nil ⟨0, []⟩) rfl rfl (fun a4 a5 b2 a6 => ?_)
 refine nR (ab (zj (x := .agg [vs [], vi 0]) rfl rfl) (nS (ae (sR (mV rfl (bN ck rfl rfl (mV rfl ?_)))))))
 refine bt 5 (d := 13) (v := vb ((decide (x1 < 0)) || (decide ((x0.length : Int) ≤ x1)))) ?_ ?_
 ·intro S Q r
  cases a8 : (decide (x1 < 0))
  ·intro k
   have a1 := a8
   try simp only [qa] at a1
   refine af rfl rfl (ak rfl) (af rfl rfl (ak rfl) (af rfl rfl (ca rfl (bq r0 Tryz.underlying23 _)) (af rfl rfl (bd rfl rfl od) ?_)))
   exact gK rfl rfl rfl rfl rfl k
  ·exact gN 4 rfl rfl rfl rfl rfl rfl
 refine nS ?_
 refine co hres rfl ?_ ?_ <;> clear hres <;> intro c hres <;> try simp only [qa] at c
 ·refine sR (lR rfl rfl rfl ?_)
  refine cz (k := 0) (v := .agg [vs [], vi 0]) a6 rfl rfl rfl rfl (fun b0 a3 => ?_)
  replace a3 : Mem b0 [⟨.op a4 a5 0, 162, 2, [.agg [vs [], vi 0]]⟩] := a3
  refine nS ?_
  subst hres
  exact fc (.cell rfl (ga (k := 0) a3 rfl rfl) .nil) (cj (TR.clo bw.t (show bw.t.R ({ Name := ([] : List UInt8), Width := 0 } : bw) (.agg [vs [], vi 0]) from rfl))) (show bw.t.R ({ Name := ([] : List UInt8), Width := 0 } : bw) (.agg [vs [], vi 0]) from rfl)
 ·refine az (ah (sR (mV rfl (mV rfl ?_))))
  obtain ⟨a7, a9, a0⟩ := cr (i := x1) r0 (by first | omega | (have hk := bc (by assumption) (by assumption); omega) | (have hk := tck (by assumption) (by assumption); omega) | (have hk := rtck (by assumption) (by assumption); omega) | (have hk := eck (by assumption) (by assumption) (by assumption); omega) | (have hk := tv (by assumption) (by assumption); omega) | (have hk := rtv (by assumption) (by assumption); omega)) (by first | omega | (have hk := bc (by assumption) (by assumption); omega) | (have hk := tck (by assumption) (by assumption); omega) | (have hk := rtck (by assumption) (by assumption); omega) | (have hk := eck (by assumption) (by assumption) (by assumption); omega) | (have hk := tv (by assumption) (by assumption); omega) | (have hk := rtv (by assumption) (by assumption); omega))
  refine ab (bn rfl rfl a9) (lD a0 rfl rfl rfl ?_)
  refine cz (k := 0) (v := a7) a6 rfl rfl rfl (TR.cnt bw.t a0) (fun b1 a2 => ?_)
  replace a2 : Mem b1 [⟨.op a4 a5 0, 162, 2, [a7]⟩] := a2
  refine nS ?_
  subst hres
  exact fc (.cell rfl (ga (k := 0) a2 rfl (TR.agg bw.t a0)) .nil) (cj (TR.clo bw.t a0)) a0

end Go.Proofs.YthdnpgpnodgicaaGreat
