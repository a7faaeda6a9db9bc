/-
 The code of each function does what its plain program says.
-/
import Derived.Test.YthdnpgpnodgicaaGreatL4W2
set_option linter.unusedVariables false
set_option linter.unusedSimpArgs false
set_option maxRecDepth 100000
namespace Go.Proofs.YthdnpgpnodgicaaGreat
open Go Go.Pb Go.RowKit
def RF120 (res : Int) (r : PV) : Prop := r = vi res
theorem ym {S : List Fr} {res : Int} {x0 : List Int} {x1 : Int} {v0 : PV} (r0 : (tSl tI).R x0 v0) {K0 : Unit → Int}
  (a3 : K0 () = res → PX Tryz.prog 0 S (QR Tryz.prog [(4, none)] (RF120 res)) [] ⟨0, []⟩) :
  ∀ {m : Nat} {a0 : Int} (a2 : m = Int.toNat ((x0.length : Int) - a0)) (a1 : 0 ≤ a0), gm x0 x1 K0 m a0 = res → RC Tryz.prog (.loop bv1) S (QR Tryz.prog [(4, none)] (RF120 res)) [(5, vi a0), (1, vi x1), (0, v0)] ⟨0, []⟩ := by
 intro m
 induction m with
 | zero =>
  intro a0 a2 a1 hres
  rw [gm] at hres
  refine br (ae (sR (mV rfl (mV rfl (ab (ca rfl (bq r0 Tryz.underlying29 _)) (bN ck rfl rfl (nS ?_)))))))
  refine bf rfl ?_ ?_ <;> intro c <;> try simp only [qa] at c
  ·omega
  refine di (dv (ct ?_))
  exact wP (a3  hres) rfl
 | succ m ih =>
  intro a0 a2 a1 hres
  rw [gm] at hres
  refine br (ae (sR (mV rfl (mV rfl (ab (ca rfl (bq r0 Tryz.underlying29 _)) (bN ck rfl rfl (nS ?_)))))))
  refine bf rfl ?_ ?_ <;> intro c <;> try simp only [qa] at c
  rotate_left
  ·omega
  refine az (ah (ae (bh (sR (mV rfl (mV rfl (ab (bn rfl rfl (slI r0 (by first | omega | (have hk := bc (by assumption) (by assumption); omega) | (have hk := tck (by assumption) (by assumption); omega) | (have hk := rtck (by assumption) (by assumption); omega) | (have hk := eck (by assumption) (by assumption) (by assumption); omega) | (have hk := tv (by assumption) (by assumption); omega) | (have hk := rtv (by assumption) (by assumption); omega)) (by first | omega | (have hk := bc (by assumption) (by assumption); omega) | (have hk := tck (by assumption) (by assumption); omega) | (have hk := rtck (by assumption) (by assumption); omega) | (have hk := eck (by assumption) (by assumption) (by assumption); omega) | (have hk := tv (by assumption) (by assumption); omega) | (have hk := rtv (by assumption) (by assumption); omega)))) (lR rfl rfl rfl ?_))))))))
  refine mV rfl (bN ld rfl rfl (nS ?_))
  refine co hres rfl ?_ ?_ <;> clear hres <;> intro c hres <;> try simp only [qa] at c
  ·refine sR (mV rfl (mV rfl (nS ?_)))
   exact rR hres rfl rfl rfl
  ·refine az (dc (ah (ai (mV rfl (bN dz rfl rfl (mV rfl (aw (cq ?_))))))))
   have hbd := dm r0
   have hinc : wr (a0 + 1) = a0 + 1 := dt (by omega) (by omega)
   erw [hinc]
   exact wC (ih   (by omega) (by omega) hres) rfl

theorem ap6 {x0 : List Int} {x1 : Int} {v0 : PV} (r0 : (tSl tI).R x0 v0) : FnR Tryz.prog 120 [v0, vi x1] (vi (fy x0 x1)) := by
 refine fnS (R := RF120) cg9 (fun _ h => h) rfl fun res hres => ?_
 unfold fy at hres
 refine sR (mI rfl (nS (ae (sR (mI rfl (nS (bh ?_)))))))
 refine wC (ym r0 ?_  rfl (by omega) hres) rfl
 ·intro  hres
  refine fa (ah (sR (mI rfl (nS ?_))))
  exact rR hres rfl rfl rfl

def RF145 (res : Bool) (r : PV) : Prop := r = vb res
theorem xh {x0 : Int} : FnR Tryz.prog 145 [vi x0] (vb (fh x0)) := by
 refine fnS (R := RF145) ci0 (fun _ h => h) rfl fun res hres => ?_
 unfold fh at hres
 refine sR (mB rfl (nR (mV rfl (bN od rfl rfl (mV rfl ?_)))))
 refine bt 3 (d := 8) (v := vb ((decide (1 ≤ x0)) && (decide (x0 ≤ 32)))) ?_ ?_
 ·intro S Q r
  cases a1 : (decide (1 ≤ x0))
  ·exact gN 2 rfl rfl rfl rfl rfl rfl
  ·intro k
   have a0 := a1
   try simp only [qa] at a0
   refine af rfl rfl (ak rfl) (af rfl rfl (bd rfl rfl at5) ?_)
   exact gK rfl rfl rfl rfl rfl k
 refine mV rfl (nS ?_)
 exact rR hres rfl rfl rfl

def RF147 (res : (BitVec 64)) (r : PV) : Prop := r = pg res
theorem xw {S : List Fr} {res : (BitVec 64)} {x0 : Int} (hn : x0 ≤ 64) {K0 : (BitVec 64) → (BitVec 64)}
  (a4 : ∀ {a1 : BitVec 64}, K0 a1 = res → PX Tryz.prog 0 S (QR Tryz.prog [(2, none)] (RF147 res)) [(3, pg a1)] ⟨0, []⟩) :
  ∀ {m : Nat} {a1 : BitVec 64} {a0 : Int} (a3 : m = Int.toNat (x0 - a0)) (a2 : 0 ≤ a0), nd K0 m a1 a0 = res → RC Tryz.prog (.loop cc0) S (QR Tryz.prog [(2, none)] (RF147 res)) [(4, vi a0), (3, pg a1), (0, vi x0)] ⟨0, []⟩ := by
 intro m
 induction m with
 | zero =>
  intro a1 a0 a3 a2 hres
  rw [nd] at hres
  refine br (ae (sR (mV rfl (mV rfl (bN ck rfl rfl (nS ?_))))))
  refine bf rfl ?_ ?_ <;> intro c <;> try simp only [qa] at c
  ·omega
  refine di (dv (ct ?_))
  exact wP (a4  hres) rfl
 | succ m ih =>
  intro a1 a0 a3 a2 hres
  rw [nd] at hres
  refine br (ae (sR (mV rfl (mV rfl (bN ck rfl rfl (nS ?_))))))
  refine bf rfl ?_ ?_ <;> intro c <;> try simp only [qa] at c
  rotate_left
  ·omega
  refine az (ah (ae (bh (ai (mV rfl (ab (bd (a := pg 2#64) (b := pg a1) rfl rfl dl6) (mV rfl (aw ?_))))))))
  refine dc (ah (ai (mV rfl (bN dz rfl rfl (mV rfl (aw (cq ?_)))))))
  have hinc : wr (a0 + 1) = a0 + 1 := dt (by omega) (by omega)
  erw [hinc]
  exact wC (ih   (by omega) (by omega) hres) rfl

theorem ab2 {x0 : Int} (hn : x0 ≤ 64) : FnR Tryz.prog 147 [vi x0] (pg (ki x0)) := by
 refine fnS (R := RF147) cm0 (fun _ h => h) rfl fun res hres => ?_
 unfold ki at hres
 refine sR (ab (v := pg 0#64) (ak rfl) (nR (ab (v := pg 1#64) (ak rfl) (nS (ae (sR (mI rfl (nS ?_))))))))
 refine bh ?_
 refine wC (xw hn ?_  rfl (by omega) hres) rfl
 ·intro a0 hres
  refine fa (ah (sR (mV rfl (mV rfl (nS ?_)))))
  exact rR hres rfl rfl rfl

def RF122 (res : Bool) (r : PV) : Prop := r = vb res
theorem ap5 {x0 : BitVec 32} {x1 : Int} : FnR Tryz.prog 122 [da x0, vi x1] (vb (kw x0 x1)) := by
 refine fnS (R := RF122) ck2 (fun _ h => h) rfl fun res hres => ?_
 unfold kw at hres
 refine sR (mB rfl (nR (mV rfl ?_)))
 obtain ⟨a4, a2, hres⟩ := cy hres
 have a1 := xh (x0 := x1)  
 rw [a2] at a1
 refine cL a1 rfl rfl (aq rfl bg) (mV rfl ?_)
 refine bt 6 (d := 13) (v := vb (a4 && (decide ((BitVec.setWidth 64 x0) < (ki x1))))) ?_ ?_
 ·intro S Q r
  cases a3 : a4
  ·exact gN 5 rfl rfl rfl rfl rfl rfl
  ·intro k
   have a0 := a3
   try simp only [qa] at a0
   refine af rfl rfl (ak rfl) (af rfl rfl (ye (a := da x0) rfl (c_wd Tryz.underlying64 Tryz.underlying97)) (af rfl rfl (ak rfl) ?_))
   have a5 := ab2 (x0 := x1)  (by first | assumption | omega | (have := rv (by assumption) (by assumption); omega) | (rw [dt (by omega) (by omega)]; omega))
   refine fw rfl rfl (mc rfl rfl (aq rfl bg) a5) (af rfl rfl (bd (a := pg (BitVec.setWidth 64 x0)) (b := pg (ki x1)) rfl rfl dt7) ?_)
   exact gK rfl rfl rfl rfl rfl k
 refine mV rfl (nS ?_)
 exact rR hres rfl rfl rfl

def RF94 (res : Int) (r : PV) : Prop := r = vi res
theorem tu {S : List Fr} {res : Int} {x0 : aa} {x1 : av} {v1 b0 : PV} (r1 : av.t.R x1 v1) (a4 : ((decide (x1.Action < 0)) || (decide ((x0.Actions.length : Int) ≤ x1.Action))) = false) (a1 : (tSl bw.t).R ((ix x0.Actions x1.Action).Params) b0) (a5 : (!decide ((x1.Args.length : Int) = (((ix x0.Actions x1.Action).Params).length : Int))) = false) {K0 : Unit → Int}
  (b7 : K0 () = res → PX Tryz.prog 0 S (QR Tryz.prog [(4, none)] (RF94 res)) [] ⟨0, []⟩) :
  ∀ {m : Nat} {a0 : Int} (b4 : m = Int.toNat ((((ix x0.Actions x1.Action).Params).length : Int) - a0)) (a8 : 0 ≤ a0), io x0 x1 K0 m a0 = res → RC Tryz.prog (.loop ch5) S (QR Tryz.prog [(4, none)] (RF94 res)) [(6, vi a0), (5, b0), (3, .fp v1)] ⟨0, []⟩ := by
 have a2 := a4
 try simp only [qa] at a2
 have a3 := a5
 try simp only [qa] at a3
 intro m
 induction m with
 | zero =>
  intro a0 b4 a8 hres
  rw [io] at hres
  refine br (ae (sR (mV rfl (mV rfl (ab (ca rfl (bq a1 Tryz.underlying23 _)) (bN ck rfl rfl (nS ?_)))))))
  refine bf rfl ?_ ?_ <;> intro c <;> try simp only [qa] at c
  ·omega
  refine di (dv (ct ?_))
  exact wP (b7  hres) rfl
 | succ m ih =>
  intro a0 b4 a8 hres
  rw [io] at hres
  refine br (ae (sR (mV rfl (mV rfl (ab (ca rfl (bq a1 Tryz.underlying23 _)) (bN ck rfl rfl (nS ?_)))))))
  refine bf rfl ?_ ?_ <;> intro c <;> try simp only [qa] at c
  rotate_left
  ·omega
  refine az (ah (ae (bh (sR ?_))))
  obtain ⟨b6, b2, a9⟩ := av.g_Args r1
  refine fA rfl b2 (lD a9 rfl rfl rfl (mV rfl (ab (bn rfl rfl (zr a9 (by first | omega | (have hk := bc (by assumption) (by assumption); omega) | (have hk := tck (by assumption) (by assumption); omega) | (have hk := rtck (by assumption) (by assumption); omega) | (have hk := eck (by assumption) (by assumption) (by assumption); omega) | (have hk := tv (by assumption) (by assumption); omega) | (have hk := rtv (by assumption) (by assumption); omega)) (by first | omega | (have hk := bc (by assumption) (by assumption); omega) | (have hk := tck (by assumption) (by assumption); omega) | (have hk := rtck (by assumption) (by assumption); omega) | (have hk := eck (by assumption) (by assumption) (by assumption); omega) | (have hk := tv (by assumption) (by assumption); omega) | (have hk := rtv (by assumption) (by assumption); omega)))) (lR rfl rfl rfl (mV rfl (mV rfl ?_))))))
  obtain ⟨b5, b1, b3⟩ := cr (i := a0) a1 (by first | omega | (have hk := bc (by assumption) (by assumption); omega) | (have hk := tck (by assumption) (by assumption); omega) | (have hk := rtck (by assumption) (by assumption); omega) | (have hk := eck (by assumption) (by assumption) (by assumption); omega) | (have hk := tv (by assumption) (by assumption); omega) | (have hk := rtv (by assumption) (by assumption); omega)) (by first | omega | (have hk := bc (by assumption) (by assumption); omega) | (have hk := tck (by assumption) (by assumption); omega) | (have hk := rtck (by assumption) (by assumption); omega) | (have hk := eck (by assumption) (by assumption) (by assumption); omega) | (have hk := tv (by assumption) (by assumption); omega) | (have hk := rtv (by assumption) (by assumption); omega))
  refine ab (bn rfl rfl b1) (fL rfl (bw.g_Width b3) rfl rfl ?_)
  obtain ⟨b8, a6, hres⟩ := cy hres
  have a7 := ap5 (x0 := (ix x1.Args a0)) (x1 := (ix ((ix x0.Actions x1.Action).Params) a0).Width)  
  rw [a6] at a7
  refine cL a7 rfl rfl (aq rfl (aq rfl bg)) (ab (ft rfl) (nS ?_))
  refine co hres rfl ?_ ?_ <;> clear hres <;> intro c hres <;> try simp only [qa] at c
  ·refine sR (mI rfl (nS ?_))
   exact rR hres rfl rfl rfl
  ·refine az (dc (ah (ai (mV rfl (bN dz rfl rfl (mV rfl (aw (cq ?_))))))))
   have hbd := dm a1
   have hinc : wr (a0 + 1) = a0 + 1 := dt (by omega) (by omega)
   erw [hinc]
   exact wC (ih   (by omega) (by omega) hres) rfl

theorem bm6 {x0 : aa} {x1 : av} {v0 v1 : PV} (r0 : aa.t.R x0 v0) (r1 : av.t.R x1 v1) : FnR Tryz.prog 94 [v0, v1] (vi (lf x0 x1)) := by
 refine fnS (R := RF94) cw6 (fun _ h => h) rfl fun res hres => ?_
 unfold lf at hres
 refine sR (ab (db rfl (TR.cnt aa.t r0)) (ab (db rfl (TR.cnt av.t r1)) (mI rfl (nS (ae (sR (fL rfl (av.g_Action r1) rfl rfl (bN ck rfl rfl ?_))))))))
 refine mV rfl ?_
 refine bt 7 (d := 17) (v := vb ((decide (x1.Action < 0)) || (decide ((x0.Actions.length : Int) ≤ x1.Action)))) ?_ ?_
 ·intro S Q r
  cases a7 : (decide (x1.Action < 0))
  ·intro k
   have a2 := a7
   try simp only [qa] at a2
   refine af rfl rfl (bb rfl (av.g_Action r1)) (af rfl rfl (ba rfl rfl rfl) ?_)
   obtain ⟨b8, b0, a4⟩ := aa.g_Actions r0
   refine af rfl rfl (bb rfl b0) (af rfl rfl (ba rfl (TR.cnt (tSl cn.t) a4) (TR.agg (tSl cn.t) a4)) (af rfl rfl (ca rfl (bq a4 Tryz.underlying25 _)) (af rfl rfl (bd rfl rfl od) ?_)))
   exact gK rfl rfl rfl rfl rfl k
  ·exact gN 6 rfl rfl rfl rfl rfl rfl
 refine nS ?_
 refine co hres rfl ?_ ?_ <;> clear hres <;> intro a0 hres <;> have a3 := a0 <;> try simp only [qa] at a3
 ·refine sR (mI rfl (nS ?_))
  exact rR hres rfl rfl rfl
 ·refine az (ah (sR ?_))
  obtain ⟨b9, b4, a6⟩ := aa.g_Actions r0
  refine fA rfl b4 (lD a6 rfl rfl rfl (fL rfl (av.g_Action r1) rfl rfl ?_))
  obtain ⟨b6, b1, b2⟩ := cr (i := x1.Action) a6 (by first | omega | (have hk := bc (by assumption) (by assumption); omega) | (have hk := tck (by assumption) (by assumption); omega) | (have hk := rtck (by assumption) (by assumption); omega) | (have hk := eck (by assumption) (by assumption) (by assumption); omega) | (have hk := tv (by assumption) (by assumption); omega) | (have hk := rtv (by assumption) (by assumption); omega)) (by first | omega | (have hk := bc (by assumption) (by assumption); omega) | (have hk := tck (by assumption) (by assumption); omega) | (have hk := rtck (by assumption) (by assumption); omega) | (have hk := eck (by assumption) (by assumption) (by assumption); omega) | (have hk := tv (by assumption) (by assumption); omega) | (have hk := rtv (by assumption) (by assumption); omega))
  refine ab (bn rfl rfl b1) (gL (cn.g_Params b2) rfl rfl rfl fun b7 a8 => (mV rfl (nS (ae (sR ?_)))))
  obtain ⟨b5, b3, a9⟩ := av.g_Args r1
  refine fA rfl b3 (lD a9 rfl rfl rfl (ab (ca rfl (bq a9 Tryz.underlying33 _)) (mV rfl (ab (ca rfl (bq a8 Tryz.underlying23 _)) (bN jc rfl rfl (nS ?_))))))
  refine co hres rfl ?_ ?_ <;> clear hres <;> intro a1 hres <;> have a5 := a1 <;> try simp only [qa] at a5
  ·refine sR (mI rfl (nS ?_))
   exact rR hres rfl rfl rfl
  ·refine az (ah (ae (sR (mI rfl (nS (bh ?_))))))
   refine wC (tu r1 a0 a8 a1 ?_  rfl (by omega) hres) rfl
   ·intro  hres
    refine fa (ah (sR (mI rfl (nS ?_))))
    exact rR hres rfl rfl rfl

def RF90 (res : Int) (r : PV) : Prop := r = vi res
theorem vv {S : List Fr} {res : Int} {x0 : aa} {x1 : ax} {v0 v1 : PV} (r0 : aa.t.R x0 v0) (r1 : ax.t.R x1 v1) {K0 : Unit → Int}
  (c8 : K0 () = res → PX Tryz.prog 0 S (QR Tryz.prog [(4, none)] (RF90 res)) [(2, .fp v0), (3, .fp v1)] ⟨0, []⟩) :
  ∀ {m : Nat} {a0 : Int} (b8 : m = Int.toNat ((x1.Actions.length : Int) - a0)) (b0 : 0 ≤ a0), ir x0 x1 K0 m a0 = res → RC Tryz.prog (.loop cr2) S (QR Tryz.prog [(4, none)] (RF90 res)) [(5, vi a0), (3, .fp v1), (2, .fp v0)] ⟨0, []⟩ := by
 intro m
 induction m with
 | zero =>
  intro a0 b8 b0 hres
  rw [ir] at hres
  refine br (ae (sR (mV rfl (gL (ax.g_Actions r1) rfl rfl rfl fun c6 b6 => (ab (ca rfl (bq b6 Tryz.underlying29 _)) (bN ck rfl rfl (nS ?_)))))))
  refine bf rfl ?_ ?_ <;> intro c <;> try simp only [qa] at c
  ·omega
  refine di (dv (ct ?_))
  exact wP (c8  hres) rfl
 | succ m ih =>
  intro a0 b8 b0 hres
  rw [ir] at hres
  refine br (ae (sR (mV rfl (gL (ax.g_Actions r1) rfl rfl rfl fun c3 a5 => (ab (ca rfl (bq a5 Tryz.underlying29 _)) (bN ck rfl rfl (nS ?_)))))))
  refine bf rfl ?_ ?_ <;> intro c <;> try simp only [qa] at c
  rotate_left
  ·omega
  refine az (ah (ae (bh (bh (sR ?_)))))
  obtain ⟨c4, b4, a9⟩ := ax.g_Actions r1
  refine fA rfl b4 (lD a9 rfl rfl rfl (mV rfl (ab (bn rfl rfl (slI a9 (by first | omega | (have hk := bc (by assumption) (by assumption); omega) | (have hk := tck (by assumption) (by assumption); omega) | (have hk := rtck (by assumption) (by assumption); omega) | (have hk := eck (by assumption) (by assumption) (by assumption); omega) | (have hk := tv (by assumption) (by assumption); omega) | (have hk := rtv (by assumption) (by assumption); omega)) (by first | omega | (have hk := bc (by assumption) (by assumption); omega) | (have hk := tck (by assumption) (by assumption); omega) | (have hk := rtck (by assumption) (by assumption); omega) | (have hk := eck (by assumption) (by assumption) (by assumption); omega) | (have hk := tv (by assumption) (by assumption); omega) | (have hk := rtv (by assumption) (by assumption); omega)))) (lR rfl rfl rfl (bN ck rfl rfl (mV rfl ?_))))))
  refine bt 10 (d := 30) (v := vb ((decide ((ix x1.Actions a0) < 0)) || (decide ((x0.Actions.length : Int) ≤ (ix x1.Actions a0))))) ?_ ?_
  ·intro S Q r
   cases a8 : (decide ((ix x1.Actions a0) < 0))
   ·intro k
    have a1 := a8
    try simp only [qa] at a1
    obtain ⟨b9, b5, a3⟩ := ax.g_Actions r1
    refine af rfl rfl (bb rfl b5) (af rfl rfl (ba rfl (TR.cnt (tSl tI) a3) (TR.agg (tSl tI) a3)) (af rfl rfl (ak rfl) (af rfl rfl (bn rfl rfl (slI a3 (by first | omega | (have hk := bc (by assumption) (by assumption); omega) | (have hk := tck (by assumption) (by assumption); omega) | (have hk := rtck (by assumption) (by assumption); omega) | (have hk := eck (by assumption) (by assumption) (by assumption); omega) | (have hk := tv (by assumption) (by assumption); omega) | (have hk := rtv (by assumption) (by assumption); omega)) (by first | omega | (have hk := bc (by assumption) (by assumption); omega) | (have hk := tck (by assumption) (by assumption); omega) | (have hk := rtck (by assumption) (by assumption); omega) | (have hk := eck (by assumption) (by assumption) (by assumption); omega) | (have hk := tv (by assumption) (by assumption); omega) | (have hk := rtv (by assumption) (by assumption); omega)))) (af rfl rfl (ba rfl rfl rfl) ?_))))
    obtain ⟨c5, b7, a4⟩ := aa.g_Actions r0
    refine af rfl rfl (bb rfl b7) (af rfl rfl (ba rfl (TR.cnt (tSl cn.t) a4) (TR.agg (tSl cn.t) a4)) (af rfl rfl (ca rfl (bq a4 Tryz.underlying25 _)) (af rfl rfl (bd rfl rfl od) ?_)))
    exact gK rfl rfl rfl rfl rfl k
   ·exact gN 9 rfl rfl rfl rfl rfl rfl
  refine mV rfl (nS ?_)
  refine co hres rfl ?_ ?_ <;> clear hres <;> intro c hres <;> try simp only [qa] at c
  ·refine sR (mI rfl (nS ?_))
   exact rR hres rfl rfl rfl
  ·refine sR ?_
   obtain ⟨c1, b2, a2⟩ := ax.g_Actions r1
   refine fA rfl b2 (lD a2 rfl rfl rfl ?_)
   obtain ⟨c7, b3, b1⟩ := ax.g_Actions r1
   refine fA rfl b3 (lD b1 rfl rfl rfl (mV rfl (ab (bn rfl rfl (slI b1 (by first | omega | (have hk := bc (by assumption) (by assumption); omega) | (have hk := tck (by assumption) (by assumption); omega) | (have hk := rtck (by assumption) (by assumption); omega) | (have hk := eck (by assumption) (by assumption) (by assumption); omega) | (have hk := tv (by assumption) (by assumption); omega) | (have hk := rtv (by assumption) (by assumption); omega)) (by first | omega | (have hk := bc (by assumption) (by assumption); omega) | (have hk := tck (by assumption) (by assumption); omega) | (have hk := rtck (by assumption) (by assumption); omega) | (have hk := eck (by assumption) (by assumption) (by assumption); omega) | (have hk := tv (by assumption) (by assumption); omega) | (have hk := rtv (by assumption) (by assumption); omega)))) (lR rfl rfl rfl ?_))))
   obtain ⟨c0, a7, hres⟩ := cy hres
   have a6 := ap6 (x1 := (ix x1.Actions a0)) a2 
   rw [a7] at a6
   refine cL a6 rfl rfl (aq (TR.clo (tSl tI) a2) (aq rfl bg)) (mV rfl (bN ck rfl rfl (mV rfl (nS ?_))))
   refine co hres rfl ?_ ?_ <;> clear hres <;> intro c hres <;> try simp only [qa] at c
   ·refine sR (mI rfl (nS ?_))
    exact rR hres rfl rfl rfl
   ·refine az (dc (dc (ah (ai (mV rfl (bN dz rfl rfl (mV rfl (aw ?_))))))))
    refine cq ?_
    have hbd := dm a5
    have hinc : wr (a0 + 1) = a0 + 1 := dt (by omega) (by omega)
    erw [hinc]
    exact wC (ih   (by omega) (by omega) hres) rfl

theorem dg8 {x0 : aa} {x1 : ax} {v0 v1 : PV} (r0 : aa.t.R x0 v0) (r1 : ax.t.R x1 v1) : FnR Tryz.prog 90 [v0, v1] (vi (nt x0 x1)) := by
 refine fnS (R := RF90) di7 (fun _ h => h) rfl fun res hres => ?_
 unfold nt at hres
 refine sR (ab (db rfl (TR.cnt aa.t r0)) (ab (db rfl (TR.cnt ax.t r1)) (mI rfl (nS (ae (sR (mI rfl (nS ?_))))))))
 refine bh ?_
 refine wC (vv r0 r1 ?_  rfl (by omega) hres) rfl
 ·intro  hres
  refine fa (ah (ae (sR ?_)))
  obtain ⟨b2, a8, a0⟩ := ax.g_Actions r1
  refine fA rfl a8 (lD a0 rfl rfl rfl ?_)
  obtain ⟨b1, a7, a6⟩ := ax.g_Default r1
  refine fA rfl a7 (fL rfl (av.g_Action a6) rfl rfl ?_)
  obtain ⟨a9, a4, hres⟩ := cy hres
  have a3 := ap6 (x1 := x1.Default.Action) a0 
  rw [a4] at a3
  refine cL a3 rfl rfl (aq (TR.clo (tSl tI) a0) (aq rfl bg)) (bN ck rfl rfl (nS ?_))
  refine co hres rfl ?_ ?_ <;> clear hres <;> intro c hres <;> try simp only [qa] at c
  ·refine sR (mI rfl (nS ?_))
   exact rR hres rfl rfl rfl
  ·refine az (ah (sR (lD r0 rfl rfl rfl (gL (ax.g_Default r1) rfl rfl rfl fun b0 a2 => ?_))))
   obtain ⟨b3, a1, hres⟩ := cy hres
   have a5 := bm6  r0 a2 
   rw [a1] at a5
   refine cL a5 rfl rfl (aq (TR.clo aa.t r0) (aq (TR.clo av.t a2) bg)) (mV rfl (nS ?_))
   exact rR hres rfl rfl rfl

def RF47 (res : Int × Int) (r : PV) : Prop := r = .tup [vi res.1, vi res.2]
theorem ax4 {x0 : aa} {x1 : Int} {v0 : PV} (r0 : aa.t.R x0 v0) : FnR Tryz.prog 47 [v0, vi x1] (.tup [vi ((ep x0 x1).1), vi ((ep x0 x1).2)]) := by
 refine fnS (R := RF47) dc7 (fun _ h => h) rfl fun res hres => ?_
 unfold ep at hres
 refine sR (ab (db rfl (TR.cnt aa.t r0)) (mI rfl (mI rfl (nS (ae (sR (mV rfl (bN ck rfl rfl ?_))))))))
 refine mV rfl ?_
 refine bt 6 (d := 17) (v := vb ((decide (x1 < 0)) || (decide ((x0.Tables.length : Int) ≤ x1)))) ?_ ?_
 ·intro S Q r
  cases b1 : (decide (x1 < 0))
  ·intro k
   have a2 := b1
   try simp only [qa] at a2
   refine af rfl rfl (ak rfl) ?_
   obtain ⟨d4, b7, a5⟩ := aa.g_Tables r0
   refine af rfl rfl (bb rfl b7) (af rfl rfl (ba rfl (TR.cnt (tSl ax.t) a5) (TR.agg (tSl ax.t) a5)) (af rfl rfl (ca rfl (bq a5 Tryz.underlying26 _)) (af rfl rfl (bd rfl rfl od) ?_)))
   exact gK rfl rfl rfl rfl rfl k
  ·exact gN 5 rfl rfl rfl rfl rfl rfl
 refine nS ?_
 refine co hres rfl ?_ ?_ <;> clear hres <;> intro c hres <;> try simp only [qa] at c
 ·refine sR (mI rfl (mI rfl (nS ?_)))
  exact rT hres rfl rfl rfl rfl rfl
 ·refine az (ah (sR (gL (aa.g_Tables r0) rfl rfl rfl fun d5 c0 => (mV rfl ?_))))
  obtain ⟨a9, c3, a0⟩ := cr (i := x1) c0 (by first | omega | (have hk := bc (by assumption) (by assumption); omega) | (have hk := tck (by assumption) (by assumption); omega) | (have hk := rtck (by assumption) (by assumption); omega) | (have hk := eck (by assumption) (by assumption) (by assumption); omega) | (have hk := tv (by assumption) (by assumption); omega) | (have hk := rtv (by assumption) (by assumption); omega)) (by first | omega | (have hk := bc (by assumption) (by assumption); omega) | (have hk := tck (by assumption) (by assumption); omega) | (have hk := rtck (by assumption) (by assumption); omega) | (have hk := eck (by assumption) (by assumption) (by assumption); omega) | (have hk := tv (by assumption) (by assumption); omega) | (have hk := rtv (by assumption) (by assumption); omega))
  refine ab (bn rfl rfl c3) (lD a0 rfl rfl rfl ?_)
  refine dk (x := .agg [vs [], nilS, nilS, vi 0, nilS, vi 0]) (Mem.nil ⟨0, []⟩) rfl rfl (fun b6 c4 d0 c7 => ?_)
  refine cz (k := 0) (v := a9) c7 rfl rfl rfl (TR.cnt ax.t a0) (fun c5 a1 => ?_)
  replace a1 : Mem c5 [⟨.op b6 c4 0, 87, 6, [a9]⟩] := a1
  refine nS (ae (bh (sR (ab (bz rfl) (ab (dg (k := 0) a1 rfl rfl (ax.g_Name a0)) ?_)))))
  obtain ⟨d1, b0, hres⟩ := cy hres
  have b2 := dk4 (x0 := (ix x0.Tables x1).Name)  
  rw [b0] at b2
  refine cL b2 rfl rfl (aq rfl bg) (ab (ft rfl) (mV rfl (nS ?_)))
  refine co hres rfl ?_ ?_ <;> clear hres <;> intro c hres <;> try simp only [qa] at c
  ·refine sR (mI rfl (mI rfl (nS ?_)))
   exact rT hres rfl rfl rfl rfl rfl
  ·refine sR (ab (bz rfl) ?_)
   obtain ⟨d3, c1, c6⟩ := ax.g_Keys a0
   refine ab (dg (k := 0) a1 rfl rfl c1) (ab (ca rfl (bq c6 Tryz.underlying85 _)) (bN gb rfl rfl (mV rfl ?_)))
   refine bt 5 (d := 38) (v := vb ((decide (6 < (((ix x0.Tables x1).Keys).length : Int))) || (decide (16 < (((ix x0.Tables x1).Actions).length : Int))))) ?_ ?_
   ·intro S Q r
    cases b4 : (decide (6 < (((ix x0.Tables x1).Keys).length : Int)))
    ·intro k
     have a4 := b4
     try simp only [qa] at a4
     refine af rfl rfl (bz rfl) ?_
     obtain ⟨c8, b8, b9⟩ := ax.g_Actions a0
     refine af rfl rfl (dg (k := 0) a1 rfl rfl b8) (af rfl rfl (ca rfl (bq b9 Tryz.underlying29 _)) (af rfl rfl (bd rfl rfl gb) ?_))
     exact gK rfl rfl rfl rfl rfl k
    ·exact gN 4 rfl rfl rfl rfl rfl rfl
   refine mV rfl (nS ?_)
   refine co hres rfl ?_ ?_ <;> clear hres <;> intro c hres <;> try simp only [qa] at c
   ·refine sR (mI rfl (mI rfl (nS ?_)))
    exact rT hres rfl rfl rfl rfl rfl
   ·refine sR (ab (bz rfl) (ab (dg (k := 0) a1 rfl rfl (ax.g_Size a0)) (bN ck rfl rfl (mV rfl ?_))))
    refine bt 4 (d := 47) (v := vb ((decide (((ix x0.Tables x1).Size) < 1)) || (decide (256 < ((ix x0.Tables x1).Size))))) ?_ ?_
    ·intro S Q r
     cases a8 : (decide (((ix x0.Tables x1).Size) < 1))
     ·intro k
      have a3 := a8
      try simp only [qa] at a3
      refine af rfl rfl (bz rfl) (af rfl rfl (dg (k := 0) a1 rfl rfl (ax.g_Size a0)) (af rfl rfl (bd rfl rfl gb) ?_))
      exact gK rfl rfl rfl rfl rfl k
     ·exact gN 3 rfl rfl rfl rfl rfl rfl
    refine mV rfl (nS ?_)
    refine co hres rfl ?_ ?_ <;> clear hres <;> intro c hres <;> try simp only [qa] at c
    ·refine sR (mI rfl (mI rfl (nS ?_)))
     exact rT hres rfl rfl rfl rfl rfl
    ·refine az (dc (ah (sR (lD r0 rfl rfl rfl (ab (gi (k := 0) a1 rfl rfl (TR.agg ax.t a0)) ?_)))))
     obtain ⟨c9, b3, hres⟩ := cy hres
     have a7 := dl0  r0 a0 
     rw [b3] at a7
     refine cL a7 rfl rfl (aq (TR.clo aa.t r0) (aq (TR.clo ax.t a0) bg)) (mV rfl (xT rfl rfl (xT rfl rfl (mV rfl (mV rfl (nS (ae (sR ?_))))))))
     refine mV rfl (bN jc rfl rfl (nS ?_))
     refine co hres rfl ?_ ?_ <;> clear hres <;> intro c hres <;> try simp only [qa] at c
     ·refine sR (mV rfl (mV rfl (mV rfl (mV rfl (nS ?_)))))
      exact rT hres rfl rfl rfl rfl rfl
     ·refine az (ah (sR (lD r0 rfl rfl rfl (ab (gi (k := 0) a1 rfl rfl (TR.agg ax.t a0)) ?_))))
      obtain ⟨d2, b5, hres⟩ := cy hres
      have a6 := dg8  r0 a0 
      rw [b5] at a6
      refine cL a6 rfl rfl (aq (TR.clo aa.t r0) (aq (TR.clo ax.t a0) bg)) (mV rfl (nS (ae (sR (mV rfl (bN jc rfl rfl (nS ?_)))))))
      refine co hres rfl ?_ ?_ <;> clear hres <;> intro c hres <;> try simp only [qa] at c
      ·refine sR (mV rfl (mI rfl (mV rfl (nS ?_))))
       exact rT hres rfl rfl rfl rfl rfl
      ·refine az (ah (sR (mI rfl (mI rfl (nS ?_)))))
       exact rT hres rfl rfl rfl rfl rfl

def RF61 (res : Bool) (r : PV) : Prop := r = vb res
theorem ba0 {x0 : aa} {x1 : Int} {v0 : PV} (r0 : aa.t.R x0 v0) : FnR Tryz.prog 61 [v0, vi x1] (vb (fb x0 x1)) := by
 refine fnS (R := RF61) dh3 (fun _ h => h) rfl fun res hres => ?_
 unfold fb at hres
 refine sR (ab (db rfl (TR.cnt aa.t r0)) (mB rfl (nR (lD r0 rfl rfl rfl (mV rfl ?_)))))
 obtain ⟨a2, a1, hres⟩ := cy hres
 have a0 := ax4 (x1 := x1) r0 
 rw [a1] at a0
 refine cL a0 rfl rfl (aq (TR.clo aa.t r0) (aq rfl bg)) (mV rfl (xT rfl rfl (xT rfl rfl (mV rfl (mV rfl (nR (mV rfl (bN ld rfl rfl ?_))))))))
 refine mV rfl (nS ?_)
 exact rR hres rfl rfl rfl

def RF24 (res : (List Int)) (r : PV) : Prop := (tSl tI).R res r
theorem wx {S : List Fr} {res : (List Int)} {x0 : aa} {x1 : Int} {c5 : Bool} {v0 : PV} (r0 : aa.t.R x0 v0) (e2 : fb x0 x1 = c5) (b3 : (!c5) = false) {K0 : (List Int) → (List Int)}
  (f4 : ∀ {a1 : List Int} {a0 : List PV} {a2 : PV} (a4 : All2 tI.R a1 a0) (a6 : isL a2 = true) (a3 : Wri a2 a0) (a5 : a1.length ≤ 4611686018427387904) {h : Heap} (M0 : Mem h [⟨a2, 3, 1, a0⟩]), K0 a1 = res → PX Tryz.prog 0 S (QR Tryz.prog [(4, none)] (RF24 res)) [(5, a2)] h) :
  ∀ {m : Nat} {a9 : Int} {a1 : List Int} {a0 : List PV} {a2 : PV} (a4 : All2 tI.R a1 a0) (a6 : isL a2 = true) (a3 : Wri a2 a0) (a5 : a1.length ≤ 4611686018427387904) (e3 : m = Int.toNat ((((ix x0.Tables x1).Keys).length : Int) - a9)) (b9 : 0 ≤ a9) (b0 : (a1.length : Int) ≤ a9) {h : Heap} (M0 : Mem h [⟨a2, 3, 1, a0⟩]), jh x0 x1 K0 m a9 a1 = res → RC Tryz.prog (.loop cg2) S (QR Tryz.prog [(4, none)] (RF24 res)) [(6, vi a9), (5, a2), (2, .fp v0), (1, vi x1)] h := by
 have b2 := b3
 try simp only [qa] at b2
 intro m
 induction m with
 | zero =>
  intro a9 a1 a0 a2 a4 a6 a3 a5 e3 b9 b0 h M0 hres
  rw [jh] at hres
  refine br (ae (sR (mV rfl (gL (aa.g_Tables r0) rfl rfl rfl fun f2 d5 => (mV rfl ?_)))))
  obtain ⟨f7, d7, d9⟩ := cr (i := x1) d5 (by first | omega | (have hk := bc (by assumption) (by assumption); omega) | (have hk := tck (by assumption) (by assumption); omega) | (have hk := rtck (by assumption) (by assumption); omega) | (have hk := eck (by assumption) (by assumption) (by assumption); omega) | (have hk := tv (by assumption) (by assumption); omega) | (have hk := rtv (by assumption) (by assumption); omega)) (by first | omega | (have hk := bc (by assumption) (by assumption); omega) | (have hk := tck (by assumption) (by assumption); omega) | (have hk := rtck (by assumption) (by assumption); omega) | (have hk := eck (by assumption) (by assumption) (by assumption); omega) | (have hk := tv (by assumption) (by assumption); omega) | (have hk := rtv (by assumption) (by assumption); omega))
  refine ab (bn rfl rfl d7) (gL (ax.g_Keys d9) rfl rfl rfl fun e6 e0 => (ab (ca rfl (bq e0 Tryz.underlying85 _)) (bN ck rfl rfl (nS ?_))))
  refine bf rfl ?_ ?_ <;> intro c <;> try simp only [qa] at c
  ·omega
  refine di (dv (ct ?_))
  exact wP (f4 a4 a6 a3 a5 (Mem.sub M0 (.cons_cons _ .slnil)) hres) rfl
 | succ m ih =>
  intro a9 a1 a0 a2 a4 a6 a3 a5 e3 b9 b0 h M0 hres
  rw [jh] at hres
  refine br (ae (sR (mV rfl (gL (aa.g_Tables r0) rfl rfl rfl fun e9 d8 => (mV rfl ?_)))))
  obtain ⟨e7, c9, d4⟩ := cr (i := x1) d8 (by first | omega | (have hk := bc (by assumption) (by assumption); omega) | (have hk := tck (by assumption) (by assumption); omega) | (have hk := rtck (by assumption) (by assumption); omega) | (have hk := eck (by assumption) (by assumption) (by assumption); omega) | (have hk := tv (by assumption) (by assumption); omega) | (have hk := rtv (by assumption) (by assumption); omega)) (by first | omega | (have hk := bc (by assumption) (by assumption); omega) | (have hk := tck (by assumption) (by assumption); omega) | (have hk := rtck (by assumption) (by assumption); omega) | (have hk := eck (by assumption) (by assumption) (by assumption); omega) | (have hk := tv (by assumption) (by assumption); omega) | (have hk := rtv (by assumption) (by assumption); omega))
  refine ab (bn rfl rfl c9) (gL (ax.g_Keys d4) rfl rfl rfl fun f5 c0 => (ab (ca rfl (bq c0 Tryz.underlying85 _)) (bN ck rfl rfl (nS ?_))))
  refine bf rfl ?_ ?_ <;> intro c <;> try simp only [qa] at c
  rotate_left
  ·omega
  refine az (ah (ae (bh (ai (mV rfl (lD r0 rfl rfl rfl (gL (aa.g_Tables r0) rfl rfl rfl fun e4 d3 => (mV rfl ?_))))))))
  obtain ⟨f6, e1, c7⟩ := cr (i := x1) d3 (by first | omega | (have hk := bc (by assumption) (by assumption); omega) | (have hk := tck (by assumption) (by assumption); omega) | (have hk := rtck (by assumption) (by assumption); omega) | (have hk := eck (by assumption) (by assumption) (by assumption); omega) | (have hk := tv (by assumption) (by assumption); omega) | (have hk := rtv (by assumption) (by assumption); omega)) (by first | omega | (have hk := bc (by assumption) (by assumption); omega) | (have hk := tck (by assumption) (by assumption); omega) | (have hk := rtck (by assumption) (by assumption); omega) | (have hk := eck (by assumption) (by assumption) (by assumption); omega) | (have hk := tv (by assumption) (by assumption); omega) | (have hk := rtv (by assumption) (by assumption); omega))
  refine ab (bn rfl rfl e1) (gL (ax.g_Keys c7) rfl rfl rfl fun f3 d0 => (mV rfl ?_))
  obtain ⟨f1, c8, c6⟩ := cr (i := a9) d0 (by first | omega | (have hk := bc (by assumption) (by assumption); omega) | (have hk := tck (by assumption) (by assumption); omega) | (have hk := rtck (by assumption) (by assumption); omega) | (have hk := eck (by assumption) (by assumption) (by assumption); omega) | (have hk := tv (by assumption) (by assumption); omega) | (have hk := rtv (by assumption) (by assumption); omega)) (by first | omega | (have hk := bc (by assumption) (by assumption); omega) | (have hk := tck (by assumption) (by assumption); omega) | (have hk := rtck (by assumption) (by assumption); omega) | (have hk := eck (by assumption) (by assumption) (by assumption); omega) | (have hk := tv (by assumption) (by assumption); omega) | (have hk := rtv (by assumption) (by assumption); omega))
  refine ab (bn rfl rfl c8) (gL (bm.g_Field c6) rfl rfl rfl fun e5 c4 => ?_)
  obtain ⟨a7, b6, hres⟩ := cy hres
  have c3 := cb6  r0 c4 
  rw [b6] at c3
  refine cL c3 rfl rfl (aq (TR.clo aa.t r0) (aq (TR.clo cd.t c4) bg)) (ab (v := .fs true [vi a7]) (ly rfl (all_cons rfl oh)) ?_)
  have d2 : (tSl tI).R ([a7] : List Int) (.fs true [vi a7]) := zl ⟨rfl, trivial⟩ (by simp)
  obtain ⟨a8, b5, b1⟩ := zg (t := tI) (h := h) d2
  have c1 : fits (a0.length + a8.length) 8 = true := by rw [All2.length_eq a4, All2.length_eq b1]; (try simp only [List.length_cons, List.length_nil]); exact qs (by have hk := rtv (by assumption) (by assumption); omega) (by have hk := rtv (by assumption) (by assumption); omega)
  refine sx (k := 0) (es := a0) (news := a8) M0 rfl rfl rfl a6 a3 b5 c1 (fun e8 f0 d1 b4 d6 => ?_)
  have b7 : All2 tI.R (a1 ++ ([a7] : List Int)) (a0 ++ a8) := All2.app a4 b1
  have b8 : (a1 ++ ([a7] : List Int)).length ≤ 4611686018427387904 := by rw [← All2.length_eq b7, List.length_append]; exact af2 c1
  refine mV rfl (aw (dc (ah (ai (mV rfl (bN dz rfl rfl (mV rfl (aw ?_))))))))
  refine cq ?_
  have hbd := dm c0
  have hinc : wr (a9 + 1) = a9 + 1 := dt (by omega) (by omega)
  erw [hinc]
  exact wC (ih  b7 d1 b4 b8 (by omega) (by omega) (by first | omega | (simp; done) | (simp only [List.length_append, List.length_cons, List.length_nil, List.length_set]; omega)) (Mem.sub d6 (.cons_cons _ .slnil)) hres) rfl

theorem da6 {x0 : aa} {x1 : Int} {v0 : PV} (r0 : aa.t.R x0 v0) : ∃ r, FnR Tryz.prog 24 [v0, vi x1] r ∧ (tSl tI).R (cx x0 x1) r := by
 refine fnT (R := RF24) di9 rfl fun res hres => ?_
 unfold cx at hres
 refine sR (ab (db rfl (TR.cnt aa.t r0)) (ab (v := nilS) (ak rfl) (nS (ae (sR (lD r0 rfl rfl rfl (mV rfl ?_)))))))
 obtain ⟨b7, a4, hres⟩ := cy hres
 have b0 := ba0 (x1 := x1) r0 
 rw [a4] at b0
 refine cL b0 rfl rfl (aq (TR.clo aa.t r0) (aq rfl bg)) (ab (ft rfl) (nS ?_))
 refine co hres rfl ?_ ?_ <;> clear hres <;> intro a3 hres <;> have a5 := a3 <;> try simp only [qa] at a5
 ·refine sR (ab (v := nilS) (ak rfl) (nS ?_))
  exact rR hres rfl (TR.clo (tSl tI) gq) gq
 ·refine az (ah (sR (ab (v := nilS) (ak rfl) (nS (ae (sR (mI rfl (nS ?_))))))))
  refine bh ?_
  have b1 := su (sz := 1) (es := []) (Mem.nil ⟨0, []⟩) 3 (.inl ⟨none, rfl, rfl⟩) (by simp)
  refine wC (wx r0 a4 a3 ?_  aL rfl (.inl rfl) (by first | decide | simp) rfl (by omega) (by first | omega | (simp; done) | (simp only [List.length_append, List.length_cons, List.length_nil, List.length_set]; omega)) (Mem.sub b1 (.cons_cons _ .slnil)) hres) rfl
  ·intro a6 a8 a9 a1 a2 a7 a0 b6 b4 hres
   refine fa (ah (sR (mV rfl (mV rfl (nS ?_)))))
   obtain ⟨b5, b2, b3⟩ := zd (P := Tryz.prog) (k := 0) (t := tI) b4 rfl a2 a1 (Nat.le_trans a0 (by decide))
   subst hres
   exact fc (.tmp rfl .nil) b2 b3

def RF146 (res : (BitVec 32)) (r : PV) : Prop := r = da res
theorem cd3 {x0 x1 : Int} : FnR Tryz.prog 146 [vi x0, vi x1] (da (lw x0 x1)) := by
 refine fnS (R := RF146) cj5 (fun _ h => h) rfl fun res hres => ?_
 unfold lw at hres
 refine sR (ab (v := da 0#32) (ak rfl) (nS (ae (sR (mV rfl ?_)))))
 obtain ⟨a8, a2, hres⟩ := cy hres
 have a0 := xh (x0 := x1)  
 rw [a2] at a0
 refine cL a0 rfl rfl (aq rfl bg) (ab (ft rfl) (nS ?_))
 refine co hres rfl ?_ ?_ <;> clear hres <;> intro c hres <;> try simp only [qa] at c
 ·refine sR (ab (v := da 0#32) (ak rfl) (nS ?_))
  exact rR hres rfl rfl rfl
 ·refine az (ah (sR (mV rfl (ab (ca rfl (ac6 _ _)) (mV rfl (ab (ca rfl (am1 _ _)) (mV rfl (nR ?_))))))))
  refine mV rfl ?_
  obtain ⟨a3, a6, hres⟩ := cy hres
  have a7 := ab2 (x0 := x1)  (by first | omega | (have hk := rv (by assumption) (by assumption); have e := dt (n := x1 - min (max x0 0) x1) (by omega) (by omega); omega))
  rw [a6] at a7
  refine cL a7 rfl rfl (aq rfl bg) (mV rfl (mV rfl (bN ak8 rfl rfl ?_)))
  obtain ⟨a5, a1, hres⟩ := cy hres
  have a4 := ab2 (x0 := (wr (x1 - (min (max x0 0) x1))))  (by first | omega | (have hk := rv (by assumption) (by assumption); have e := dt (n := x1 - min (max x0 0) x1) (by omega) (by omega); omega))
  rw [a1] at a4
  refine cL a4 rfl rfl (aq rfl bg) (ab (bd (a := pg a3) (b := pg a5) rfl rfl cv3) (ab (ye (a := pg (a3 - a5)) rfl (c_dw Tryz.underlying97 Tryz.underlying64)) (mV rfl (nS ?_))))
  exact rR hres rfl rfl rfl

def RF121 (res : Int × Bool) (r : PV) : Prop := r = .tup [vi res.1, vb res.2]
theorem tp {S : List Fr} {res : Int × Bool} {x0 : BitVec 32} {x1 : Int} {K0 : Unit → (Int × Bool)}
  (b1 : K0 () = res → PX Tryz.prog 0 S (QR Tryz.prog [(4, none), (5, none)] (RF121 res)) [] ⟨0, []⟩) :
  ∀ {m : Nat} {a0 : Int} (b2 : m = Int.toNat ((x1 + 1) - a0)) (a7 : 0 ≤ a0), gn x0 x1 K0 m a0 = res → RC Tryz.prog (.loop bq0) S (QR Tryz.prog [(4, none), (5, none)] (RF121 res)) [(6, vi a0), (1, vi x1), (0, da x0)] ⟨0, []⟩ := by
 intro m
 induction m with
 | zero =>
  intro a0 b2 a7 hres
  rw [gn] at hres
  refine br (ae (sR (mV rfl (mV rfl (bN at5 rfl rfl (mV rfl ?_))))))
  refine bt 3 (d := 13) (v := vb ((decide (a0 ≤ x1)) && (fh x1))) ?_ ?_
  ·intro S Q r
   cases a6 : (decide (a0 ≤ x1))
   ·exact gN 2 rfl rfl rfl rfl rfl rfl
   ·intro k
    have a1 := a6
    try simp only [qa] at a1
    refine af rfl rfl (ak rfl) ?_
    have a9 := xh (x0 := x1)  
    refine fw rfl rfl (mc rfl rfl (aq rfl bg) a9) ?_
    exact gK rfl rfl rfl rfl rfl k
  refine nS ?_
  refine bf rfl ?_ ?_ <;> intro c <;> try simp only [qa] at c
  ·omega
  refine di (dv (ct ?_))
  exact wP (b1  hres) rfl
 | succ m ih =>
  intro a0 b2 a7 hres
  rw [gn] at hres
  refine br (ae (sR (mV rfl (mV rfl (bN at5 rfl rfl (mV rfl ?_))))))
  refine bt 3 (d := 13) (v := vb ((decide (a0 ≤ x1)) && (fh x1))) ?_ ?_
  ·intro S Q r
   cases a3 : (decide (a0 ≤ x1))
   ·exact gN 2 rfl rfl rfl rfl rfl rfl
   ·intro k
    have a2 := a3
    try simp only [qa] at a2
    refine af rfl rfl (ak rfl) ?_
    have a8 := xh (x0 := x1)  
    refine fw rfl rfl (mc rfl rfl (aq rfl bg) a8) ?_
    exact gK rfl rfl rfl rfl rfl k
  refine nS ?_
  refine co hres rfl ?_ ?_ <;> clear hres <;> intro c hres <;> try simp only [qa] at c
  ·refine az (ah (ae (bh (sR (mV rfl (mV rfl ?_))))))
   obtain ⟨b0, a5, hres⟩ := cy hres
   have a4 := cd3 (x0 := a0) (x1 := x1)  
   rw [a5] at a4
   refine cL a4 rfl rfl (aq rfl (aq rfl bg)) (mV rfl (ab (bd (a := da b0) (b := da x0) rfl rfl bb7) (nS ?_)))
   refine co hres rfl ?_ ?_ <;> clear hres <;> intro c hres <;> try simp only [qa] at c
   ·refine sR (mV rfl (mV rfl (mB rfl (nS ?_))))
    exact rT hres rfl rfl rfl rfl rfl
   ·refine az (dc (ah (ai (mV rfl (bN dz rfl rfl (mV rfl (aw (cq ?_))))))))
    have hinc : wr (a0 + 1) = a0 + 1 := dt (by omega) (by have hk := rv (w := x1) rfl (And.right (by assumption)); omega)
    erw [hinc]
    exact wC (ih   (by omega) (by omega) hres) rfl
  ·refine di (dv (ct ?_))
   exact wP (b1  hres) rfl

theorem cr3 {x0 : BitVec 32} {x1 : Int} : FnR Tryz.prog 121 [da x0, vi x1] (.tup [vi ((ji x0 x1).1), vb ((ji x0 x1).2)]) := by
 refine fnS (R := RF121) cn3 (fun _ h => h) rfl fun res hres => ?_
 unfold ji at hres
 refine sR (mI rfl (mB rfl (nS (ae (sR (mI rfl (nS (bh ?_))))))))
 refine wC (tp  ?_  rfl (by omega) hres) rfl
 ·intro  hres
  refine fa (ah (sR (mI rfl (mB rfl (nS ?_)))))
  exact rT hres rfl rfl rfl rfl rfl

def RF123 (res : (BitVec 32)) (r : PV) : Prop := r = da res
theorem cs6 {x0 : Int} : FnR Tryz.prog 123 [vi x0] (da (je x0)) := by
 refine fnS (R := RF123) cn9 (fun _ h => h) rfl fun res hres => ?_
 unfold je at hres
 refine sR (ab (v := da 0#32) (ak rfl) (nS (ae (sR (mV rfl ?_)))))
 obtain ⟨a5, a1, hres⟩ := cy hres
 have a0 := xh (x0 := x0)  
 rw [a1] at a0
 refine cL a0 rfl rfl (aq rfl bg) (ab (ft rfl) (nS ?_))
 refine co hres rfl ?_ ?_ <;> clear hres <;> intro c hres <;> try simp only [qa] at c
 ·refine sR (ab (v := da 0#32) (ak rfl) (nS ?_))
  exact rR hres rfl rfl rfl
 ·refine az (ah (sR (mV rfl ?_)))
  obtain ⟨a2, a3, hres⟩ := cy hres
  have a4 := ab2 (x0 := x0)  (by first | assumption | omega | (have := rv (by assumption) (by assumption); omega) | (rw [dt (by omega) (by omega)]; omega))
  rw [a3] at a4
  refine cL a4 rfl rfl (aq rfl bg) (ab (bd (a := pg a2) (b := pg 1#64) rfl rfl cv3) (ab (ye (a := pg (a2 - 1#64)) rfl (c_dw Tryz.underlying97 Tryz.underlying64)) (mV rfl (nS ?_))))
  exact rR hres rfl rfl rfl

def RF91 (res : Int) (r : PV) : Prop := r = vi res
theorem df3 {x0 : ay} {x1 x2 : Int} {v0 : PV} (r0 : ay.t.R x0 v0) : FnR Tryz.prog 91 [v0, vi x1, vi x2] (vi (ja x0 x1 x2)) := by
 refine fnS (R := RF91) db2 (fun _ h => h) rfl fun res hres => ?_
 unfold ja at hres
 refine sR (ab (db rfl (TR.cnt ay.t r0)) (mI rfl (nR (fL rfl (ay.g_Mask r0) rfl rfl (mV rfl ?_)))))
 obtain ⟨a4, b0, hres⟩ := cy hres
 have a7 := cr3 (x0 := x0.Mask) (x1 := x1)  
 rw [b0] at a7
 refine cL a7 rfl rfl (aq rfl (aq rfl bg)) (mV rfl (xT rfl rfl (xT rfl rfl (mV rfl (mV rfl (nS (ae (bh ?_))))))))
 refine sR (fL rfl (ay.g_Value r0) rfl rfl (mV rfl ?_))
 obtain ⟨a6, b2, hres⟩ := cy hres
 have a9 := ap5 (x0 := x0.Value) (x1 := x1)  
 rw [b2] at a9
 refine cL a9 rfl rfl (aq rfl (aq rfl bg)) (ab (ft rfl) (mV rfl ?_))
 refine bt 6 (d := 28) (v := vb ((!a6) || (!(kw x0.Mask x1)))) ?_ ?_
 ·intro S Q r
  cases b3 : (!a6)
  ·intro k
   have a0 := b3
   try simp only [qa] at a0
   refine af rfl rfl (bb rfl (ay.g_Mask r0)) (af rfl rfl (ba rfl rfl rfl) (af rfl rfl (ak rfl) ?_))
   have b5 := ap5 (x0 := x0.Mask) (x1 := x1)  
   refine fw rfl rfl (mc rfl rfl (aq rfl (aq rfl bg)) b5) (af rfl rfl (ft rfl) ?_)
   exact gK rfl rfl rfl rfl rfl k
  ·exact gN 5 rfl rfl rfl rfl rfl rfl
 refine mV rfl (nS ?_)
 refine co hres rfl ?_ ?_ <;> clear hres <;> intro c hres <;> try simp only [qa] at c
 ·refine sR (mI rfl (nS ?_))
  exact rR hres rfl rfl rfl
 ·refine sR (fL rfl (ay.g_Value r0) rfl rfl (fL rfl (ay.g_Mask r0) rfl rfl (ab (bd (a := da x0.Value) (b := da x0.Mask) rfl rfl at8) (fL rfl (ay.g_Value r0) rfl rfl (ab (bd (a := da (x0.Value &&& x0.Mask)) (b := da x0.Value) rfl rfl af7) (mV rfl (nS ?_)))))))
  refine co hres rfl ?_ ?_ <;> clear hres <;> intro c hres <;> try simp only [qa] at c
  ·refine sR (mI rfl (nS ?_))
   exact rR hres rfl rfl rfl
  ·refine sR (mV rfl (bN ld rfl rfl (mV rfl ?_)))
   refine bt 6 (d := 47) (v := vb ((decide (x2 = 1)) && (!decide (x0.Mask = (je x1))))) ?_ ?_
   ·intro S Q r
    cases a5 : (decide (x2 = 1))
    ·exact gN 5 rfl rfl rfl rfl rfl rfl
    ·intro k
     have a3 := a5
     try simp only [qa] at a3
     refine af rfl rfl (bb rfl (ay.g_Mask r0)) (af rfl rfl (ba rfl rfl rfl) (af rfl rfl (ak rfl) ?_))
     have b4 := cs6 (x0 := x1)  
     refine fw rfl rfl (mc rfl rfl (aq rfl bg) b4) (af rfl rfl (bd (a := da x0.Mask) (b := da (je x1)) rfl rfl af7) ?_)
     exact gK rfl rfl rfl rfl rfl k
   refine mV rfl ?_
   refine bt 7 (d := 55) (v := vb (((decide (x2 = 1)) && (!decide (x0.Mask = (je x1)))) || ((decide (x2 = 2)) && (!a4.2)))) ?_ ?_
   ·intro S Q r
    cases b1 : ((decide (x2 = 1)) && (!decide (x0.Mask = (je x1))))
    ·intro k
     have a1 := b1
     try simp only [qa] at a1
     refine af rfl rfl (ak rfl) (af rfl rfl (bd rfl rfl ld) (af rfl rfl (ak rfl) ?_))
     refine bt 3 (d := 54) (v := vb ((decide (x2 = 2)) && (!a4.2))) ?_ ?_
     ·intro S Q r
      cases a8 : (decide (x2 = 2))
      ·intro k
       refine mh rfl rfl (mh rfl rfl (af (v := vb false) rfl rfl (lr rfl rfl rfl rfl) ?_))
       exact wD k rfl
      ·intro k
       have a2 := a8
       try simp only [qa] at a2
       refine af rfl rfl (ak rfl) (af rfl rfl (ft rfl) (af (v := vb (!a4.2)) rfl rfl (lr rfl rfl rfl rfl) ?_))
       exact wD k rfl
     exact gK rfl rfl rfl rfl rfl k
    ·exact gN 6 rfl rfl rfl rfl rfl rfl
   refine mV rfl (nS ?_)
   refine co hres rfl ?_ ?_ <;> clear hres <;> intro c hres <;> try simp only [qa] at c
   ·refine sR (mI rfl (nS ?_))
    exact rR hres rfl rfl rfl
   ·refine az (dc (ah (sR (mI rfl (nS ?_)))))
    exact rR hres rfl rfl rfl

end Go.Proofs.YthdnpgpnodgicaaGreat
