/-
 The code of each function does what its plain program says.
-/
import Derived.Test.YthdnpgpnodgicaaGreatL4W4
set_option linter.unusedVariables false
set_option linter.unusedSimpArgs false
set_option maxRecDepth 100000
namespace Go.Proofs.YthdnpgpnodgicaaGreat
open Go Go.Pb Go.RowKit
def RF116 (res : Bool) (r : PV) : Prop := r = vb res
theorem wh {S : List Fr} {res : Bool} {x0 : List Int} {v0 : PV} (r0 : (tSl tI).R x0 v0) {K0 : Unit → Bool}
  (a5 : K0 () = res → PX Tryz.prog 0 S (QR Tryz.prog [(2, none)] (RF116 res)) [] ⟨0, []⟩) :
  ∀ {m : Nat} {a0 : Int} (a4 : m = Int.toNat ((x0.length : Int) - a0)) (a2 : 0 ≤ a0), ke x0 K0 m a0 = res → RC Tryz.prog (.loop bv3) S (QR Tryz.prog [(2, none)] (RF116 res)) [(7, vi a0), (6, vi (x0.length : Int)), (5, v0)] ⟨0, []⟩ := by
 intro m
 induction m with
 | zero =>
  intro a0 a4 a2 hres
  rw [ke] at hres
  refine br (sR (bN ck rfl rfl (nS (ae ?_))))
  refine bf rfl ?_ ?_ <;> intro c <;> try simp only [qa] at c
  ·omega
  refine di (dv (ct ?_))
  exact wP (a5  hres) rfl
 | succ m ih =>
  intro a0 a4 a2 hres
  rw [ke] at hres
  refine br (sR (bN ck rfl rfl (nS (ae ?_))))
  refine bf rfl ?_ ?_ <;> intro c <;> try simp only [qa] at c
  rotate_left
  ·omega
  refine az (ah (ae (bh (sR (ab (bn rfl rfl (slI r0 (by first | omega | (have hk := bc (by assumption) (by assumption); omega) | (have hk := tck (by assumption) (by assumption); omega) | (have hk := rtck (by assumption) (by assumption); omega) | (have hk := eck (by assumption) (by assumption) (by assumption); omega) | (have hk := tv (by assumption) (by assumption); omega) | (have hk := rtv (by assumption) (by assumption); omega)) (by first | omega | (have hk := bc (by assumption) (by assumption); omega) | (have hk := tck (by assumption) (by assumption); omega) | (have hk := rtck (by assumption) (by assumption); omega) | (have hk := eck (by assumption) (by assumption) (by assumption); omega) | (have hk := tv (by assumption) (by assumption); omega) | (have hk := rtv (by assumption) (by assumption); omega)))) (lR rfl rfl rfl (mV rfl (nR ?_))))))))
  refine mV rfl (bN ck rfl rfl (mV rfl ?_))
  refine bt 3 (d := 16) (v := vb ((decide ((ix x0 a0) < 1)) || (decide (32 < (ix x0 a0))))) ?_ ?_
  ·intro S Q r
   cases a3 : (decide ((ix x0 a0) < 1))
   ·intro k
    have a1 := a3
    try simp only [qa] at a1
    refine af rfl rfl (ak rfl) (af rfl rfl (bd rfl rfl gb) ?_)
    exact gK rfl rfl rfl rfl rfl k
   ·exact gN 2 rfl rfl rfl rfl rfl rfl
  refine nS ?_
  refine co hres rfl ?_ ?_ <;> clear hres <;> intro c hres <;> try simp only [qa] at c
  ·refine sR (mB rfl (nS ?_))
   exact rR hres rfl rfl rfl
  ·refine az (dc (ah (ai (bN dz rfl rfl (mV rfl (aw (cq ?_)))))))
   have hbd := dm r0
   have hinc : wr (a0 + 1) = a0 + 1 := dt (by omega) (by omega)
   erw [hinc]
   exact wC (ih   (by omega) (by omega) hres) rfl

theorem ab9 {x0 : List Int} {v0 : PV} (r0 : (tSl tI).R x0 v0) : FnR Tryz.prog 116 [v0] (vb (gz x0)) := by
 refine fnS (R := RF116) bf5 (fun _ h => h) rfl fun res hres => ?_
 unfold gz at hres
 refine sR (mB rfl (nS (ae (sR (mV rfl (ab (ca rfl (bq r0 Tryz.underlying29 _)) (mI rfl (nS ?_))))))))
 refine bh ?_
 refine wC (wh r0 ?_  rfl (by omega) hres) rfl
 ·intro  hres
  refine fa (ah (sR (mB rfl (nS ?_))))
  exact rR hres rfl rfl rfl

def RF113 (res : (BitVec 32)) (r : PV) : Prop := r = da res
theorem uz {x0 : Int} : FnR Tryz.prog 113 [vi x0] (da (dl x0)) := by
 refine fnS (R := RF113) bi5 (fun _ h => h) rfl fun res hres => ?_
 unfold dl at hres
 refine sR (ab (v := da 0#32) (ak rfl) (nS (ae (sR (mV rfl (ab (v := .fs true [vi x0]) (ly rfl (all_cons rfl oh)) ?_))))))
 have a2 : (tSl tI).R ([x0] : List Int) (.fs true [vi x0]) := zl ⟨rfl, trivial⟩ (by simp)
 obtain ⟨a3, a0, hres⟩ := cy hres
 have a1 := ab9  a2 
 rw [a0] at a1
 refine cL a1 rfl rfl (aq (TR.clo (tSl tI) a2) bg) (ab (ft rfl) (nS ?_))
 refine co hres rfl ?_ ?_ <;> clear hres <;> intro c hres <;> try simp only [qa] at c
 ·refine sR (ab (v := da 0#32) (ak rfl) (nS ?_))
  exact rR hres rfl rfl rfl
 ·refine az (ah (sR (mV rfl (bN ak8 rfl rfl (ab (bd (a := da 4294967295#32) (b := vi (wr (32 - x0))) rfl rfl (bf7 (by first | omega | exact ci2 (by assumption) (by assumption)))) (mV rfl (nS ?_)))))))
  exact rR hres rfl rfl rfl

def RF81 (res : Int) (r : PV) : Prop := r = vi res
theorem bn8 {x0 : aa} {x1 : cd} {v0 v1 : PV} (r0 : aa.t.R x0 v0) (r1 : cd.t.R x1 v1) : FnR Tryz.prog 81 [v0, v1] (vi (oe x0 x1)) := by
 refine fnS (R := RF81) bv9 (fun _ h => h) rfl fun res hres => ?_
 unfold oe at hres
 refine sR (ab (db rfl (TR.cnt aa.t r0)) (ab (db rfl (TR.cnt cd.t r1)) (mI rfl (nR (lD r0 rfl rfl rfl (fL rfl (cd.g_Header r1) rfl rfl ?_))))))
 obtain ⟨b2, a5, hres⟩ := cy hres
 obtain ⟨b0, a6, a0⟩ := cp0 (x1 := x1.Header) r0 
 rw [a5] at a0
 refine cL a6 rfl rfl (aq (TR.clo aa.t r0) (aq rfl bg)) (fL rfl (cd.g_Field r1) rfl rfl ?_)
 obtain ⟨a8, a1, hres⟩ := cy hres
 obtain ⟨b1, a7, a3⟩ := ch2 (x1 := x1.Field) a0 
 rw [a1] at a3
 refine cL a7 rfl rfl (aq (TR.clo (tSl bw.t) a0) (aq rfl bg)) (ab (ar8 rfl (bw.g_Width a3)) (mV rfl (nS (ae (sR (mV rfl ?_))))))
 obtain ⟨a9, a4, hres⟩ := cy hres
 have a2 := uz (x0 := a8.Width)  
 rw [a4] at a2
 refine cL a2 rfl rfl (aq rfl bg) (ab (bd (a := da a9) (b := da 0#32) rfl rfl bb7) (nS ?_))
 refine co hres rfl ?_ ?_ <;> clear hres <;> intro c hres <;> try simp only [qa] at c
 ·refine sR (mI rfl (nS ?_))
  exact rR hres rfl rfl rfl
 ·refine az (ah (sR (mV rfl (mV rfl (nS ?_)))))
  exact rR hres rfl rfl rfl

def RF74 (res : Int × Int) (r : PV) : Prop := r = .tup [vi res.1, vi res.2]
theorem tw {S : List Fr} {res : Int × Int} {x0 : aa} {x1 : ax} {v0 a6 : PV} (r0 : aa.t.R x0 v0) (a7 : (tSl bm.t).R x1.Keys a6) {K0 : Int → Int → (Int × Int)}
  (c6 : ∀ {a4 a5 : Int} {h : Heap} (M0 : Mem h []), K0 a4 a5 = res → PX Tryz.prog 0 S (QR Tryz.prog [(4, none), (5, none)] (RF74 res)) [(6, vi a4), (7, vi a5)] h) :
  ∀ {m : Nat} {a4 a5 a0 : Int} (c3 : m = Int.toNat ((x1.Keys.length : Int) - a0)) (b1 : 0 ≤ a0) {h : Heap} (M0 : Mem h []), gu x0 x1 K0 m a4 a5 a0 = res → RC Tryz.prog (.loop cc9) S (QR Tryz.prog [(4, none), (5, none)] (RF74 res)) [(14, vi a0), (13, vi (x1.Keys.length : Int)), (12, a6), (7, vi a5), (6, vi a4), (2, .fp v0)] h := by
 intro m
 induction m with
 | zero =>
  intro a4 a5 a0 c3 b1 h M0 hres
  rw [gu] at hres
  refine br (sR (bN ck rfl rfl (nS (ae ?_))))
  refine bf rfl ?_ ?_ <;> intro c <;> try simp only [qa] at c
  ·omega
  refine di (dv (ct ?_))
  exact wP (c6 (Mem.sub M0 .slnil) hres) rfl
 | succ m ih =>
  intro a4 a5 a0 c3 b1 h M0 hres
  rw [gu] at hres
  refine br (sR (bN ck rfl rfl (nS (ae ?_))))
  refine bf rfl ?_ ?_ <;> intro c <;> try simp only [qa] at c
  rotate_left
  ·omega
  refine az (ah (ae (bh (sR (mV rfl ?_)))))
  obtain ⟨b4, b9, a3⟩ := cr (i := a0) a7 (by first | omega | (have hk := bc (by assumption) (by assumption); omega) | (have hk := tck (by assumption) (by assumption); omega) | (have hk := rtck (by assumption) (by assumption); omega) | (have hk := eck (by assumption) (by assumption) (by assumption); omega) | (have hk := tv (by assumption) (by assumption); omega) | (have hk := rtv (by assumption) (by assumption); omega)) (by first | omega | (have hk := bc (by assumption) (by assumption); omega) | (have hk := tck (by assumption) (by assumption); omega) | (have hk := rtck (by assumption) (by assumption); omega) | (have hk := eck (by assumption) (by assumption) (by assumption); omega) | (have hk := tv (by assumption) (by assumption); omega) | (have hk := rtv (by assumption) (by assumption); omega))
  refine ab (bn rfl rfl b9) (lD a3 rfl rfl rfl ?_)
  refine dk (x := .agg [vi 0, vi 0, vi 0]) M0 rfl rfl (fun c0 b7 c5 b8 => ?_)
  refine mV rfl ?_
  refine cz (k := 0) (v := b4) b8 rfl rfl rfl (TR.cnt bm.t a3) (fun a8 a2 => ?_)
  replace a2 : Mem a8 [⟨.op c0 b7 0, 112, 3, [b4]⟩] := a2
  refine nR (lD r0 rfl rfl rfl (ab (bz rfl) ?_))
  obtain ⟨c4, c1, b3⟩ := bm.g_Field a3
  refine ab (dg (k := 0) a2 rfl rfl c1) ?_
  obtain ⟨b5, b0, hres⟩ := cy hres
  have b2 := bn8  r0 b3 
  rw [b0] at b2
  refine cL b2 rfl rfl (aq (TR.clo aa.t r0) (aq (TR.clo cd.t b3) bg)) (mV rfl (nS (ae (sR (mV rfl (bN ld rfl rfl (nS ?_)))))))
  refine co hres rfl ?_ ?_ <;> clear hres <;> intro c hres <;> try simp only [qa] at c
  ·refine sR (mV rfl (mV rfl (mI rfl (nS ?_))))
   exact rT hres rfl rfl rfl rfl rfl
  ·refine az (ah (ae (sR (ab (bz rfl) (ab (dg (k := 0) a2 rfl rfl (bm.g_Kind a3)) (nS (bh (sR ?_))))))))
   refine bN ld rfl rfl (mV rfl (nS ?_))
   refine co hres rfl ?_ ?_ <;> clear hres <;> intro c hres <;> try simp only [qa] at c
   ·refine ai (mV rfl (bN dz rfl rfl (mV rfl (aw (dc (ah (ai (mV rfl ?_))))))))
    refine mV rfl (bN dz rfl rfl (mV rfl (aw (dc (ah (ai (bN dz rfl rfl (mV rfl ?_))))))))
    refine aw (cq ?_)
    have hbd := dm a7
    have hinc : wr (a0 + 1) = a0 + 1 := dt (by omega) (by omega)
    erw [hinc]
    exact wC (ih   (by omega) (by omega) (Mem.sub a2 (.cons _ .slnil)) hres) rfl
   ·refine ae (sR (bN ld rfl rfl (mV rfl (nS ?_))))
    obtain ⟨b6, a9, hres⟩ := cy hres
    refine xm (F := fun b S Q => ∀ (a1 : Bool), b6 a1 = res → RC Tryz.prog b S Q [(33, vb a1), (14, vi a0), (13, vi (x1.Keys.length : Int)), (12, a6), (10, vi b5), (8, vi a0), (7, vi a5), (6, vi a4), (2, .fp v0)] a8) ?_ ?_
    ·intro a1  hres
     rw [← a9] at hres
     refine co hres rfl ?_ ?_ <;> clear hres <;> intro c hres <;> try simp only [qa] at c
     ·refine az (dc (ah (ai (mV rfl (mV rfl (bN dz rfl rfl (mV rfl (aw ?_))))))))
      refine dc (ah (ai (bN dz rfl rfl (mV rfl (aw (cq ?_))))))
      have hbd := dm a7
      have hinc : wr (a0 + 1) = a0 + 1 := dt (by omega) (by omega)
      erw [hinc]
      exact wC (ih   (by omega) (by omega) (Mem.sub (Mem.nil a8) .slnil) hres) rfl
     ·refine sR (mV rfl (mV rfl (mI rfl (nS ?_))))
      exact rT hres rfl rfl rfl rfl rfl
    ·intro J
     refine co hres rfl ?_ ?_ <;> clear hres <;> intro c hres <;> try simp only [qa] at c
     ·refine az ?_
      refine ah (wC (J _  hres) rfl)
     ·refine ai (bN ld rfl rfl (mV rfl (aw ?_)))
      refine ah (wC (J _  hres) rfl)

theorem cx4 {x0 : aa} {x1 : ax} {v0 v1 : PV} (r0 : aa.t.R x0 v0) (r1 : ax.t.R x1 v1) : FnR Tryz.prog 74 [v0, v1] (.tup [vi ((lg x0 x1).1), vi ((lg x0 x1).2)]) := by
 refine fnS (R := RF74) bn1 (fun _ h => h) rfl fun res hres => ?_
 unfold lg at hres
 refine sR (ab (db rfl (TR.cnt aa.t r0)) (ab (db rfl (TR.cnt ax.t r1)) (mI rfl (mI rfl (nR (mI rfl (mI rfl (nS ?_))))))))
 refine ae (sR (gL (ax.g_Keys r1) rfl rfl rfl fun a4 a0 => (ab (ca rfl (bq a0 Tryz.underlying85 _)) (mI rfl (nS (bh ?_))))))
 refine wC (tw r0 a0 ?_  rfl (by omega) (Mem.sub (Mem.nil ⟨0, []⟩) .slnil) hres) rfl
 ·intro a1 a2 a5 a3 hres
  refine fa (ah (ae (sR (mV rfl (bN gb rfl rfl (nS ?_))))))
  refine co hres rfl ?_ ?_ <;> clear hres <;> intro c hres <;> try simp only [qa] at c
  ·refine sR (mI rfl (mI rfl (nS ?_)))
   exact rT hres rfl rfl rfl rfl rfl
  ·refine az (ah (ae (sR (mV rfl (bN gb rfl rfl (nS ?_))))))
   refine co hres rfl ?_ ?_ <;> clear hres <;> intro c hres <;> try simp only [qa] at c
   ·refine sR (mI rfl (mI rfl (nS ?_)))
    exact rT hres rfl rfl rfl rfl rfl
   ·refine az (ah (sR (mI rfl (mI rfl (nS ?_)))))
    exact rT hres rfl rfl rfl rfl rfl

def RF95 (res : Bool) (r : PV) : Prop := r = vb res
theorem ad8 {x0 : BitVec 32} {x1 : Int} : FnR Tryz.prog 95 [da x0, vi x1] (vb (gj x0 x1)) := by
 refine fnS (R := RF95) bp5 (fun _ h => h) rfl fun res hres => ?_
 unfold gj at hres
 refine sR (mB rfl (nR (mV rfl (ab (v := .fs true [vi x1]) (ly rfl (all_cons rfl oh)) ?_))))
 have a4 : (tSl tI).R ([x1] : List Int) (.fs true [vi x1]) := zl ⟨rfl, trivial⟩ (by simp)
 obtain ⟨a5, a1, hres⟩ := cy hres
 have a3 := ab9  a4 
 rw [a1] at a3
 refine cL a3 rfl rfl (aq (TR.clo (tSl tI) a4) bg) (mV rfl ?_)
 refine bt 5 (d := 13) (v := vb (a5 && (decide (x0 ≤ (dl x1))))) ?_ ?_
 ·intro S Q r
  cases a2 : a5
  ·exact gN 4 rfl rfl rfl rfl rfl rfl
  ·intro k
   have a0 := a2
   try simp only [qa] at a0
   refine af rfl rfl (ak rfl) (af rfl rfl (ak rfl) ?_)
   have a6 := uz (x0 := x1)  
   refine fw rfl rfl (mc rfl rfl (aq rfl bg) a6) (af rfl rfl (bd (a := da x0) (b := da (dl x1)) rfl rfl ds7) ?_)
   exact gK rfl rfl rfl rfl rfl k
 refine mV rfl (nS ?_)
 exact rR hres rfl rfl rfl

def RF78 (res : Int) (r : PV) : Prop := r = vi res
theorem sq {S : List Fr} {res : Int} {x0 : aa} {x1 : av} {b0 a4 : PV} (a3 : ((decide (x1.Action < 0)) || (decide ((x0.Actions.length : Int) ≤ x1.Action))) = false) (b3 : (tSl bw.t).R ((ix x0.Actions x1.Action).Params) b0) (a5 : (!decide ((x1.Args.length : Int) = (((ix x0.Actions x1.Action).Params).length : Int))) = false) (a7 : (tSl kg).R x1.Args a4) {K0 : Unit → Int}
  (b6 : K0 () = res → PX Tryz.prog 0 S (QR Tryz.prog [(4, none)] (RF78 res)) [] ⟨0, []⟩) :
  ∀ {m : Nat} {a0 : Int} (b4 : m = Int.toNat ((x1.Args.length : Int) - a0)) (a9 : 0 ≤ a0), ii x0 x1 K0 m a0 = res → RC Tryz.prog (.loop ce5) S (QR Tryz.prog [(4, none)] (RF78 res)) [(35, vi a0), (34, vi (x1.Args.length : Int)), (33, a4), (5, b0)] ⟨0, []⟩ := by
 have a1 := a3
 try simp only [qa] at a1
 have a2 := a5
 try simp only [qa] at a2
 intro m
 induction m with
 | zero =>
  intro a0 b4 a9 hres
  rw [ii] at hres
  refine br (sR (bN ck rfl rfl (nS (ae ?_))))
  refine bf rfl ?_ ?_ <;> intro c <;> try simp only [qa] at c
  ·omega
  refine di (dv (ct ?_))
  exact wP (b6  hres) rfl
 | succ m ih =>
  intro a0 b4 a9 hres
  rw [ii] at hres
  refine br (sR (bN ck rfl rfl (nS (ae ?_))))
  refine bf rfl ?_ ?_ <;> intro c <;> try simp only [qa] at c
  rotate_left
  ·omega
  refine az (ah (ae (bh (sR (mV rfl (ab (bn rfl rfl (zr a7 (by first | omega | (have hk := bc (by assumption) (by assumption); omega) | (have hk := tck (by assumption) (by assumption); omega) | (have hk := rtck (by assumption) (by assumption); omega) | (have hk := eck (by assumption) (by assumption) (by assumption); omega) | (have hk := tv (by assumption) (by assumption); omega) | (have hk := rtv (by assumption) (by assumption); omega)) (by first | omega | (have hk := bc (by assumption) (by assumption); omega) | (have hk := tck (by assumption) (by assumption); omega) | (have hk := rtck (by assumption) (by assumption); omega) | (have hk := eck (by assumption) (by assumption) (by assumption); omega) | (have hk := tv (by assumption) (by assumption); omega) | (have hk := rtv (by assumption) (by assumption); omega)))) (lR rfl rfl rfl (mV rfl ?_))))))))
  refine mV rfl (nR (mV rfl (mV rfl (mV rfl ?_))))
  obtain ⟨b5, b1, b2⟩ := cr (i := a0) b3 (by first | omega | (have hk := bc (by assumption) (by assumption); omega) | (have hk := tck (by assumption) (by assumption); omega) | (have hk := rtck (by assumption) (by assumption); omega) | (have hk := eck (by assumption) (by assumption) (by assumption); omega) | (have hk := tv (by assumption) (by assumption); omega) | (have hk := rtv (by assumption) (by assumption); omega)) (by first | omega | (have hk := bc (by assumption) (by assumption); omega) | (have hk := tck (by assumption) (by assumption); omega) | (have hk := rtck (by assumption) (by assumption); omega) | (have hk := eck (by assumption) (by assumption) (by assumption); omega) | (have hk := tv (by assumption) (by assumption); omega) | (have hk := rtv (by assumption) (by assumption); omega))
  refine ab (bn rfl rfl b1) (fL rfl (bw.g_Width b2) rfl rfl ?_)
  obtain ⟨b7, a6, hres⟩ := cy hres
  have a8 := ad8 (x0 := (ix x1.Args a0)) (x1 := (ix ((ix x0.Actions x1.Action).Params) a0).Width)  
  rw [a6] at a8
  refine cL a8 rfl rfl (aq rfl (aq rfl bg)) (ab (ft rfl) (nS ?_))
  refine co hres rfl ?_ ?_ <;> clear hres <;> intro c hres <;> try simp only [qa] at c
  ·refine sR (mI rfl (nS ?_))
   exact rR hres rfl rfl rfl
  ·refine az (dc (ah (ai (bN dz rfl rfl (mV rfl (aw (cq ?_)))))))
   have hbd := dm a7
   have hinc : wr (a0 + 1) = a0 + 1 := dt (by omega) (by omega)
   erw [hinc]
   exact wC (ih   (by omega) (by omega) hres) rfl

theorem bo6 {x0 : aa} {x1 : av} {v0 v1 : PV} (r0 : aa.t.R x0 v0) (r1 : av.t.R x1 v1) : FnR Tryz.prog 78 [v0, v1] (vi (kn x0 x1)) := by
 refine fnS (R := RF78) bz6 (fun _ h => h) rfl fun res hres => ?_
 unfold kn at hres
 refine sR (ab (db rfl (TR.cnt aa.t r0)) (ab (db rfl (TR.cnt av.t r1)) (mI rfl (nS (ae (sR (fL rfl (av.g_Action r1) rfl rfl (bN ck rfl rfl ?_))))))))
 refine mV rfl ?_
 refine bt 7 (d := 18) (v := vb ((decide (x1.Action < 0)) || (decide ((x0.Actions.length : Int) ≤ x1.Action)))) ?_ ?_
 ·intro S Q r
  cases a8 : (decide (x1.Action < 0))
  ·intro k
   have a2 := a8
   try simp only [qa] at a2
   refine af rfl rfl (bb rfl (av.g_Action r1)) (af rfl rfl (ba rfl rfl rfl) ?_)
   obtain ⟨c0, b1, a4⟩ := aa.g_Actions r0
   refine af rfl rfl (bb rfl b1) (af rfl rfl (ba rfl (TR.cnt (tSl cn.t) a4) (TR.agg (tSl cn.t) a4)) (af rfl rfl (ca rfl (bq a4 Tryz.underlying25 _)) (af rfl rfl (bd rfl rfl od) ?_)))
   exact gK rfl rfl rfl rfl rfl k
  ·exact gN 6 rfl rfl rfl rfl rfl rfl
 refine nS ?_
 refine co hres rfl ?_ ?_ <;> clear hres <;> intro a0 hres <;> have a3 := a0 <;> try simp only [qa] at a3
 ·refine sR (mI rfl (nS ?_))
  exact rR hres rfl rfl rfl
 ·refine az (ah (sR ?_))
  obtain ⟨c1, b5, a6⟩ := aa.g_Actions r0
  refine fA rfl b5 (lD a6 rfl rfl rfl (fL rfl (av.g_Action r1) rfl rfl ?_))
  obtain ⟨b8, b2, b3⟩ := cr (i := x1.Action) a6 (by first | omega | (have hk := bc (by assumption) (by assumption); omega) | (have hk := tck (by assumption) (by assumption); omega) | (have hk := rtck (by assumption) (by assumption); omega) | (have hk := eck (by assumption) (by assumption) (by assumption); omega) | (have hk := tv (by assumption) (by assumption); omega) | (have hk := rtv (by assumption) (by assumption); omega)) (by first | omega | (have hk := bc (by assumption) (by assumption); omega) | (have hk := tck (by assumption) (by assumption); omega) | (have hk := rtck (by assumption) (by assumption); omega) | (have hk := eck (by assumption) (by assumption) (by assumption); omega) | (have hk := tv (by assumption) (by assumption); omega) | (have hk := rtv (by assumption) (by assumption); omega))
  refine ab (bn rfl rfl b2) (gL (cn.g_Params b3) rfl rfl rfl fun b9 a9 => (mV rfl (nS (ae (sR ?_)))))
  obtain ⟨b6, b4, b0⟩ := av.g_Args r1
  refine fA rfl b4 (lD b0 rfl rfl rfl (ab (ca rfl (bq b0 Tryz.underlying33 _)) (mV rfl (ab (ca rfl (bq a9 Tryz.underlying23 _)) (bN jc rfl rfl (nS ?_))))))
  refine co hres rfl ?_ ?_ <;> clear hres <;> intro a1 hres <;> have a5 := a1 <;> try simp only [qa] at a5
  ·refine sR (mI rfl (nS ?_))
   exact rR hres rfl rfl rfl
  ·refine az (ah (ae (sR (gL (av.g_Args r1) rfl rfl rfl fun b7 a7 => (ab (ca rfl (bq a7 Tryz.underlying33 _)) (mI rfl (nS (bh ?_))))))))
   refine wC (sq a0 a9 a1 a7 ?_  rfl (by omega) hres) rfl
   ·intro  hres
    refine fa (ah (sR (mI rfl (nS ?_))))
    exact rR hres rfl rfl rfl

def RF75 (res : Int) (r : PV) : Prop := r = vi res
theorem rj {S : List Fr} {res : Int} {x0 : aa} {x1 : ax} {v0 v1 b0 : PV} {a4 a5 : Nat} (r0 : aa.t.R x0 v0) (a9 : (tSl tI).R x1.Actions b0) {K0 : (List (Int × Bool)) → Int}
  (c1 : ∀ {a1 : List (Int × Bool)} {a0 : List PV} (a3 : All2 (tKV tB).R a1 a0) {h : Heap} (M0 : Mem h [⟨.om a4 a5, 82, 2, a0⟩]), K0 a1 = res → PX Tryz.prog 0 S (QR Tryz.prog [(4, none)] (RF75 res)) [(2, .fp v0), (3, .fp v1), (5, .om a4 a5)] h) :
  ∀ {m : Nat} {a2 : Int} {a1 : List (Int × Bool)} {a0 : List PV} (a3 : All2 (tKV tB).R a1 a0) (b8 : m = Int.toNat ((x1.Actions.length : Int) - a2)) (b2 : 0 ≤ a2) {h : Heap} (M0 : Mem h [⟨.om a4 a5, 82, 2, a0⟩]), fq x0 x1 K0 m a2 a1 = res → RC Tryz.prog (.loop cf3) S (QR Tryz.prog [(4, none)] (RF75 res)) [(12, vi a2), (11, vi (x1.Actions.length : Int)), (10, b0), (5, .om a4 a5), (3, .fp v1), (2, .fp v0)] h := by
 intro m
 induction m with
 | zero =>
  intro a2 a1 a0 a3 b8 b2 h M0 hres
  rw [fq] at hres
  refine br (sR (bN ck rfl rfl (nS (ae ?_))))
  refine bf rfl ?_ ?_ <;> intro c <;> try simp only [qa] at c
  ·omega
  refine di (dv (ct ?_))
  exact wP (c1 a3 (Mem.sub M0 (.cons_cons _ .slnil)) hres) rfl
 | succ m ih =>
  intro a2 a1 a0 a3 b8 b2 h M0 hres
  rw [fq] at hres
  refine br (sR (bN ck rfl rfl (nS (ae ?_))))
  refine bf rfl ?_ ?_ <;> intro c <;> try simp only [qa] at c
  rotate_left
  ·omega
  refine az (ah (ae (bh (sR (ab (bn rfl rfl (slI a9 (by first | omega | (have hk := bc (by assumption) (by assumption); omega) | (have hk := tck (by assumption) (by assumption); omega) | (have hk := rtck (by assumption) (by assumption); omega) | (have hk := eck (by assumption) (by assumption) (by assumption); omega) | (have hk := tv (by assumption) (by assumption); omega) | (have hk := rtv (by assumption) (by assumption); omega)) (by first | omega | (have hk := bc (by assumption) (by assumption); omega) | (have hk := tck (by assumption) (by assumption); omega) | (have hk := rtck (by assumption) (by assumption); omega) | (have hk := eck (by assumption) (by assumption) (by assumption); omega) | (have hk := tv (by assumption) (by assumption); omega) | (have hk := rtv (by assumption) (by assumption); omega)))) (lR rfl rfl rfl (mV rfl (nS ?_))))))))
  refine ae (sR (mV rfl (bN ck rfl rfl (mV rfl ?_))))
  refine bt 6 (d := 24) (v := vb ((decide ((ix x1.Actions a2) < 0)) || (decide ((x0.Actions.length : Int) ≤ (ix x1.Actions a2))))) ?_ ?_
  ·intro S Q r
   cases b1 : (decide ((ix x1.Actions a2) < 0))
   ·intro k
    have a6 := b1
    try simp only [qa] at a6
    refine af rfl rfl (ak rfl) ?_
    obtain ⟨b9, b6, a8⟩ := aa.g_Actions r0
    refine af rfl rfl (bb rfl b6) (af rfl rfl (ba rfl (TR.cnt (tSl cn.t) a8) (TR.agg (tSl cn.t) a8)) (af rfl rfl (ca rfl (bq a8 Tryz.underlying25 _)) (af rfl rfl (bd rfl rfl od) ?_)))
    exact gK rfl rfl rfl rfl rfl k
   ·exact gN 5 rfl rfl rfl rfl rfl rfl
  refine nS ?_
  refine co hres rfl ?_ ?_ <;> clear hres <;> intro c hres <;> try simp only [qa] at c
  ·refine sR (mI rfl (nS ?_))
   exact rR hres rfl rfl rfl
  ·refine az (ah (ae (sR (mV rfl (mV rfl ?_)))))
   refine av4 (k := 0) (t := tB) (zero := false) M0 rfl rfl rfl a3 rfl (fun b5 a7 => ?_)
   have a7 : b5 = vb ((mget a1 (ix x1.Actions a2)).getD false) := a7; subst a7
   refine nS ?_
   refine co hres rfl ?_ ?_ <;> clear hres <;> intro c hres <;> try simp only [qa] at c
   ·refine sR (mI rfl (nS ?_))
    exact rR hres rfl rfl rfl
   ·refine az (ah (ai (mV rfl (mV rfl ?_))))
    refine bg9 (k := 0) (t := tB) (v := vb true) M0 rfl rfl rfl rfl a3 (show tB.R true (vb true) from rfl) (fun c0 b7 b4 b3 => ?_)
    refine aw (dc (ah (ai (bN dz rfl rfl (mV rfl (aw (cq ?_)))))))
    have hbd := dm a9
    have hinc : wr (a2 + 1) = a2 + 1 := dt (by omega) (by omega)
    erw [hinc]
    exact wC (ih  b3 (by omega) (by omega) (Mem.sub b4 (.cons_cons _ .slnil)) hres) rfl

theorem df4 {x0 : aa} {x1 : ax} {v0 v1 : PV} (r0 : aa.t.R x0 v0) (r1 : ax.t.R x1 v1) : FnR Tryz.prog 75 [v0, v1] (vi (ku x0 x1)) := by
 refine fnS (R := RF75) bt5 (fun _ h => h) rfl fun res hres => ?_
 unfold ku at hres
 refine sR (ab (db rfl (TR.cnt aa.t r0)) (ab (db rfl (TR.cnt ax.t r1)) (mI rfl (nR ?_))))
 refine aa2 (Mem.nil ⟨0, []⟩) (fun b6 c0 c1 b1 => ?_)
 have b0 : All2 (tKV tB).R ([] : List (Int × Bool)) [] := trivial
 refine mV rfl (nS (ae (sR (gL (ax.g_Actions r1) rfl rfl rfl fun b7 a5 => (ab (ca rfl (bq a5 Tryz.underlying29 _)) (mI rfl (nS (bh ?_))))))))
 refine wC (rj r0 a5 ?_  b0 rfl (by omega) (Mem.sub b1 (.cons_cons _ .slnil)) hres) rfl
 ·intro a0 a3 a1 b9 b3 hres
  refine fa (ah (ae (sR (mV rfl ?_))))
  obtain ⟨b4, a8, a9⟩ := ax.g_Default r1
  refine fA rfl a8 (fL rfl (av.g_Action a9) rfl rfl ?_)
  refine av4 (k := 0) (t := tB) (zero := false) b3 rfl rfl rfl a1 rfl (fun b2 a2 => ?_)
  have a2 : b2 = vb ((mget a0 x1.Default.Action).getD false) := a2; subst a2
  refine ab (ft rfl) (nS ?_)
  refine co hres rfl ?_ ?_ <;> clear hres <;> intro c hres <;> try simp only [qa] at c
  ·refine sR (mI rfl (nS ?_))
   exact rR hres rfl rfl rfl
  ·refine az (ah (sR (lD r0 rfl rfl rfl (gL (ax.g_Default r1) rfl rfl rfl fun b8 a4 => ?_))))
   obtain ⟨b5, a7, hres⟩ := cy hres
   have a6 := bo6  r0 a4 
   rw [a7] at a6
   refine cL a6 rfl rfl (aq (TR.clo aa.t r0) (aq (TR.clo av.t a4) bg)) (mV rfl (nS ?_))
   exact rR hres rfl rfl rfl

def RF39 (res : Int × Int) (r : PV) : Prop := r = .tup [vi res.1, vi res.2]
theorem ba9 {x0 : aa} {x1 : Int} {v0 : PV} (r0 : aa.t.R x0 v0) : FnR Tryz.prog 39 [v0, vi x1] (.tup [vi ((gc x0 x1).1), vi ((gc x0 x1).2)]) := by
 refine fnS (R := RF39) bo0 (fun _ h => h) rfl fun res hres => ?_
 unfold gc at hres
 refine sR (ab (db rfl (TR.cnt aa.t r0)) (mI rfl (mI rfl (nS (ae (sR (mV rfl (bN ck rfl rfl ?_))))))))
 refine mV rfl ?_
 refine bt 6 (d := 15) (v := vb ((decide (x1 < 0)) || (decide ((x0.Tables.length : Int) ≤ x1)))) ?_ ?_
 ·intro S Q r
  cases b2 : (decide (x1 < 0))
  ·intro k
   have a2 := b2
   try simp only [qa] at a2
   refine af rfl rfl (ak rfl) ?_
   obtain ⟨d5, b8, a5⟩ := aa.g_Tables r0
   refine af rfl rfl (bb rfl b8) (af rfl rfl (ba rfl (TR.cnt (tSl ax.t) a5) (TR.agg (tSl ax.t) a5)) (af rfl rfl (ca rfl (bq a5 Tryz.underlying26 _)) (af rfl rfl (bd rfl rfl od) ?_)))
   exact gK rfl rfl rfl rfl rfl k
  ·exact gN 5 rfl rfl rfl rfl rfl rfl
 refine nS ?_
 refine co hres rfl ?_ ?_ <;> clear hres <;> intro c hres <;> try simp only [qa] at c
 ·refine sR (mI rfl (mI rfl (nS ?_)))
  exact rT hres rfl rfl rfl rfl rfl
 ·refine az (ah (sR ?_))
  obtain ⟨d6, c8, a8⟩ := aa.g_Tables r0
  refine fA rfl c8 (lD a8 rfl rfl rfl (mV rfl ?_))
  obtain ⟨b0, c3, a0⟩ := cr (i := x1) a8 (by first | omega | (have hk := bc (by assumption) (by assumption); omega) | (have hk := tck (by assumption) (by assumption); omega) | (have hk := rtck (by assumption) (by assumption); omega) | (have hk := eck (by assumption) (by assumption) (by assumption); omega) | (have hk := tv (by assumption) (by assumption); omega) | (have hk := rtv (by assumption) (by assumption); omega)) (by first | omega | (have hk := bc (by assumption) (by assumption); omega) | (have hk := tck (by assumption) (by assumption); omega) | (have hk := rtck (by assumption) (by assumption); omega) | (have hk := eck (by assumption) (by assumption) (by assumption); omega) | (have hk := tv (by assumption) (by assumption); omega) | (have hk := rtv (by assumption) (by assumption); omega))
  refine ab (bn rfl rfl c3) (lD a0 rfl rfl rfl ?_)
  refine dk (x := .agg [vs [], nilS, nilS, vi 0, nilS, vi 0]) (Mem.nil ⟨0, []⟩) rfl rfl (fun b7 c4 d1 c7 => ?_)
  refine cz (k := 0) (v := b0) c7 rfl rfl rfl (TR.cnt ax.t a0) (fun c5 a1 => ?_)
  replace a1 : Mem c5 [⟨.op b7 c4 0, 87, 6, [b0]⟩] := a1
  refine nS (ae (bh (sR (ab (bz rfl) (ab (dg (k := 0) a1 rfl rfl (ax.g_Name a0)) ?_)))))
  obtain ⟨d2, b1, hres⟩ := cy hres
  have b3 := di8 (x0 := (ix x0.Tables x1).Name)  
  rw [b1] at b3
  refine cL b3 rfl rfl (aq rfl bg) (ab (ft rfl) (mV rfl (nS ?_)))
  refine co hres rfl ?_ ?_ <;> clear hres <;> intro c hres <;> try simp only [qa] at c
  ·refine sR (mI rfl (mI rfl (nS ?_)))
   exact rT hres rfl rfl rfl rfl rfl
  ·refine sR (ab (bz rfl) ?_)
   obtain ⟨d4, c1, c6⟩ := ax.g_Keys a0
   refine ab (dg (k := 0) a1 rfl rfl c1) (ab (ca rfl (bq c6 Tryz.underlying85 _)) (bN gb rfl rfl (mV rfl ?_)))
   refine bt 5 (d := 36) (v := vb ((decide (6 < (((ix x0.Tables x1).Keys).length : Int))) || (decide (16 < (((ix x0.Tables x1).Actions).length : Int))))) ?_ ?_
   ·intro S Q r
    cases b5 : (decide (6 < (((ix x0.Tables x1).Keys).length : Int)))
    ·intro k
     have a4 := b5
     try simp only [qa] at a4
     refine af rfl rfl (bz rfl) ?_
     obtain ⟨c9, b9, c0⟩ := ax.g_Actions a0
     refine af rfl rfl (dg (k := 0) a1 rfl rfl b9) (af rfl rfl (ca rfl (bq c0 Tryz.underlying29 _)) (af rfl rfl (bd rfl rfl gb) ?_))
     exact gK rfl rfl rfl rfl rfl k
    ·exact gN 4 rfl rfl rfl rfl rfl rfl
   refine mV rfl (nS ?_)
   refine co hres rfl ?_ ?_ <;> clear hres <;> intro c hres <;> try simp only [qa] at c
   ·refine sR (mI rfl (mI rfl (nS ?_)))
    exact rT hres rfl rfl rfl rfl rfl
   ·refine sR (ab (bz rfl) (ab (dg (k := 0) a1 rfl rfl (ax.g_Size a0)) (bN ck rfl rfl (mV rfl ?_))))
    refine bt 4 (d := 45) (v := vb ((decide (((ix x0.Tables x1).Size) < 1)) || (decide (256 < ((ix x0.Tables x1).Size))))) ?_ ?_
    ·intro S Q r
     cases a9 : (decide (((ix x0.Tables x1).Size) < 1))
     ·intro k
      have a3 := a9
      try simp only [qa] at a3
      refine af rfl rfl (bz rfl) (af rfl rfl (dg (k := 0) a1 rfl rfl (ax.g_Size a0)) (af rfl rfl (bd rfl rfl gb) ?_))
      exact gK rfl rfl rfl rfl rfl k
     ·exact gN 3 rfl rfl rfl rfl rfl rfl
    refine mV rfl (nS ?_)
    refine co hres rfl ?_ ?_ <;> clear hres <;> intro c hres <;> try simp only [qa] at c
    ·refine sR (mI rfl (mI rfl (nS ?_)))
     exact rT hres rfl rfl rfl rfl rfl
    ·refine az (dc (ah (ae (sR (lD r0 rfl rfl rfl (ab (gi (k := 0) a1 rfl rfl (TR.agg ax.t a0)) ?_))))))
     obtain ⟨d0, b4, hres⟩ := cy hres
     have a7 := cx4  r0 a0 
     rw [b4] at a7
     refine cL a7 rfl rfl (aq (TR.clo aa.t r0) (aq (TR.clo ax.t a0) bg)) (mV rfl (xT rfl rfl (xT rfl rfl (mV rfl (mV rfl (nR (mV rfl (bN jc rfl rfl ?_))))))))
     refine nS ?_
     refine co hres rfl ?_ ?_ <;> clear hres <;> intro c hres <;> try simp only [qa] at c
     ·refine sR (mV rfl (mV rfl (mV rfl (mV rfl (nS ?_)))))
      exact rT hres rfl rfl rfl rfl rfl
     ·refine az (ah (ae (sR (lD r0 rfl rfl rfl (ab (gi (k := 0) a1 rfl rfl (TR.agg ax.t a0)) ?_)))))
      obtain ⟨d3, b6, hres⟩ := cy hres
      have a6 := df4  r0 a0 
      rw [b6] at a6
      refine cL a6 rfl rfl (aq (TR.clo aa.t r0) (aq (TR.clo ax.t a0) bg)) (mV rfl (nR (mV rfl (bN jc rfl rfl (nS ?_)))))
      refine co hres rfl ?_ ?_ <;> clear hres <;> intro c hres <;> try simp only [qa] at c
      ·refine sR (mV rfl (mI rfl (mV rfl (nS ?_))))
       exact rT hres rfl rfl rfl rfl rfl
      ·refine az (ah (sR (mI rfl (mI rfl (nS ?_)))))
       exact rT hres rfl rfl rfl rfl rfl

def RF80 (res : Bool) (r : PV) : Prop := r = vb res
theorem bb2 {x0 : aa} {x1 : Int} {v0 : PV} (r0 : aa.t.R x0 v0) : FnR Tryz.prog 80 [v0, vi x1] (vb (fm x0 x1)) := by
 refine fnS (R := RF80) bm8 (fun _ h => h) rfl fun res hres => ?_
 unfold fm at hres
 refine sR (ab (db rfl (TR.cnt aa.t r0)) (mB rfl (nR (lD r0 rfl rfl rfl (mV rfl ?_)))))
 obtain ⟨a2, a1, hres⟩ := cy hres
 have a0 := ba9 (x1 := x1) r0 
 rw [a1] at a0
 refine cL a0 rfl rfl (aq (TR.clo aa.t r0) (aq rfl bg)) (mV rfl (xT rfl rfl (xT rfl rfl (mV rfl (mV rfl (nR (mV rfl (bN ld rfl rfl ?_))))))))
 refine mV rfl (nS ?_)
 exact rR hres rfl rfl rfl

def RF45 (res : (List Int)) (r : PV) : Prop := (tSl tI).R res r
theorem wy {S : List Fr} {res : (List Int)} {x0 : aa} {x1 : Int} {d0 : Bool} {v0 c3 : PV} (r0 : aa.t.R x0 v0) (d9 : fm x0 x1 = d0) (b5 : (!d0) = false) (c4 : (tSl bm.t).R ((ix x0.Tables x1).Keys) c3) {K0 : (List Int) → (List Int)}
  (e4 : ∀ {a2 : List Int} {a0 : List PV} {a1 : PV} (a5 : All2 tI.R a2 a0) (a7 : isL a1 = true) (a3 : Wri a1 a0) (a6 : a2.length ≤ 4611686018427387904) {h : Heap} (M0 : Mem h [⟨a1, 3, 1, a0⟩]), K0 a2 = res → PX Tryz.prog 0 S (QR Tryz.prog [(4, none)] (RF45 res)) [(5, a1)] h) :
  ∀ {m : Nat} {a4 : Int} {a2 : List Int} {a0 : List PV} {a1 : PV} (a5 : All2 tI.R a2 a0) (a7 : isL a1 = true) (a3 : Wri a1 a0) (a6 : a2.length ≤ 4611686018427387904) (e0 : m = Int.toNat ((((ix x0.Tables x1).Keys).length : Int) - a4)) (c6 : 0 ≤ a4) (b1 : (a2.length : Int) ≤ a4) {h : Heap} (M0 : Mem h [⟨a1, 3, 1, a0⟩]), jk x0 x1 K0 m a4 a2 = res → RC Tryz.prog (.loop cp8) S (QR Tryz.prog [(4, none)] (RF45 res)) [(19, vi a4), (18, vi (((ix x0.Tables x1).Keys).length : Int)), (17, c3), (5, a1), (2, .fp v0)] h := by
 have b3 := b5
 try simp only [qa] at b3
 intro m
 induction m with
 | zero =>
  intro a4 a2 a0 a1 a5 a7 a3 a6 e0 c6 b1 h M0 hres
  rw [jk] at hres
  refine br (sR (bN ck rfl rfl (nS (ae ?_))))
  refine bf rfl ?_ ?_ <;> intro c <;> try simp only [qa] at c
  ·omega
  refine di (dv (ct ?_))
  exact wP (e4 a5 a7 a3 a6 (Mem.sub M0 (.cons_cons _ .slnil)) hres) rfl
 | succ m ih =>
  intro a4 a2 a0 a1 a5 a7 a3 a6 e0 c6 b1 h M0 hres
  rw [jk] at hres
  refine br (sR (bN ck rfl rfl (nS (ae ?_))))
  refine bf rfl ?_ ?_ <;> intro c <;> try simp only [qa] at c
  rotate_left
  ·omega
  refine az (ah (ae (bh (sR ?_))))
  obtain ⟨b7, d4, b4⟩ := cr (i := a4) c4 (by first | omega | (have hk := bc (by assumption) (by assumption); omega) | (have hk := tck (by assumption) (by assumption); omega) | (have hk := rtck (by assumption) (by assumption); omega) | (have hk := eck (by assumption) (by assumption) (by assumption); omega) | (have hk := tv (by assumption) (by assumption); omega) | (have hk := rtv (by assumption) (by assumption); omega)) (by first | omega | (have hk := bc (by assumption) (by assumption); omega) | (have hk := tck (by assumption) (by assumption); omega) | (have hk := rtck (by assumption) (by assumption); omega) | (have hk := eck (by assumption) (by assumption) (by assumption); omega) | (have hk := tv (by assumption) (by assumption); omega) | (have hk := rtv (by assumption) (by assumption); omega))
  refine ab (bn rfl rfl d4) (lD b4 rfl rfl rfl ?_)
  refine dk (x := .agg [vi 0, vi 0, vi 0]) M0 rfl rfl (fun d5 d3 e1 d1 => ?_)
  refine cz (k := 0) (v := b7) d1 rfl rfl rfl (TR.cnt bm.t b4) (fun c1 b0 => ?_)
  replace b0 : Mem c1 [⟨.op d5 d3 0, 112, 3, [b7]⟩, ⟨a1, 3, 1, a0⟩] := b0
  refine nS (ai (mV rfl (lD r0 rfl rfl rfl (ab (bz rfl) ?_))))
  obtain ⟨e5, d6, b6⟩ := bm.g_Field b4
  refine ab (dg (k := 0) b0 rfl rfl d6) ?_
  obtain ⟨a8, c0, hres⟩ := cy hres
  have c9 := bn8  r0 b6 
  rw [c0] at c9
  refine cL c9 rfl rfl (aq (TR.clo aa.t r0) (aq (TR.clo cd.t b6) bg)) (ab (v := .fs true [vi a8]) (ly rfl (all_cons rfl oh)) ?_)
  have d2 : (tSl tI).R ([a8] : List Int) (.fs true [vi a8]) := zl ⟨rfl, trivial⟩ (by simp)
  obtain ⟨a9, c8, b2⟩ := zg (t := tI) (h := c1) d2
  have b8 : fits (a0.length + a9.length) 8 = true := by rw [All2.length_eq a5, All2.length_eq b2]; (try simp only [List.length_cons, List.length_nil]); exact qs (by have hk := tv (by assumption) (by assumption); omega) (by have hk := tv (by assumption) (by assumption); omega)
  refine sx (k := 1) (es := a0) (news := a9) b0 rfl rfl rfl a7 a3 c8 b8 (fun e3 e2 d7 c5 d8 => ?_)
  have b9 : All2 tI.R (a2 ++ ([a8] : List Int)) (a0 ++ a9) := All2.app a5 b2
  have c7 : (a2 ++ ([a8] : List Int)).length ≤ 4611686018427387904 := by rw [← All2.length_eq b9, List.length_append]; exact af2 b8
  refine mV rfl (aw (dc (ah (ai (bN dz rfl rfl (mV rfl (aw (cq ?_))))))))
  have hbd := dm c4
  have hinc : wr (a4 + 1) = a4 + 1 := dt (by omega) (by omega)
  erw [hinc]
  exact wC (ih  b9 d7 c5 c7 (by omega) (by omega) (by first | omega | (simp; done) | (simp only [List.length_append, List.length_cons, List.length_nil, List.length_set]; omega)) (Mem.sub d8 (.cons _ (.cons_cons _ .slnil))) hres) rfl

theorem bw9 {x0 : aa} {x1 : Int} {v0 : PV} (r0 : aa.t.R x0 v0) : ∃ r, FnR Tryz.prog 45 [v0, vi x1] r ∧ (tSl tI).R (dj x0 x1) r := by
 refine fnT (R := RF45) cc4 rfl fun res hres => ?_
 unfold dj at hres
 refine sR (ab (db rfl (TR.cnt aa.t r0)) (ab (v := nilS) (ak rfl) (nS (ae (sR (lD r0 rfl rfl rfl (mV rfl ?_)))))))
 obtain ⟨c5, a4, hres⟩ := cy hres
 have a9 := bb2 (x1 := x1) r0 
 rw [a4] at a9
 refine cL a9 rfl rfl (aq (TR.clo aa.t r0) (aq rfl bg)) (ab (ft rfl) (nS ?_))
 refine co hres rfl ?_ ?_ <;> clear hres <;> intro a3 hres <;> have a5 := a3 <;> try simp only [qa] at a5
 ·refine sR (ab (v := nilS) (ak rfl) (nS ?_))
  exact rR hres rfl (TR.clo (tSl tI) gq) gq
 ·refine az (ah (sR (ab (v := nilS) (ak rfl) (nS (ae (sR (gL (aa.g_Tables r0) rfl rfl rfl fun c0 b2 => (mV rfl ?_))))))))
  obtain ⟨c4, b8, b5⟩ := cr (i := x1) b2 (by first | omega | (have hk := bc (by assumption) (by assumption); omega) | (have hk := tck (by assumption) (by assumption); omega) | (have hk := rtck (by assumption) (by assumption); omega) | (have hk := eck (by assumption) (by assumption) (by assumption); omega) | (have hk := tv (by assumption) (by assumption); omega) | (have hk := rtv (by assumption) (by assumption); omega)) (by first | omega | (have hk := bc (by assumption) (by assumption); omega) | (have hk := tck (by assumption) (by assumption); omega) | (have hk := rtck (by assumption) (by assumption); omega) | (have hk := eck (by assumption) (by assumption) (by assumption); omega) | (have hk := tv (by assumption) (by assumption); omega) | (have hk := rtv (by assumption) (by assumption); omega))
  refine ab (bn rfl rfl b8) (gL (ax.g_Keys b5) rfl rfl rfl fun c3 b0 => (ab (ca rfl (bq b0 Tryz.underlying85 _)) (mI rfl (nS (bh ?_)))))
  have b7 := su (sz := 1) (es := []) (Mem.nil ⟨0, []⟩) 3 (.inl ⟨none, rfl, rfl⟩) (by simp)
  refine wC (wy r0 a4 a3 b0 ?_  aL rfl (.inl rfl) (by first | decide | simp) rfl (by omega) (by first | omega | (simp; done) | (simp only [List.length_append, List.length_cons, List.length_nil, List.length_set]; omega)) (Mem.sub b7 (.cons_cons _ .slnil)) hres) rfl
  ·intro a6 a8 b1 a2 a1 a7 a0 c1 b6 hres
   refine fa (ah (sR (mV rfl (mV rfl (nS ?_)))))
   obtain ⟨b9, b4, b3⟩ := zd (P := Tryz.prog) (k := 0) (t := tI) b6 rfl a1 a2 (Nat.le_trans a0 (by decide))
   subst hres
   exact fc (.tmp rfl .nil) b4 b3

def RF117 (res : (BitVec 32)) (r : PV) : Prop := r = da res
theorem cg6 {x0 x1 : Int} : FnR Tryz.prog 117 [vi x0, vi x1] (da (fd x0 x1)) := by
 refine fnS (R := RF117) bg5 (fun _ h => h) rfl fun res hres => ?_
 unfold fd at hres
 refine sR (ab (v := da 0#32) (ak rfl) (nS (ae (sR (mV rfl (ab (v := .fs true [vi x1]) (ly rfl (all_cons rfl oh)) ?_))))))
 have a5 : (tSl tI).R ([x1] : List Int) (.fs true [vi x1]) := zl ⟨rfl, trivial⟩ (by simp)
 obtain ⟨a9, a2, hres⟩ := cy hres
 have a4 := ab9  a5 
 rw [a2] at a4
 refine cL a4 rfl rfl (aq (TR.clo (tSl tI) a5) bg) (ab (ft rfl) (nS ?_))
 refine co hres rfl ?_ ?_ <;> clear hres <;> intro c hres <;> try simp only [qa] at c
 ·refine sR (ab (v := da 0#32) (ak rfl) (nS ?_))
  exact rR hres rfl rfl rfl
 ·refine az (ah (sR (mV rfl ?_)))
  obtain ⟨a8, a0, hres⟩ := cy hres
  have a3 := uz (x0 := x1)  
  rw [a0] at a3
  refine cL a3 rfl rfl (aq rfl bg) (mV rfl ?_)
  obtain ⟨a7, a1, hres⟩ := cy hres
  have a6 := uz (x0 := x1)  
  rw [a1] at a6
  refine cL a6 rfl rfl (aq rfl bg) (mV rfl (ab (ca rfl (ac6 _ _)) (mV rfl (ab (ca rfl (am1 _ _)) (ab (bd (a := da a7) (b := vi (min (max x0 0) x1)) rfl rfl (bf7 (by have hk := mv (by assumption) (by assumption); omega))) (ab (bd (a := da a8) (b := da (a7 >>> (min (max x0 0) x1).toNat)) rfl rfl ar7) (mV rfl (nS ?_))))))))
  exact rR hres rfl rfl rfl

def RF86 (res : Int × Bool) (r : PV) : Prop := r = .tup [vi res.1, vb res.2]
theorem sv {S : List Fr} {res : Int × Bool} {x0 : BitVec 32} {x1 : Int} {a4 : Bool} (a8 : gz ([x1] : List Int) = a4) (a3 : (!a4) = false) {K0 : Unit → (Int × Bool)}
  (b0 : K0 () = res → PX Tryz.prog 0 S (QR Tryz.prog [(4, none), (5, none)] (RF86 res)) [] ⟨0, []⟩) :
  ∀ {m : Nat} {a0 : Int} (a9 : m = Int.toNat ((wr (x1 + 1)) - a0)) (a6 : 0 ≤ a0), eb x0 x1 K0 m a0 = res → RC Tryz.prog (.loop ch4) S (QR Tryz.prog [(4, none), (5, none)] (RF86 res)) [(13, vi a0), (12, vi (wr (x1 + 1))), (1, vi x1), (0, da x0)] ⟨0, []⟩ := by
 have a1 := a3
 try simp only [qa] at a1
 intro m
 induction m with
 | zero =>
  intro a0 a9 a6 hres
  rw [eb] at hres
  refine br (sR (bN ck rfl rfl (nS (ae ?_))))
  refine bf rfl ?_ ?_ <;> intro c <;> try simp only [qa] at c
  ·omega
  refine di (dv (ct ?_))
  exact wP (b0  hres) rfl
 | succ m ih =>
  intro a0 a9 a6 hres
  rw [eb] at hres
  refine br (sR (bN ck rfl rfl (nS (ae ?_))))
  refine bf rfl ?_ ?_ <;> intro c <;> try simp only [qa] at c
  rotate_left
  ·omega
  refine az (ah (ae (bh (sR (mV rfl (mV rfl (nR (mV rfl ?_))))))))
  refine mV rfl ?_
  obtain ⟨a7, a5, hres⟩ := cy hres
  have a2 := cg6 (x0 := a0) (x1 := x1)  
  rw [a5] at a2
  refine cL a2 rfl rfl (aq rfl (aq rfl bg)) (mV rfl (ab (bd (a := da a7) (b := da x0) rfl rfl bb7) (nS ?_)))
  refine co hres rfl ?_ ?_ <;> clear hres <;> intro c hres <;> try simp only [qa] at c
  ·refine sR (mV rfl (mV rfl (mB rfl (nS ?_))))
   exact rT hres rfl rfl rfl rfl rfl
  ·refine az (dc (ah (ai (bN dz rfl rfl (mV rfl (aw (cq ?_)))))))
   have hinc : wr (a0 + 1) = a0 + 1 := dt (by omega) (by have hk := mv (by assumption) (by assumption); have e := dt (n := x1 + 1) (by omega) (by omega); omega)
   erw [hinc]
   exact wC (ih   (by omega) (by omega) hres) rfl

theorem bq7 {x0 : BitVec 32} {x1 : Int} : FnR Tryz.prog 86 [da x0, vi x1] (.tup [vi ((dh x0 x1).1), vb ((dh x0 x1).2)]) := by
 refine fnS (R := RF86) bp8 (fun _ h => h) rfl fun res hres => ?_
 unfold dh at hres
 refine sR (mI rfl (mB rfl (nS (ae (sR (mV rfl (ab (v := .fs true [vi x1]) (ly rfl (all_cons rfl oh)) ?_)))))))
 have a4 : (tSl tI).R ([x1] : List Int) (.fs true [vi x1]) := zl ⟨rfl, trivial⟩ (by simp)
 obtain ⟨a5, a1, hres⟩ := cy hres
 have a3 := ab9  a4 
 rw [a1] at a3
 refine cL a3 rfl rfl (aq (TR.clo (tSl tI) a4) bg) (ab (ft rfl) (nS ?_))
 refine co hres rfl ?_ ?_ <;> clear hres <;> intro a0 hres <;> have a2 := a0 <;> try simp only [qa] at a2
 ·refine sR (mI rfl (mB rfl (nS ?_)))
  exact rT hres rfl rfl rfl rfl rfl
 ·refine az (ah (ae (sR (mV rfl (bN dz rfl rfl (mI rfl (nS (bh ?_))))))))
  refine wC (sv a1 a0 ?_  rfl (by omega) hres) rfl
  ·intro  hres
   refine fa (ah (sR (mI rfl (mB rfl (nS ?_)))))
   exact rT hres rfl rfl rfl rfl rfl

end Go.Proofs.YthdnpgpnodgicaaGreat
