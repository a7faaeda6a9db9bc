/-
 The code of each function does what its plain program says.
-/
import Derived.Test.YthdnpgpnodgicaaGreatL5W4
set_option linter.unusedVariables false
set_option linter.unusedSimpArgs false
set_option maxRecDepth 100000
namespace Go.Proofs.YthdnpgpnodgicaaGreat
open Go Go.Pb Go.RowKit
def RF116 (res : Bool) (r : PV) : Prop := r = vb res
theorem xc {S : List Fr} {res : Bool} {x0 : List Int} {v0 : PV} (r0 : (tSl tI).R x0 v0) {K0 : Unit → Bool}
  (a5 : K0 () = res → PX Tryz.prog 0 S (QR Tryz.prog [(2, none)] (RF116 res)) [] ⟨0, []⟩) :
  ∀ {m : Nat} {a0 : Int} (a4 : m = Int.toNat ((x0.length : Int) - a0)) (a2 : 0 ≤ a0), kh x0 K0 m a0 = res → RC Tryz.prog (.loop bp8) S (QR Tryz.prog [(2, none)] (RF116 res)) [(7, vi a0), (6, vi (x0.length : Int)), (5, v0)] ⟨0, []⟩ := by
 intro m
 induction m with
 | zero =>
  intro a0 a4 a2 hres
  rw [kh] at hres
  refine bq (sR (bN co rfl rfl (nS (ae ?_))))
  refine bg rfl ?_ ?_ <;> intro c <;> try simp only [qa] at c
  ·omega
  refine dm (dx (cy ?_))
  exact wP (a5  hres) rfl
 | succ m ih =>
  intro a0 a4 a2 hres
  rw [kh] at hres
  refine bq (sR (bN co rfl rfl (nS (ae ?_))))
  refine bg rfl ?_ ?_ <;> intro c <;> try simp only [qa] at c
  rotate_left
  ·omega
  refine az (af (ae (bf (sR (ab (bn rfl rfl (slI r0 (by first | omega | (have hk := bb (by assumption) (by assumption); omega) | (have hk := tck (by assumption) (by assumption); omega) | (have hk := rtck (by assumption) (by assumption); omega) | (have hk := eck (by assumption) (by assumption) (by assumption); omega) | (have hk := tv (by assumption) (by assumption); omega) | (have hk := rtv (by assumption) (by assumption); omega)) (by first | omega | (have hk := bb (by assumption) (by assumption); omega) | (have hk := tck (by assumption) (by assumption); omega) | (have hk := rtck (by assumption) (by assumption); omega) | (have hk := eck (by assumption) (by assumption) (by assumption); omega) | (have hk := tv (by assumption) (by assumption); omega) | (have hk := rtv (by assumption) (by assumption); omega)))) (lR rfl rfl rfl (mV rfl (nR ?_))))))))
  refine mV rfl (bN co rfl rfl (mV rfl ?_))
  refine bv 3 (d := 16) (v := vb ((decide ((ix x0 a0) < 1)) || (decide (32 < (ix x0 a0))))) ?_ ?_
  ·intro S Q r
   cases a3 : (decide ((ix x0 a0) < 1))
   ·intro k
    have a1 := a3
    try simp only [qa] at a1
    refine ai rfl rfl (am rfl) (ai rfl rfl (bd rfl rfl gi) ?_)
    exact gK rfl rfl rfl rfl rfl k
   ·exact gN 2 rfl rfl rfl rfl rfl rfl
  refine nS ?_
  refine cq hres rfl ?_ ?_ <;> clear hres <;> intro c hres <;> try simp only [qa] at c
  ·refine sR (mB rfl (nS ?_))
   exact rR hres rfl rfl rfl
  ·refine az (dg (af (ah (bN eg rfl rfl (mV rfl (aw (ct ?_)))))))
   have hbd := du r0
   have hinc : wr (a0 + 1) = a0 + 1 := dw (by omega) (by omega)
   erw [hinc]
   exact wC (ih   (by omega) (by omega) hres) rfl

theorem ab6 {x0 : List Int} {v0 : PV} (r0 : (tSl tI).R x0 v0) : FnR Tryz.prog 116 [v0] (vb (ii x0)) := by
 refine fnS (R := RF116) bf1 (fun _ h => h) rfl fun res hres => ?_
 unfold ii at hres
 refine sR (mB rfl (nS (ae (sR (mV rfl (ab (cd rfl (br r0 Tryz.underlying29 _)) (mI rfl (nS ?_))))))))
 refine bf ?_
 refine wC (xc r0 ?_  rfl (by omega) hres) rfl
 ·intro  hres
  refine fd (af (sR (mB rfl (nS ?_))))
  exact rR hres rfl rfl rfl

def RF113 (res : (BitVec 32)) (r : PV) : Prop := r = df res
theorem vx {x0 : Int} : FnR Tryz.prog 113 [vi x0] (df (dq x0)) := by
 refine fnS (R := RF113) bd6 (fun _ h => h) rfl fun res hres => ?_
 unfold dq at hres
 refine sR (ab (v := df 0#32) (am rfl) (nS (ae (sR (mV rfl (ab (v := .fs true [vi x0]) (lj rfl (all_cons rfl og)) ?_))))))
 have a1 : (tSl tI).R ([x0] : List Int) (.fs true [vi x0]) := zu ⟨rfl, trivial⟩ (by simp)
 obtain ⟨a3, a0, hres⟩ := dc hres
 have a2 := ab6  a1 
 rw [a0] at a2
 refine cL a2 rfl rfl (aq (TR.clo (tSl tI) a1) bm) (ab (gc rfl) (nS ?_))
 refine cq hres rfl ?_ ?_ <;> clear hres <;> intro c hres <;> try simp only [qa] at c
 ·refine sR (ab (v := df 0#32) (am rfl) (nS ?_))
  exact rR hres rfl rfl rfl
 ·refine az (af (sR (mV rfl (bN aa5 rfl rfl (ab (bd (a := df 4294967295#32) (b := vi (wr (32 - x0))) rfl rfl (bi3 (by first | omega | exact ce3 (by assumption) (by assumption)))) (mV rfl (nS ?_)))))))
  exact rR hres rfl rfl rfl

def RF81 (res : Int) (r : PV) : Prop := r = vi res
theorem ca5 {x0 : aa} {x1 : cf} {v0 v1 : PV} (r0 : aa.t.R x0 v0) (r1 : cf.t.R x1 v1) : FnR Tryz.prog 81 [v0, v1] (vi (oq x0 x1)) := by
 refine fnS (R := RF81) bq4 (fun _ h => h) rfl fun res hres => ?_
 unfold oq at hres
 refine sR (ab (dh rfl (TR.cnt aa.t r0)) (ab (dh rfl (TR.cnt cf.t r1)) (mI rfl (nR (lD r0 rfl rfl rfl (fL rfl (cf.g_Header r1) rfl rfl ?_))))))
 obtain ⟨b1, a1, hres⟩ := dc hres
 obtain ⟨b2, a9, a0⟩ := cg7 (x1 := x1.Header) r0 
 rw [a1] at a0
 refine cL a9 rfl rfl (aq (TR.clo aa.t r0) (aq rfl bm)) (fL rfl (cf.g_Field r1) rfl rfl ?_)
 obtain ⟨a6, a3, hres⟩ := dc hres
 obtain ⟨b0, a8, a5⟩ := ci6 (x1 := x1.Field) a0 
 rw [a3] at a5
 refine cL a8 rfl rfl (aq (TR.clo (tSl bw.t) a0) (aq rfl bm)) (ab (av4 rfl (bw.g_Width a5)) (mV rfl (nS (ae (sR (mV rfl ?_))))))
 obtain ⟨a7, a2, hres⟩ := dc hres
 have a4 := vx (x0 := a6.Width)  
 rw [a2] at a4
 refine cL a4 rfl rfl (aq rfl bm) (ab (bd (a := df a7) (b := df 0#32) rfl rfl bj4) (nS ?_))
 refine cq hres rfl ?_ ?_ <;> clear hres <;> intro c hres <;> try simp only [qa] at c
 ·refine sR (mI rfl (nS ?_))
  exact rR hres rfl rfl rfl
 ·refine az (af (sR (mV rfl (mV rfl (nS ?_)))))
  exact rR hres rfl rfl rfl

def RF74 (res : Int × Int) (r : PV) : Prop := r = .tup [vi res.1, vi res.2]
theorem ub {S : List Fr} {res : Int × Int} {x0 : aa} {x1 : ax} {v0 a6 : PV} (r0 : aa.t.R x0 v0) (a7 : (tSl bh.t).R x1.Keys a6) {K0 : Int → Int → (Int × Int)}
  (c5 : ∀ {a4 a5 : Int} {h : Heap} (M0 : Mem h []), K0 a4 a5 = res → PX Tryz.prog 0 S (QR Tryz.prog [(4, none), (5, none)] (RF74 res)) [(6, vi a4), (7, vi a5)] h) :
  ∀ {m : Nat} {a4 a5 a0 : Int} (c3 : m = Int.toNat ((x1.Keys.length : Int) - a0)) (b0 : 0 ≤ a0) {h : Heap} (M0 : Mem h []), gu x0 x1 K0 m a4 a5 a0 = res → RC Tryz.prog (.loop cn6) S (QR Tryz.prog [(4, none), (5, none)] (RF74 res)) [(14, vi a0), (13, vi (x1.Keys.length : Int)), (12, a6), (7, vi a5), (6, vi a4), (2, .fp v0)] h := by
 intro m
 induction m with
 | zero =>
  intro a4 a5 a0 c3 b0 h M0 hres
  rw [gu] at hres
  refine bq (sR (bN co rfl rfl (nS (ae ?_))))
  refine bg rfl ?_ ?_ <;> intro c <;> try simp only [qa] at c
  ·omega
  refine dm (dx (cy ?_))
  exact wP (c5 (Mem.sub M0 .slnil) hres) rfl
 | succ m ih =>
  intro a4 a5 a0 c3 b0 h M0 hres
  rw [gu] at hres
  refine bq (sR (bN co rfl rfl (nS (ae ?_))))
  refine bg rfl ?_ ?_ <;> intro c <;> try simp only [qa] at c
  rotate_left
  ·omega
  refine az (af (ae (bf (sR (mV rfl ?_)))))
  obtain ⟨b2, b7, a3⟩ := cx (i := a0) a7 (by first | omega | (have hk := bb (by assumption) (by assumption); omega) | (have hk := tck (by assumption) (by assumption); omega) | (have hk := rtck (by assumption) (by assumption); omega) | (have hk := eck (by assumption) (by assumption) (by assumption); omega) | (have hk := tv (by assumption) (by assumption); omega) | (have hk := rtv (by assumption) (by assumption); omega)) (by first | omega | (have hk := bb (by assumption) (by assumption); omega) | (have hk := tck (by assumption) (by assumption); omega) | (have hk := rtck (by assumption) (by assumption); omega) | (have hk := eck (by assumption) (by assumption) (by assumption); omega) | (have hk := tv (by assumption) (by assumption); omega) | (have hk := rtv (by assumption) (by assumption); omega))
  refine ab (bn rfl rfl b7) (lD a3 rfl rfl rfl ?_)
  refine dt (x := .agg [vi 0, vi 0, vi 0]) M0 rfl rfl (fun b5 c0 c4 b9 => ?_)
  refine mV rfl ?_
  refine de (k := 0) (v := b2) b9 rfl rfl rfl (TR.cnt bh.t a3) (fun a8 a2 => ?_)
  replace a2 : Mem a8 [⟨.op b5 c0 0, 112, 3, [b2]⟩] := a2
  refine nR (lD r0 rfl rfl rfl (ab (bz rfl) ?_))
  obtain ⟨c6, c1, b4⟩ := bh.g_Field a3
  refine ab (dl (k := 0) a2 rfl rfl c1) ?_
  obtain ⟨b8, b1, hres⟩ := dc hres
  have b3 := ca5  r0 b4 
  rw [b1] at b3
  refine cL b3 rfl rfl (aq (TR.clo aa.t r0) (aq (TR.clo cf.t b4) bm)) (mV rfl (nS (ae (sR (mV rfl (bN lh rfl rfl (nS ?_)))))))
  refine cq hres rfl ?_ ?_ <;> clear hres <;> intro c hres <;> try simp only [qa] at c
  ·refine sR (mV rfl (mV rfl (mI rfl (nS ?_))))
   exact rT hres rfl rfl rfl rfl rfl
  ·refine az (af (ae (sR (ab (bz rfl) (ab (dl (k := 0) a2 rfl rfl (bh.g_Kind a3)) (nS (bf (sR ?_))))))))
   refine bN lh rfl rfl (mV rfl (nS ?_))
   refine cq hres rfl ?_ ?_ <;> clear hres <;> intro c hres <;> try simp only [qa] at c
   ·refine ah (mV rfl (bN eg rfl rfl (mV rfl (aw (dg (af (ah (mV rfl ?_))))))))
    refine mV rfl (bN eg rfl rfl (mV rfl (aw (dg (af (ah (bN eg rfl rfl (mV rfl ?_))))))))
    refine aw (ct ?_)
    have hbd := du a7
    have hinc : wr (a0 + 1) = a0 + 1 := dw (by omega) (by omega)
    erw [hinc]
    exact wC (ih   (by omega) (by omega) (Mem.sub a2 (.cons _ .slnil)) hres) rfl
   ·refine ae (sR (bN lh rfl rfl (mV rfl (nS ?_))))
    obtain ⟨b6, a9, hres⟩ := dc hres
    refine yy (F := fun b S Q => ∀ (a1 : Bool), b6 a1 = res → RC Tryz.prog b S Q [(33, vb a1), (14, vi a0), (13, vi (x1.Keys.length : Int)), (12, a6), (10, vi b8), (8, vi a0), (7, vi a5), (6, vi a4), (2, .fp v0)] a8) ?_ ?_
    ·intro a1  hres
     rw [← a9] at hres
     refine cq hres rfl ?_ ?_ <;> clear hres <;> intro c hres <;> try simp only [qa] at c
     ·refine az (dg (af (ah (mV rfl (mV rfl (bN eg rfl rfl (mV rfl (aw ?_))))))))
      refine dg (af (ah (bN eg rfl rfl (mV rfl (aw (ct ?_))))))
      have hbd := du a7
      have hinc : wr (a0 + 1) = a0 + 1 := dw (by omega) (by omega)
      erw [hinc]
      exact wC (ih   (by omega) (by omega) (Mem.sub (Mem.nil a8) .slnil) hres) rfl
     ·refine sR (mV rfl (mV rfl (mI rfl (nS ?_))))
      exact rT hres rfl rfl rfl rfl rfl
    ·intro J
     refine cq hres rfl ?_ ?_ <;> clear hres <;> intro c hres <;> try simp only [qa] at c
     ·refine az ?_
      refine af (wC (J _  hres) rfl)
     ·refine ah (bN lh rfl rfl (mV rfl (aw ?_)))
      refine af (wC (J _  hres) rfl)

theorem dk6 {x0 : aa} {x1 : ax} {v0 v1 : PV} (r0 : aa.t.R x0 v0) (r1 : ax.t.R x1 v1) : FnR Tryz.prog 74 [v0, v1] (.tup [vi ((ll x0 x1).1), vi ((ll x0 x1).2)]) := by
 refine fnS (R := RF74) ce1 (fun _ h => h) rfl fun res hres => ?_
 unfold ll at hres
 refine sR (ab (dh rfl (TR.cnt aa.t r0)) (ab (dh rfl (TR.cnt ax.t r1)) (mI rfl (mI rfl (nR (mI rfl (mI rfl (nS ?_))))))))
 refine ae (sR (gL (ax.g_Keys r1) rfl rfl rfl fun a4 a0 => (ab (cd rfl (br a0 Tryz.underlying85 _)) (mI rfl (nS (bf ?_))))))
 refine wC (ub r0 a0 ?_  rfl (by omega) (Mem.sub (Mem.nil ⟨0, []⟩) .slnil) hres) rfl
 ·intro a1 a2 a3 a5 hres
  refine fd (af (ae (sR (mV rfl (bN gi rfl rfl (nS ?_))))))
  refine cq hres rfl ?_ ?_ <;> clear hres <;> intro c hres <;> try simp only [qa] at c
  ·refine sR (mI rfl (mI rfl (nS ?_)))
   exact rT hres rfl rfl rfl rfl rfl
  ·refine az (af (ae (sR (mV rfl (bN gi rfl rfl (nS ?_))))))
   refine cq hres rfl ?_ ?_ <;> clear hres <;> intro c hres <;> try simp only [qa] at c
   ·refine sR (mI rfl (mI rfl (nS ?_)))
    exact rT hres rfl rfl rfl rfl rfl
   ·refine az (af (sR (mI rfl (mI rfl (nS ?_)))))
    exact rT hres rfl rfl rfl rfl rfl

def RF95 (res : Bool) (r : PV) : Prop := r = vb res
theorem ah7 {x0 : BitVec 32} {x1 : Int} : FnR Tryz.prog 95 [df x0, vi x1] (vb (gz x0 x1)) := by
 refine fnS (R := RF95) cb2 (fun _ h => h) rfl fun res hres => ?_
 unfold gz at hres
 refine sR (mB rfl (nR (mV rfl (ab (v := .fs true [vi x1]) (lj rfl (all_cons rfl og)) ?_))))
 have a3 : (tSl tI).R ([x1] : List Int) (.fs true [vi x1]) := zu ⟨rfl, trivial⟩ (by simp)
 obtain ⟨a1, a2, hres⟩ := dc hres
 have a4 := ab6  a3 
 rw [a2] at a4
 refine cL a4 rfl rfl (aq (TR.clo (tSl tI) a3) bm) (mV rfl ?_)
 refine bv 5 (d := 13) (v := vb (a1 && (decide (x0 ≤ (dq x1))))) ?_ ?_
 ·intro S Q r
  cases a5 : a1
  ·exact gN 4 rfl rfl rfl rfl rfl rfl
  ·intro k
   have a0 := a5
   try simp only [qa] at a0
   refine ai rfl rfl (am rfl) (ai rfl rfl (am rfl) ?_)
   have a6 := vx (x0 := x1)  
   refine fu rfl rfl (mb rfl rfl (aq rfl bm) a6) (ai rfl rfl (bd (a := df x0) (b := df (dq x1)) rfl rfl do3) ?_)
   exact gK rfl rfl rfl rfl rfl k
 refine mV rfl (nS ?_)
 exact rR hres rfl rfl rfl

def RF78 (res : Int) (r : PV) : Prop := r = vi res
theorem ti {S : List Fr} {res : Int} {x0 : aa} {x1 : av} {a8 b0 : PV} (a7 : ((decide (x1.Action < 0)) || (decide ((x0.Actions.length : Int) ≤ x1.Action))) = false) (b2 : (tSl bw.t).R ((ix x0.Actions x1.Action).Params) a8) (a9 : (!decide ((x1.Args.length : Int) = (((ix x0.Actions x1.Action).Params).length : Int))) = false) (a3 : (tSl ko).R x1.Args b0) {K0 : Unit → Int}
  (b6 : K0 () = res → PX Tryz.prog 0 S (QR Tryz.prog [(4, none)] (RF78 res)) [] ⟨0, []⟩) :
  ∀ {m : Nat} {a0 : Int} (b4 : m = Int.toNat ((x1.Args.length : Int) - a0)) (a4 : 0 ≤ a0), il x0 x1 K0 m a0 = res → RC Tryz.prog (.loop cn0) S (QR Tryz.prog [(4, none)] (RF78 res)) [(35, vi a0), (34, vi (x1.Args.length : Int)), (33, b0), (5, a8)] ⟨0, []⟩ := by
 have a2 := a7
 try simp only [qa] at a2
 have a1 := a9
 try simp only [qa] at a1
 intro m
 induction m with
 | zero =>
  intro a0 b4 a4 hres
  rw [il] at hres
  refine bq (sR (bN co rfl rfl (nS (ae ?_))))
  refine bg rfl ?_ ?_ <;> intro c <;> try simp only [qa] at c
  ·omega
  refine dm (dx (cy ?_))
  exact wP (b6  hres) rfl
 | succ m ih =>
  intro a0 b4 a4 hres
  rw [il] at hres
  refine bq (sR (bN co rfl rfl (nS (ae ?_))))
  refine bg rfl ?_ ?_ <;> intro c <;> try simp only [qa] at c
  rotate_left
  ·omega
  refine az (af (ae (bf (sR (mV rfl (ab (bn rfl rfl (zw a3 (by first | omega | (have hk := bb (by assumption) (by assumption); omega) | (have hk := tck (by assumption) (by assumption); omega) | (have hk := rtck (by assumption) (by assumption); omega) | (have hk := eck (by assumption) (by assumption) (by assumption); omega) | (have hk := tv (by assumption) (by assumption); omega) | (have hk := rtv (by assumption) (by assumption); omega)) (by first | omega | (have hk := bb (by assumption) (by assumption); omega) | (have hk := tck (by assumption) (by assumption); omega) | (have hk := rtck (by assumption) (by assumption); omega) | (have hk := eck (by assumption) (by assumption) (by assumption); omega) | (have hk := tv (by assumption) (by assumption); omega) | (have hk := rtv (by assumption) (by assumption); omega)))) (lR rfl rfl rfl (mV rfl ?_))))))))
  refine mV rfl (nR (mV rfl (mV rfl (mV rfl ?_))))
  obtain ⟨b7, b1, b3⟩ := cx (i := a0) b2 (by first | omega | (have hk := bb (by assumption) (by assumption); omega) | (have hk := tck (by assumption) (by assumption); omega) | (have hk := rtck (by assumption) (by assumption); omega) | (have hk := eck (by assumption) (by assumption) (by assumption); omega) | (have hk := tv (by assumption) (by assumption); omega) | (have hk := rtv (by assumption) (by assumption); omega)) (by first | omega | (have hk := bb (by assumption) (by assumption); omega) | (have hk := tck (by assumption) (by assumption); omega) | (have hk := rtck (by assumption) (by assumption); omega) | (have hk := eck (by assumption) (by assumption) (by assumption); omega) | (have hk := tv (by assumption) (by assumption); omega) | (have hk := rtv (by assumption) (by assumption); omega))
  refine ab (bn rfl rfl b1) (fL rfl (bw.g_Width b3) rfl rfl ?_)
  obtain ⟨b5, a5, hres⟩ := dc hres
  have a6 := ah7 (x0 := (ix x1.Args a0)) (x1 := (ix ((ix x0.Actions x1.Action).Params) a0).Width)  
  rw [a5] at a6
  refine cL a6 rfl rfl (aq rfl (aq rfl bm)) (ab (gc rfl) (nS ?_))
  refine cq hres rfl ?_ ?_ <;> clear hres <;> intro c hres <;> try simp only [qa] at c
  ·refine sR (mI rfl (nS ?_))
   exact rR hres rfl rfl rfl
  ·refine az (dg (af (ah (bN eg rfl rfl (mV rfl (aw (ct ?_)))))))
   have hbd := du a3
   have hinc : wr (a0 + 1) = a0 + 1 := dw (by omega) (by omega)
   erw [hinc]
   exact wC (ih   (by omega) (by omega) hres) rfl

theorem bv2 {x0 : aa} {x1 : av} {v0 v1 : PV} (r0 : aa.t.R x0 v0) (r1 : av.t.R x1 v1) : FnR Tryz.prog 78 [v0, v1] (vi (kr x0 x1)) := by
 refine fnS (R := RF78) br1 (fun _ h => h) rfl fun res hres => ?_
 unfold kr at hres
 refine sR (ab (dh rfl (TR.cnt aa.t r0)) (ab (dh rfl (TR.cnt av.t r1)) (mI rfl (nS (ae (sR (fL rfl (av.g_Action r1) rfl rfl (bN co rfl rfl ?_))))))))
 refine mV rfl ?_
 refine bv 7 (d := 18) (v := vb ((decide (x1.Action < 0)) || (decide ((x0.Actions.length : Int) ≤ x1.Action)))) ?_ ?_
 ·intro S Q r
  cases a8 : (decide (x1.Action < 0))
  ·intro k
   have a3 := a8
   try simp only [qa] at a3
   refine ai rfl rfl (bc rfl (av.g_Action r1)) (ai rfl rfl (ba rfl rfl rfl) ?_)
   obtain ⟨c0, b4, a2⟩ := aa.g_Actions r0
   refine ai rfl rfl (bc rfl b4) (ai rfl rfl (ba rfl (TR.cnt (tSl cp.t) a2) (TR.agg (tSl cp.t) a2)) (ai rfl rfl (cd rfl (br a2 Tryz.underlying25 _)) (ai rfl rfl (bd rfl rfl oa) ?_)))
   exact gK rfl rfl rfl rfl rfl k
  ·exact gN 6 rfl rfl rfl rfl rfl rfl
 refine nS ?_
 refine cq hres rfl ?_ ?_ <;> clear hres <;> intro a0 hres <;> have a5 := a0 <;> try simp only [qa] at a5
 ·refine sR (mI rfl (nS ?_))
  exact rR hres rfl rfl rfl
 ·refine az (af (sR ?_))
  obtain ⟨b6, b1, a9⟩ := aa.g_Actions r0
  refine fA rfl b1 (lD a9 rfl rfl rfl (fL rfl (av.g_Action r1) rfl rfl ?_))
  obtain ⟨b7, b5, b2⟩ := cx (i := x1.Action) a9 (by first | omega | (have hk := bb (by assumption) (by assumption); omega) | (have hk := tck (by assumption) (by assumption); omega) | (have hk := rtck (by assumption) (by assumption); omega) | (have hk := eck (by assumption) (by assumption) (by assumption); omega) | (have hk := tv (by assumption) (by assumption); omega) | (have hk := rtv (by assumption) (by assumption); omega)) (by first | omega | (have hk := bb (by assumption) (by assumption); omega) | (have hk := tck (by assumption) (by assumption); omega) | (have hk := rtck (by assumption) (by assumption); omega) | (have hk := eck (by assumption) (by assumption) (by assumption); omega) | (have hk := tv (by assumption) (by assumption); omega) | (have hk := rtv (by assumption) (by assumption); omega))
  refine ab (bn rfl rfl b5) (gL (cp.g_Params b2) rfl rfl rfl fun b8 a7 => (mV rfl (nS (ae (sR ?_)))))
  obtain ⟨c1, b3, b0⟩ := av.g_Args r1
  refine fA rfl b3 (lD b0 rfl rfl rfl (ab (cd rfl (br b0 Tryz.underlying33 _)) (mV rfl (ab (cd rfl (br a7 Tryz.underlying23 _)) (bN jk rfl rfl (nS ?_))))))
  refine cq hres rfl ?_ ?_ <;> clear hres <;> intro a1 hres <;> have a4 := a1 <;> try simp only [qa] at a4
  ·refine sR (mI rfl (nS ?_))
   exact rR hres rfl rfl rfl
  ·refine az (af (ae (sR (gL (av.g_Args r1) rfl rfl rfl fun b9 a6 => (ab (cd rfl (br a6 Tryz.underlying33 _)) (mI rfl (nS (bf ?_))))))))
   refine wC (ti a0 a7 a1 a6 ?_  rfl (by omega) hres) rfl
   ·intro  hres
    refine fd (af (sR (mI rfl (nS ?_))))
    exact rR hres rfl rfl rfl

def RF75 (res : Int) (r : PV) : Prop := r = vi res
theorem si {S : List Fr} {res : Int} {x0 : aa} {x1 : ax} {v0 v1 b2 : PV} {a5 a4 : Nat} (r0 : aa.t.R x0 v0) (b0 : (tSl tI).R x1.Actions b2) {K0 : (List (Int × Bool)) → Int}
  (b9 : ∀ {a1 : List (Int × Bool)} {a0 : List PV} (a3 : All2 (tKV tB).R a1 a0) {h : Heap} (M0 : Mem h [⟨.om a5 a4, 82, 2, a0⟩]), K0 a1 = res → PX Tryz.prog 0 S (QR Tryz.prog [(4, none)] (RF75 res)) [(2, .fp v0), (3, .fp v1), (5, .om a5 a4)] h) :
  ∀ {m : Nat} {a2 : Int} {a1 : List (Int × Bool)} {a0 : List PV} (a3 : All2 (tKV tB).R a1 a0) (b8 : m = Int.toNat ((x1.Actions.length : Int) - a2)) (b1 : 0 ≤ a2) {h : Heap} (M0 : Mem h [⟨.om a5 a4, 82, 2, a0⟩]), fw x0 x1 K0 m a2 a1 = res → RC Tryz.prog (.loop cg3) S (QR Tryz.prog [(4, none)] (RF75 res)) [(12, vi a2), (11, vi (x1.Actions.length : Int)), (10, b2), (5, .om a5 a4), (3, .fp v1), (2, .fp v0)] h := by
 intro m
 induction m with
 | zero =>
  intro a2 a1 a0 a3 b8 b1 h M0 hres
  rw [fw] at hres
  refine bq (sR (bN co rfl rfl (nS (ae ?_))))
  refine bg rfl ?_ ?_ <;> intro c <;> try simp only [qa] at c
  ·omega
  refine dm (dx (cy ?_))
  exact wP (b9 a3 (Mem.sub M0 (.cons_cons _ .slnil)) hres) rfl
 | succ m ih =>
  intro a2 a1 a0 a3 b8 b1 h M0 hres
  rw [fw] at hres
  refine bq (sR (bN co rfl rfl (nS (ae ?_))))
  refine bg rfl ?_ ?_ <;> intro c <;> try simp only [qa] at c
  rotate_left
  ·omega
  refine az (af (ae (bf (sR (ab (bn rfl rfl (slI b0 (by first | omega | (have hk := bb (by assumption) (by assumption); omega) | (have hk := tck (by assumption) (by assumption); omega) | (have hk := rtck (by assumption) (by assumption); omega) | (have hk := eck (by assumption) (by assumption) (by assumption); omega) | (have hk := tv (by assumption) (by assumption); omega) | (have hk := rtv (by assumption) (by assumption); omega)) (by first | omega | (have hk := bb (by assumption) (by assumption); omega) | (have hk := tck (by assumption) (by assumption); omega) | (have hk := rtck (by assumption) (by assumption); omega) | (have hk := eck (by assumption) (by assumption) (by assumption); omega) | (have hk := tv (by assumption) (by assumption); omega) | (have hk := rtv (by assumption) (by assumption); omega)))) (lR rfl rfl rfl (mV rfl (nS ?_))))))))
  refine ae (sR (mV rfl (bN co rfl rfl (mV rfl ?_))))
  refine bv 6 (d := 24) (v := vb ((decide ((ix x1.Actions a2) < 0)) || (decide ((x0.Actions.length : Int) ≤ (ix x1.Actions a2))))) ?_ ?_
  ·intro S Q r
   cases a9 : (decide ((ix x1.Actions a2) < 0))
   ·intro k
    have a7 := a9
    try simp only [qa] at a7
    refine ai rfl rfl (am rfl) ?_
    obtain ⟨c1, b4, a8⟩ := aa.g_Actions r0
    refine ai rfl rfl (bc rfl b4) (ai rfl rfl (ba rfl (TR.cnt (tSl cp.t) a8) (TR.agg (tSl cp.t) a8)) (ai rfl rfl (cd rfl (br a8 Tryz.underlying25 _)) (ai rfl rfl (bd rfl rfl oa) ?_)))
    exact gK rfl rfl rfl rfl rfl k
   ·exact gN 5 rfl rfl rfl rfl rfl rfl
  refine nS ?_
  refine cq hres rfl ?_ ?_ <;> clear hres <;> intro c hres <;> try simp only [qa] at c
  ·refine sR (mI rfl (nS ?_))
   exact rR hres rfl rfl rfl
  ·refine az (af (ae (sR (mV rfl (mV rfl ?_)))))
   refine av7 (k := 0) (t := tB) (zero := false) M0 rfl rfl rfl a3 rfl (fun b6 a6 => ?_)
   have a6 : b6 = vb ((mget a1 (ix x1.Actions a2)).getD false) := a6; subst a6
   refine nS ?_
   refine cq hres rfl ?_ ?_ <;> clear hres <;> intro c hres <;> try simp only [qa] at c
   ·refine sR (mI rfl (nS ?_))
    exact rR hres rfl rfl rfl
   ·refine az (af (ah (mV rfl (mV rfl ?_))))
    refine bg4 (k := 0) (t := tB) (v := vb true) M0 rfl rfl rfl rfl a3 (show tB.R true (vb true) from rfl) (fun c0 b7 b3 b5 => ?_)
    refine aw (dg (af (ah (bN eg rfl rfl (mV rfl (aw (ct ?_)))))))
    have hbd := du b0
    have hinc : wr (a2 + 1) = a2 + 1 := dw (by omega) (by omega)
    erw [hinc]
    exact wC (ih  b5 (by omega) (by omega) (Mem.sub b3 (.cons_cons _ .slnil)) hres) rfl

theorem di7 {x0 : aa} {x1 : ax} {v0 v1 : PV} (r0 : aa.t.R x0 v0) (r1 : ax.t.R x1 v1) : FnR Tryz.prog 75 [v0, v1] (vi (kx x0 x1)) := by
 refine fnS (R := RF75) cd5 (fun _ h => h) rfl fun res hres => ?_
 unfold kx at hres
 refine sR (ab (dh rfl (TR.cnt aa.t r0)) (ab (dh rfl (TR.cnt ax.t r1)) (mI rfl (nR ?_))))
 refine ac2 (Mem.nil ⟨0, []⟩) (fun c0 b7 b5 b3 => ?_)
 have a9 : All2 (tKV tB).R ([] : List (Int × Bool)) [] := trivial
 refine mV rfl (nS (ae (sR (gL (ax.g_Actions r1) rfl rfl rfl fun c1 a4 => (ab (cd rfl (br a4 Tryz.underlying29 _)) (mI rfl (nS (bf ?_))))))))
 refine wC (si r0 a4 ?_  a9 rfl (by omega) (Mem.sub b3 (.cons_cons _ .slnil)) hres) rfl
 ·intro a0 a3 a1 b4 b1 hres
  refine fd (af (ae (sR (mV rfl ?_))))
  obtain ⟨b9, b2, a8⟩ := ax.g_Default r1
  refine fA rfl b2 (fL rfl (av.g_Action a8) rfl rfl ?_)
  refine av7 (k := 0) (t := tB) (zero := false) b1 rfl rfl rfl a1 rfl (fun b0 a2 => ?_)
  have a2 : b0 = vb ((mget a0 x1.Default.Action).getD false) := a2; subst a2
  refine ab (gc rfl) (nS ?_)
  refine cq hres rfl ?_ ?_ <;> clear hres <;> intro c hres <;> try simp only [qa] at c
  ·refine sR (mI rfl (nS ?_))
   exact rR hres rfl rfl rfl
  ·refine az (af (sR (lD r0 rfl rfl rfl (gL (ax.g_Default r1) rfl rfl rfl fun b6 a6 => ?_))))
   obtain ⟨b8, a5, hres⟩ := dc hres
   have a7 := bv2  r0 a6 
   rw [a5] at a7
   refine cL a7 rfl rfl (aq (TR.clo aa.t r0) (aq (TR.clo av.t a6) bm)) (mV rfl (nS ?_))
   exact rR hres rfl rfl rfl

def RF39 (res : Int × Int) (r : PV) : Prop := r = .tup [vi res.1, vi res.2]
theorem bb3 {x0 : aa} {x1 : Int} {v0 : PV} (r0 : aa.t.R x0 v0) : FnR Tryz.prog 39 [v0, vi x1] (.tup [vi ((gj x0 x1).1), vi ((gj x0 x1).2)]) := by
 refine fnS (R := RF39) cc4 (fun _ h => h) rfl fun res hres => ?_
 unfold gj at hres
 refine sR (ab (dh rfl (TR.cnt aa.t r0)) (mI rfl (mI rfl (nS (ae (sR (mV rfl (bN co rfl rfl ?_))))))))
 refine mV rfl ?_
 refine bv 6 (d := 15) (v := vb ((decide (x1 < 0)) || (decide ((x0.Tables.length : Int) ≤ x1)))) ?_ ?_
 ·intro S Q r
  cases b1 : (decide (x1 < 0))
  ·intro k
   have a3 := b1
   try simp only [qa] at a3
   refine ai rfl rfl (am rfl) ?_
   obtain ⟨d5, c5, a2⟩ := aa.g_Tables r0
   refine ai rfl rfl (bc rfl c5) (ai rfl rfl (ba rfl (TR.cnt (tSl ax.t) a2) (TR.agg (tSl ax.t) a2)) (ai rfl rfl (cd rfl (br a2 Tryz.underlying26 _)) (ai rfl rfl (bd rfl rfl oa) ?_)))
   exact gK rfl rfl rfl rfl rfl k
  ·exact gN 5 rfl rfl rfl rfl rfl rfl
 refine nS ?_
 refine cq hres rfl ?_ ?_ <;> clear hres <;> intro c hres <;> try simp only [qa] at c
 ·refine sR (mI rfl (mI rfl (nS ?_)))
  exact rT hres rfl rfl rfl rfl rfl
 ·refine az (af (sR ?_))
  obtain ⟨d0, b9, b3⟩ := aa.g_Tables r0
  refine fA rfl b9 (lD b3 rfl rfl rfl (mV rfl ?_))
  obtain ⟨b0, c0, a0⟩ := cx (i := x1) b3 (by first | omega | (have hk := bb (by assumption) (by assumption); omega) | (have hk := tck (by assumption) (by assumption); omega) | (have hk := rtck (by assumption) (by assumption); omega) | (have hk := eck (by assumption) (by assumption) (by assumption); omega) | (have hk := tv (by assumption) (by assumption); omega) | (have hk := rtv (by assumption) (by assumption); omega)) (by first | omega | (have hk := bb (by assumption) (by assumption); omega) | (have hk := tck (by assumption) (by assumption); omega) | (have hk := rtck (by assumption) (by assumption); omega) | (have hk := eck (by assumption) (by assumption) (by assumption); omega) | (have hk := tv (by assumption) (by assumption); omega) | (have hk := rtv (by assumption) (by assumption); omega))
  refine ab (bn rfl rfl c0) (lD a0 rfl rfl rfl ?_)
  refine dt (x := .agg [vs [], nilS, nilS, vi 0, nilS, vi 0]) (Mem.nil ⟨0, []⟩) rfl rfl (fun c7 c6 d6 c3 => ?_)
  refine de (k := 0) (v := b0) c3 rfl rfl rfl (TR.cnt ax.t a0) (fun c1 a1 => ?_)
  replace a1 : Mem c1 [⟨.op c7 c6 0, 87, 6, [b0]⟩] := a1
  refine nS (ae (bf (sR (ab (bz rfl) (ab (dl (k := 0) a1 rfl rfl (ax.g_Name a0)) ?_)))))
  obtain ⟨d2, a6, hres⟩ := dc hres
  have b2 := dj1 (x0 := (ix x0.Tables x1).Name)  
  rw [a6] at b2
  refine cL b2 rfl rfl (aq rfl bm) (ab (gc rfl) (mV rfl (nS ?_)))
  refine cq hres rfl ?_ ?_ <;> clear hres <;> intro c hres <;> try simp only [qa] at c
  ·refine sR (mI rfl (mI rfl (nS ?_)))
   exact rT hres rfl rfl rfl rfl rfl
  ·refine sR (ab (bz rfl) ?_)
   obtain ⟨d1, b8, c8⟩ := ax.g_Keys a0
   refine ab (dl (k := 0) a1 rfl rfl b8) (ab (cd rfl (br c8 Tryz.underlying85 _)) (bN gi rfl rfl (mV rfl ?_)))
   refine bv 5 (d := 36) (v := vb ((decide (6 < (((ix x0.Tables x1).Keys).length : Int))) || (decide (16 < (((ix x0.Tables x1).Actions).length : Int))))) ?_ ?_
   ·intro S Q r
    cases a8 : (decide (6 < (((ix x0.Tables x1).Keys).length : Int)))
    ·intro k
     have a4 := a8
     try simp only [qa] at a4
     refine ai rfl rfl (bz rfl) ?_
     obtain ⟨d3, c4, b7⟩ := ax.g_Actions a0
     refine ai rfl rfl (dl (k := 0) a1 rfl rfl c4) (ai rfl rfl (cd rfl (br b7 Tryz.underlying29 _)) (ai rfl rfl (bd rfl rfl gi) ?_))
     exact gK rfl rfl rfl rfl rfl k
    ·exact gN 4 rfl rfl rfl rfl rfl rfl
   refine mV rfl (nS ?_)
   refine cq hres rfl ?_ ?_ <;> clear hres <;> intro c hres <;> try simp only [qa] at c
   ·refine sR (mI rfl (mI rfl (nS ?_)))
    exact rT hres rfl rfl rfl rfl rfl
   ·refine sR (ab (bz rfl) (ab (dl (k := 0) a1 rfl rfl (ax.g_Size a0)) (bN co rfl rfl (mV rfl ?_))))
    refine bv 4 (d := 45) (v := vb ((decide (((ix x0.Tables x1).Size) < 1)) || (decide (256 < ((ix x0.Tables x1).Size))))) ?_ ?_
    ·intro S Q r
     cases b6 : (decide (((ix x0.Tables x1).Size) < 1))
     ·intro k
      have a5 := b6
      try simp only [qa] at a5
      refine ai rfl rfl (bz rfl) (ai rfl rfl (dl (k := 0) a1 rfl rfl (ax.g_Size a0)) (ai rfl rfl (bd rfl rfl gi) ?_))
      exact gK rfl rfl rfl rfl rfl k
     ·exact gN 3 rfl rfl rfl rfl rfl rfl
    refine mV rfl (nS ?_)
    refine cq hres rfl ?_ ?_ <;> clear hres <;> intro c hres <;> try simp only [qa] at c
    ·refine sR (mI rfl (mI rfl (nS ?_)))
     exact rT hres rfl rfl rfl rfl rfl
    ·refine az (dg (af (ae (sR (lD r0 rfl rfl rfl (ab (gq (k := 0) a1 rfl rfl (TR.agg ax.t a0)) ?_))))))
     obtain ⟨c9, a9, hres⟩ := dc hres
     have b5 := dk6  r0 a0 
     rw [a9] at b5
     refine cL b5 rfl rfl (aq (TR.clo aa.t r0) (aq (TR.clo ax.t a0) bm)) (mV rfl (xT rfl rfl (xT rfl rfl (mV rfl (mV rfl (nR (mV rfl (bN jk rfl rfl ?_))))))))
     refine nS ?_
     refine cq hres rfl ?_ ?_ <;> clear hres <;> intro c hres <;> try simp only [qa] at c
     ·refine sR (mV rfl (mV rfl (mV rfl (mV rfl (nS ?_)))))
      exact rT hres rfl rfl rfl rfl rfl
     ·refine az (af (ae (sR (lD r0 rfl rfl rfl (ab (gq (k := 0) a1 rfl rfl (TR.agg ax.t a0)) ?_)))))
      obtain ⟨d4, b4, hres⟩ := dc hres
      have a7 := di7  r0 a0 
      rw [b4] at a7
      refine cL a7 rfl rfl (aq (TR.clo aa.t r0) (aq (TR.clo ax.t a0) bm)) (mV rfl (nR (mV rfl (bN jk rfl rfl (nS ?_)))))
      refine cq hres rfl ?_ ?_ <;> clear hres <;> intro c hres <;> try simp only [qa] at c
      ·refine sR (mV rfl (mI rfl (mV rfl (nS ?_))))
       exact rT hres rfl rfl rfl rfl rfl
      ·refine az (af (sR (mI rfl (mI rfl (nS ?_)))))
       exact rT hres rfl rfl rfl rfl rfl

def RF80 (res : Bool) (r : PV) : Prop := r = vb res
theorem ay9 {x0 : aa} {x1 : Int} {v0 : PV} (r0 : aa.t.R x0 v0) : FnR Tryz.prog 80 [v0, vi x1] (vb (fx x0 x1)) := by
 refine fnS (R := RF80) bx3 (fun _ h => h) rfl fun res hres => ?_
 unfold fx at hres
 refine sR (ab (dh rfl (TR.cnt aa.t r0)) (mB rfl (nR (lD r0 rfl rfl rfl (mV rfl ?_)))))
 obtain ⟨a2, a0, hres⟩ := dc hres
 have a1 := bb3 (x1 := x1) r0 
 rw [a0] at a1
 refine cL a1 rfl rfl (aq (TR.clo aa.t r0) (aq rfl bm)) (mV rfl (xT rfl rfl (xT rfl rfl (mV rfl (mV rfl (nR (mV rfl (bN lh rfl rfl ?_))))))))
 refine mV rfl (nS ?_)
 exact rR hres rfl rfl rfl

def RF45 (res : (List Int)) (r : PV) : Prop := (tSl tI).R res r
theorem xf {S : List Fr} {res : (List Int)} {x0 : aa} {x1 : Int} {c1 : Bool} {v0 c5 : PV} (r0 : aa.t.R x0 v0) (d9 : fx x0 x1 = c1) (b5 : (!c1) = false) (b8 : (tSl bh.t).R ((ix x0.Tables x1).Keys) c5) {K0 : (List Int) → (List Int)}
  (e4 : ∀ {a1 : List Int} {a0 : List PV} {a2 : PV} (a5 : All2 tI.R a1 a0) (a7 : isL a2 = true) (a3 : Wri a2 a0) (a6 : a1.length ≤ 4611686018427387904) {h : Heap} (M0 : Mem h [⟨a2, 3, 1, a0⟩]), K0 a1 = res → PX Tryz.prog 0 S (QR Tryz.prog [(4, none)] (RF45 res)) [(5, a2)] h) :
  ∀ {m : Nat} {a4 : Int} {a1 : List Int} {a0 : List PV} {a2 : PV} (a5 : All2 tI.R a1 a0) (a7 : isL a2 = true) (a3 : Wri a2 a0) (a6 : a1.length ≤ 4611686018427387904) (e0 : m = Int.toNat ((((ix x0.Tables x1).Keys).length : Int) - a4)) (b7 : 0 ≤ a4) (b1 : (a1.length : Int) ≤ a4) {h : Heap} (M0 : Mem h [⟨a2, 3, 1, a0⟩]), jq x0 x1 K0 m a4 a1 = res → RC Tryz.prog (.loop co0) S (QR Tryz.prog [(4, none)] (RF45 res)) [(19, vi a4), (18, vi (((ix x0.Tables x1).Keys).length : Int)), (17, c5), (5, a2), (2, .fp v0)] h := by
 have b3 := b5
 try simp only [qa] at b3
 intro m
 induction m with
 | zero =>
  intro a4 a1 a0 a2 a5 a7 a3 a6 e0 b7 b1 h M0 hres
  rw [jq] at hres
  refine bq (sR (bN co rfl rfl (nS (ae ?_))))
  refine bg rfl ?_ ?_ <;> intro c <;> try simp only [qa] at c
  ·omega
  refine dm (dx (cy ?_))
  exact wP (e4 a5 a7 a3 a6 (Mem.sub M0 (.cons_cons _ .slnil)) hres) rfl
 | succ m ih =>
  intro a4 a1 a0 a2 a5 a7 a3 a6 e0 b7 b1 h M0 hres
  rw [jq] at hres
  refine bq (sR (bN co rfl rfl (nS (ae ?_))))
  refine bg rfl ?_ ?_ <;> intro c <;> try simp only [qa] at c
  rotate_left
  ·omega
  refine az (af (ae (bf (sR ?_))))
  obtain ⟨c6, d8, b4⟩ := cx (i := a4) b8 (by first | omega | (have hk := bb (by assumption) (by assumption); omega) | (have hk := tck (by assumption) (by assumption); omega) | (have hk := rtck (by assumption) (by assumption); omega) | (have hk := eck (by assumption) (by assumption) (by assumption); omega) | (have hk := tv (by assumption) (by assumption); omega) | (have hk := rtv (by assumption) (by assumption); omega)) (by first | omega | (have hk := bb (by assumption) (by assumption); omega) | (have hk := tck (by assumption) (by assumption); omega) | (have hk := rtck (by assumption) (by assumption); omega) | (have hk := eck (by assumption) (by assumption) (by assumption); omega) | (have hk := tv (by assumption) (by assumption); omega) | (have hk := rtv (by assumption) (by assumption); omega))
  refine ab (bn rfl rfl d8) (lD b4 rfl rfl rfl ?_)
  refine dt (x := .agg [vi 0, vi 0, vi 0]) M0 rfl rfl (fun d5 d4 e5 d2 => ?_)
  refine de (k := 0) (v := c6) d2 rfl rfl rfl (TR.cnt bh.t b4) (fun c7 b0 => ?_)
  replace b0 : Mem c7 [⟨.op d5 d4 0, 112, 3, [c6]⟩, ⟨a2, 3, 1, a0⟩] := b0
  refine nS (ah (mV rfl (lD r0 rfl rfl rfl (ab (bz rfl) ?_))))
  obtain ⟨e3, d7, b6⟩ := bh.g_Field b4
  refine ab (dl (k := 0) b0 rfl rfl d7) ?_
  obtain ⟨a8, c0, hres⟩ := dc hres
  have b9 := ca5  r0 b6 
  rw [c0] at b9
  refine cL b9 rfl rfl (aq (TR.clo aa.t r0) (aq (TR.clo cf.t b6) bm)) (ab (v := .fs true [vi a8]) (lj rfl (all_cons rfl og)) ?_)
  have d6 : (tSl tI).R ([a8] : List Int) (.fs true [vi a8]) := zu ⟨rfl, trivial⟩ (by simp)
  obtain ⟨a9, c9, b2⟩ := zg (t := tI) (h := c7) d6
  have d0 : fits (a0.length + a9.length) 8 = true := by rw [All2.length_eq a5, All2.length_eq b2]; (try simp only [List.length_cons, List.length_nil]); exact qi (by have hk := tv (by assumption) (by assumption); omega) (by have hk := tv (by assumption) (by assumption); omega)
  refine rn (k := 1) (es := a0) (news := a9) b0 rfl rfl rfl a7 a3 c9 d0 (fun e1 e2 d1 c4 d3 => ?_)
  have c3 : All2 tI.R (a1 ++ ([a8] : List Int)) (a0 ++ a9) := All2.app a5 b2
  have c8 : (a1 ++ ([a8] : List Int)).length ≤ 4611686018427387904 := by rw [← All2.length_eq c3, List.length_append]; exact ae5 d0
  refine mV rfl (aw (dg (af (ah (bN eg rfl rfl (mV rfl (aw (ct ?_))))))))
  have hbd := du b8
  have hinc : wr (a4 + 1) = a4 + 1 := dw (by omega) (by omega)
  erw [hinc]
  exact wC (ih  c3 d1 c4 c8 (by omega) (by omega) (by first | omega | (simp; done) | (simp only [List.length_append, List.length_cons, List.length_nil, List.length_set]; omega)) (Mem.sub d3 (.cons _ (.cons_cons _ .slnil))) hres) rfl

theorem cc7 {x0 : aa} {x1 : Int} {v0 : PV} (r0 : aa.t.R x0 v0) : ∃ r, FnR Tryz.prog 45 [v0, vi x1] r ∧ (tSl tI).R (dn x0 x1) r := by
 refine fnT (R := RF45) bs7 rfl fun res hres => ?_
 unfold dn at hres
 refine sR (ab (dh rfl (TR.cnt aa.t r0)) (ab (v := nilS) (am rfl) (nS (ae (sR (lD r0 rfl rfl rfl (mV rfl ?_)))))))
 obtain ⟨c1, a4, hres⟩ := dc hres
 have b1 := ay9 (x1 := x1) r0 
 rw [a4] at b1
 refine cL b1 rfl rfl (aq (TR.clo aa.t r0) (aq rfl bm)) (ab (gc rfl) (nS ?_))
 refine cq hres rfl ?_ ?_ <;> clear hres <;> intro a3 hres <;> have a5 := a3 <;> try simp only [qa] at a5
 ·refine sR (ab (v := nilS) (am rfl) (nS ?_))
  exact rR hres rfl (TR.clo (tSl tI) ib) ib
 ·refine az (af (sR (ab (v := nilS) (am rfl) (nS (ae (sR (gL (aa.g_Tables r0) rfl rfl rfl fun c5 b3 => (mV rfl ?_))))))))
  obtain ⟨c0, b2, b7⟩ := cx (i := x1) b3 (by first | omega | (have hk := bb (by assumption) (by assumption); omega) | (have hk := tck (by assumption) (by assumption); omega) | (have hk := rtck (by assumption) (by assumption); omega) | (have hk := eck (by assumption) (by assumption) (by assumption); omega) | (have hk := tv (by assumption) (by assumption); omega) | (have hk := rtv (by assumption) (by assumption); omega)) (by first | omega | (have hk := bb (by assumption) (by assumption); omega) | (have hk := tck (by assumption) (by assumption); omega) | (have hk := rtck (by assumption) (by assumption); omega) | (have hk := eck (by assumption) (by assumption) (by assumption); omega) | (have hk := tv (by assumption) (by assumption); omega) | (have hk := rtv (by assumption) (by assumption); omega))
  refine ab (bn rfl rfl b2) (gL (ax.g_Keys b7) rfl rfl rfl fun c4 a9 => (ab (cd rfl (br a9 Tryz.underlying85 _)) (mI rfl (nS (bf ?_)))))
  have b4 := rj (sz := 1) (es := []) (Mem.nil ⟨0, []⟩) 3 (.inl ⟨none, rfl, rfl⟩) (by simp)
  refine wC (xf r0 a4 a3 a9 ?_  aL rfl (.inl rfl) (by first | decide | simp) rfl (by omega) (by first | omega | (simp; done) | (simp only [List.length_append, List.length_cons, List.length_nil, List.length_set]; omega)) (Mem.sub b4 (.cons_cons _ .slnil)) hres) rfl
  ·intro a7 a6 b0 a1 a2 a8 a0 b9 b5 hres
   refine fd (af (sR (mV rfl (mV rfl (nS ?_)))))
   obtain ⟨c3, b6, b8⟩ := zo (P := Tryz.prog) (k := 0) (t := tI) b5 rfl a2 a1 (Nat.le_trans a0 (by decide))
   subst hres
   exact fg (.tmp rfl .nil) b6 b8

def RF117 (res : (BitVec 32)) (r : PV) : Prop := r = df res
theorem cr0 {x0 x1 : Int} : FnR Tryz.prog 117 [vi x0, vi x1] (df (fh x0 x1)) := by
 refine fnS (R := RF117) bj6 (fun _ h => h) rfl fun res hres => ?_
 unfold fh at hres
 refine sR (ab (v := df 0#32) (am rfl) (nS (ae (sR (mV rfl (ab (v := .fs true [vi x1]) (lj rfl (all_cons rfl og)) ?_))))))
 have a4 : (tSl tI).R ([x1] : List Int) (.fs true [vi x1]) := zu ⟨rfl, trivial⟩ (by simp)
 obtain ⟨a9, a0, hres⟩ := dc hres
 have a6 := ab6  a4 
 rw [a0] at a6
 refine cL a6 rfl rfl (aq (TR.clo (tSl tI) a4) bm) (ab (gc rfl) (nS ?_))
 refine cq hres rfl ?_ ?_ <;> clear hres <;> intro c hres <;> try simp only [qa] at c
 ·refine sR (ab (v := df 0#32) (am rfl) (nS ?_))
  exact rR hres rfl rfl rfl
 ·refine az (af (sR (mV rfl ?_)))
  obtain ⟨a8, a1, hres⟩ := dc hres
  have a7 := vx (x0 := x1)  
  rw [a1] at a7
  refine cL a7 rfl rfl (aq rfl bm) (mV rfl ?_)
  obtain ⟨a2, a3, hres⟩ := dc hres
  have a5 := vx (x0 := x1)  
  rw [a3] at a5
  refine cL a5 rfl rfl (aq rfl bm) (mV rfl (ab (cd rfl (ac1 _ _)) (mV rfl (ab (cd rfl (ap3 _ _)) (ab (bd (a := df a2) (b := vi (min (max x0 0) x1)) rfl rfl (bi3 (by have hk := mv (by assumption) (by assumption); omega))) (ab (bd (a := df a8) (b := df (a2 >>> (min (max x0 0) x1).toNat)) rfl rfl au2) (mV rfl (nS ?_))))))))
  exact rR hres rfl rfl rfl

def RF86 (res : Int × Bool) (r : PV) : Prop := r = .tup [vi res.1, vb res.2]
theorem tf {S : List Fr} {res : Int × Bool} {x0 : BitVec 32} {x1 : Int} {a3 : Bool} (a9 : ii ([x1] : List Int) = a3) (a5 : (!a3) = false) {K0 : Unit → (Int × Bool)}
  (b0 : K0 () = res → PX Tryz.prog 0 S (QR Tryz.prog [(4, none), (5, none)] (RF86 res)) [] ⟨0, []⟩) :
  ∀ {m : Nat} {a0 : Int} (a8 : m = Int.toNat ((wr (x1 + 1)) - a0)) (a4 : 0 ≤ a0), ej x0 x1 K0 m a0 = res → RC Tryz.prog (.loop ck6) S (QR Tryz.prog [(4, none), (5, none)] (RF86 res)) [(13, vi a0), (12, vi (wr (x1 + 1))), (1, vi x1), (0, df x0)] ⟨0, []⟩ := by
 have a1 := a5
 try simp only [qa] at a1
 intro m
 induction m with
 | zero =>
  intro a0 a8 a4 hres
  rw [ej] at hres
  refine bq (sR (bN co rfl rfl (nS (ae ?_))))
  refine bg rfl ?_ ?_ <;> intro c <;> try simp only [qa] at c
  ·omega
  refine dm (dx (cy ?_))
  exact wP (b0  hres) rfl
 | succ m ih =>
  intro a0 a8 a4 hres
  rw [ej] at hres
  refine bq (sR (bN co rfl rfl (nS (ae ?_))))
  refine bg rfl ?_ ?_ <;> intro c <;> try simp only [qa] at c
  rotate_left
  ·omega
  refine az (af (ae (bf (sR (mV rfl (mV rfl (nR (mV rfl ?_))))))))
  refine mV rfl ?_
  obtain ⟨a7, a6, hres⟩ := dc hres
  have a2 := cr0 (x0 := a0) (x1 := x1)  
  rw [a6] at a2
  refine cL a2 rfl rfl (aq rfl (aq rfl bm)) (mV rfl (ab (bd (a := df a7) (b := df x0) rfl rfl bj4) (nS ?_)))
  refine cq hres rfl ?_ ?_ <;> clear hres <;> intro c hres <;> try simp only [qa] at c
  ·refine sR (mV rfl (mV rfl (mB rfl (nS ?_))))
   exact rT hres rfl rfl rfl rfl rfl
  ·refine az (dg (af (ah (bN eg rfl rfl (mV rfl (aw (ct ?_)))))))
   have hinc : wr (a0 + 1) = a0 + 1 := dw (by omega) (by have hk := mv (by assumption) (by assumption); have e := dw (n := x1 + 1) (by omega) (by omega); omega)
   erw [hinc]
   exact wC (ih   (by omega) (by omega) hres) rfl

theorem cc6 {x0 : BitVec 32} {x1 : Int} : FnR Tryz.prog 86 [df x0, vi x1] (.tup [vi ((dk x0 x1).1), vb ((dk x0 x1).2)]) := by
 refine fnS (R := RF86) bo9 (fun _ h => h) rfl fun res hres => ?_
 unfold dk at hres
 refine sR (mI rfl (mB rfl (nS (ae (sR (mV rfl (ab (v := .fs true [vi x1]) (lj rfl (all_cons rfl og)) ?_)))))))
 have a3 : (tSl tI).R ([x1] : List Int) (.fs true [vi x1]) := zu ⟨rfl, trivial⟩ (by simp)
 obtain ⟨a5, a0, hres⟩ := dc hres
 have a4 := ab6  a3 
 rw [a0] at a4
 refine cL a4 rfl rfl (aq (TR.clo (tSl tI) a3) bm) (ab (gc rfl) (nS ?_))
 refine cq hres rfl ?_ ?_ <;> clear hres <;> intro a1 hres <;> have a2 := a1 <;> try simp only [qa] at a2
 ·refine sR (mI rfl (mB rfl (nS ?_)))
  exact rT hres rfl rfl rfl rfl rfl
 ·refine az (af (ae (sR (mV rfl (bN eg rfl rfl (mI rfl (nS (bf ?_))))))))
  refine wC (tf a0 a1 ?_  rfl (by omega) hres) rfl
  ·intro  hres
   refine fd (af (sR (mI rfl (mB rfl (nS ?_)))))
   exact rT hres rfl rfl rfl rfl rfl

end Go.Proofs.YthdnpgpnodgicaaGreat
