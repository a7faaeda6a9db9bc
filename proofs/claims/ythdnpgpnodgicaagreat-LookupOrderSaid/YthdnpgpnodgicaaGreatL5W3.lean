/-
 The code of each function does what its plain program says.
-/
import Derived.Test.YthdnpgpnodgicaaGreatL5W2
set_option linter.unusedVariables false
set_option linter.unusedSimpArgs false
set_option maxRecDepth 100000
namespace Go.Proofs.YthdnpgpnodgicaaGreat
open Go Go.Pb Go.RowKit
def RF120 (res : Int) (r : PV) : Prop := r = vi res
theorem xp {S : List Fr} {res : Int} {x0 : List Int} {x1 : Int} {v0 : PV} (r0 : (tSl tI).R x0 v0) {K0 : Unit → Int}
  (a3 : K0 () = res → PX Tryz.prog 0 S (QR Tryz.prog [(4, none)] (RF120 res)) [] ⟨0, []⟩) :
  ∀ {m : Nat} {a0 : Int} (a2 : m = Int.toNat ((x0.length : Int) - a0)) (a1 : 0 ≤ a0), gx x0 x1 K0 m a0 = res → RC Tryz.prog (.loop ca4) S (QR Tryz.prog [(4, none)] (RF120 res)) [(5, vi a0), (1, vi x1), (0, v0)] ⟨0, []⟩ := by
 intro m
 induction m with
 | zero =>
  intro a0 a2 a1 hres
  rw [gx] at hres
  refine bq (ae (sR (mV rfl (mV rfl (ab (cd rfl (br r0 Tryz.underlying29 _)) (bN co rfl rfl (nS ?_)))))))
  refine bg rfl ?_ ?_ <;> intro c <;> try simp only [qa] at c
  ·omega
  refine dm (dx (cy ?_))
  exact wP (a3  hres) rfl
 | succ m ih =>
  intro a0 a2 a1 hres
  rw [gx] at hres
  refine bq (ae (sR (mV rfl (mV rfl (ab (cd rfl (br r0 Tryz.underlying29 _)) (bN co rfl rfl (nS ?_)))))))
  refine bg rfl ?_ ?_ <;> intro c <;> try simp only [qa] at c
  rotate_left
  ·omega
  refine az (af (ae (bf (sR (mV rfl (mV rfl (ab (bn rfl rfl (slI r0 (by first | omega | (have hk := bb (by assumption) (by assumption); omega) | (have hk := tck (by assumption) (by assumption); omega) | (have hk := rtck (by assumption) (by assumption); omega) | (have hk := eck (by assumption) (by assumption) (by assumption); omega) | (have hk := tv (by assumption) (by assumption); omega) | (have hk := rtv (by assumption) (by assumption); omega)) (by first | omega | (have hk := bb (by assumption) (by assumption); omega) | (have hk := tck (by assumption) (by assumption); omega) | (have hk := rtck (by assumption) (by assumption); omega) | (have hk := eck (by assumption) (by assumption) (by assumption); omega) | (have hk := tv (by assumption) (by assumption); omega) | (have hk := rtv (by assumption) (by assumption); omega)))) (lR rfl rfl rfl ?_))))))))
  refine mV rfl (bN lh rfl rfl (nS ?_))
  refine cq hres rfl ?_ ?_ <;> clear hres <;> intro c hres <;> try simp only [qa] at c
  ·refine sR (mV rfl (mV rfl (nS ?_)))
   exact rR hres rfl rfl rfl
  ·refine az (dg (af (ah (mV rfl (bN eg rfl rfl (mV rfl (aw (ct ?_))))))))
   have hbd := du r0
   have hinc : wr (a0 + 1) = a0 + 1 := dw (by omega) (by omega)
   erw [hinc]
   exact wC (ih   (by omega) (by omega) hres) rfl

theorem ar4 {x0 : List Int} {x1 : Int} {v0 : PV} (r0 : (tSl tI).R x0 v0) : FnR Tryz.prog 120 [v0, vi x1] (vi (gg x0 x1)) := by
 refine fnS (R := RF120) ci7 (fun _ h => h) rfl fun res hres => ?_
 unfold gg at hres
 refine sR (mI rfl (nS (ae (sR (mI rfl (nS (bf ?_)))))))
 refine wC (xp r0 ?_  rfl (by omega) hres) rfl
 ·intro  hres
  refine fd (af (sR (mI rfl (nS ?_))))
  exact rR hres rfl rfl rfl

def RF145 (res : Bool) (r : PV) : Prop := r = vb res
theorem xw {x0 : Int} : FnR Tryz.prog 145 [vi x0] (vb (fm x0)) := by
 refine fnS (R := RF145) co8 (fun _ h => h) rfl fun res hres => ?_
 unfold fm at hres
 refine sR (mB rfl (nR (mV rfl (bN oa rfl rfl (mV rfl ?_)))))
 refine bv 3 (d := 8) (v := vb ((decide (1 ≤ x0)) && (decide (x0 ≤ 32)))) ?_ ?_
 ·intro S Q r
  cases a1 : (decide (1 ≤ x0))
  ·exact gN 2 rfl rfl rfl rfl rfl rfl
  ·intro k
   have a0 := a1
   try simp only [qa] at a0
   refine ai rfl rfl (am rfl) (ai rfl rfl (bd rfl rfl bj0) ?_)
   exact gK rfl rfl rfl rfl rfl k
 refine mV rfl (nS ?_)
 exact rR hres rfl rfl rfl

def RF147 (res : (BitVec 64)) (r : PV) : Prop := r = pp res
theorem yg {S : List Fr} {res : (BitVec 64)} {x0 : Int} (hn : x0 ≤ 64) {K0 : (BitVec 64) → (BitVec 64)}
  (a4 : ∀ {a1 : BitVec 64}, K0 a1 = res → PX Tryz.prog 0 S (QR Tryz.prog [(2, none)] (RF147 res)) [(3, pp a1)] ⟨0, []⟩) :
  ∀ {m : Nat} {a1 : BitVec 64} {a0 : Int} (a3 : m = Int.toNat (x0 - a0)) (a2 : 0 ≤ a0), nn K0 m a1 a0 = res → RC Tryz.prog (.loop bv1) S (QR Tryz.prog [(2, none)] (RF147 res)) [(4, vi a0), (3, pp a1), (0, vi x0)] ⟨0, []⟩ := by
 intro m
 induction m with
 | zero =>
  intro a1 a0 a3 a2 hres
  rw [nn] at hres
  refine bq (ae (sR (mV rfl (mV rfl (bN co rfl rfl (nS ?_))))))
  refine bg rfl ?_ ?_ <;> intro c <;> try simp only [qa] at c
  ·omega
  refine dm (dx (cy ?_))
  exact wP (a4  hres) rfl
 | succ m ih =>
  intro a1 a0 a3 a2 hres
  rw [nn] at hres
  refine bq (ae (sR (mV rfl (mV rfl (bN co rfl rfl (nS ?_))))))
  refine bg rfl ?_ ?_ <;> intro c <;> try simp only [qa] at c
  rotate_left
  ·omega
  refine az (af (ae (bf (ah (mV rfl (ab (bd (a := pp 2#64) (b := pp a1) rfl rfl du8) (mV rfl (aw ?_))))))))
  refine dg (af (ah (mV rfl (bN eg rfl rfl (mV rfl (aw (ct ?_)))))))
  have hinc : wr (a0 + 1) = a0 + 1 := dw (by omega) (by omega)
  erw [hinc]
  exact wC (ih   (by omega) (by omega) hres) rfl

theorem ad3 {x0 : Int} (hn : x0 ≤ 64) : FnR Tryz.prog 147 [vi x0] (pp (kn x0)) := by
 refine fnS (R := RF147) ch1 (fun _ h => h) rfl fun res hres => ?_
 unfold kn at hres
 refine sR (ab (v := pp 0#64) (am rfl) (nR (ab (v := pp 1#64) (am rfl) (nS (ae (sR (mI rfl (nS ?_))))))))
 refine bf ?_
 refine wC (yg hn ?_  rfl (by omega) hres) rfl
 ·intro a0 hres
  refine fd (af (sR (mV rfl (mV rfl (nS ?_)))))
  exact rR hres rfl rfl rfl

def RF122 (res : Bool) (r : PV) : Prop := r = vb res
theorem ao2 {x0 : BitVec 32} {x1 : Int} : FnR Tryz.prog 122 [df x0, vi x1] (vb (ku x0 x1)) := by
 refine fnS (R := RF122) ce7 (fun _ h => h) rfl fun res hres => ?_
 unfold ku at hres
 refine sR (mB rfl (nR (mV rfl ?_)))
 obtain ⟨a2, a1, hres⟩ := dc hres
 have a3 := xw (x0 := x1)  
 rw [a1] at a3
 refine cL a3 rfl rfl (aq rfl bm) (mV rfl ?_)
 refine bv 6 (d := 13) (v := vb (a2 && (decide ((BitVec.setWidth 64 x0) < (kn x1))))) ?_ ?_
 ·intro S Q r
  cases a4 : a2
  ·exact gN 5 rfl rfl rfl rfl rfl rfl
  ·intro k
   have a0 := a4
   try simp only [qa] at a0
   refine ai rfl rfl (am rfl) (ai rfl rfl (xq (a := df x0) rfl (c_wd Tryz.underlying64 Tryz.underlying97)) (ai rfl rfl (am rfl) ?_))
   have a5 := ad3 (x0 := x1)  (by first | assumption | omega | (have := rv (by assumption) (by assumption); omega) | (rw [dw (by omega) (by omega)]; omega))
   refine fu rfl rfl (mb rfl rfl (aq rfl bm) a5) (ai rfl rfl (bd (a := pp (BitVec.setWidth 64 x0)) (b := pp (kn x1)) rfl rfl dp3) ?_)
   exact gK rfl rfl rfl rfl rfl k
 refine mV rfl (nS ?_)
 exact rR hres rfl rfl rfl

def RF94 (res : Int) (r : PV) : Prop := r = vi res
theorem ud {S : List Fr} {res : Int} {x0 : aa} {x1 : av} {v1 a8 : PV} (r1 : av.t.R x1 v1) (a7 : ((decide (x1.Action < 0)) || (decide ((x0.Actions.length : Int) ≤ x1.Action))) = false) (a1 : (tSl bw.t).R ((ix x0.Actions x1.Action).Params) a8) (a9 : (!decide ((x1.Args.length : Int) = (((ix x0.Actions x1.Action).Params).length : Int))) = false) {K0 : Unit → Int}
  (b7 : K0 () = res → PX Tryz.prog 0 S (QR Tryz.prog [(4, none)] (RF94 res)) [] ⟨0, []⟩) :
  ∀ {m : Nat} {a0 : Int} (b4 : m = Int.toNat ((((ix x0.Actions x1.Action).Params).length : Int) - a0)) (a4 : 0 ≤ a0), iw x0 x1 K0 m a0 = res → RC Tryz.prog (.loop co1) S (QR Tryz.prog [(4, none)] (RF94 res)) [(6, vi a0), (5, a8), (3, .fp v1)] ⟨0, []⟩ := by
 have a3 := a7
 try simp only [qa] at a3
 have a2 := a9
 try simp only [qa] at a2
 intro m
 induction m with
 | zero =>
  intro a0 b4 a4 hres
  rw [iw] at hres
  refine bq (ae (sR (mV rfl (mV rfl (ab (cd rfl (br a1 Tryz.underlying23 _)) (bN co rfl rfl (nS ?_)))))))
  refine bg rfl ?_ ?_ <;> intro c <;> try simp only [qa] at c
  ·omega
  refine dm (dx (cy ?_))
  exact wP (b7  hres) rfl
 | succ m ih =>
  intro a0 b4 a4 hres
  rw [iw] at hres
  refine bq (ae (sR (mV rfl (mV rfl (ab (cd rfl (br a1 Tryz.underlying23 _)) (bN co rfl rfl (nS ?_)))))))
  refine bg rfl ?_ ?_ <;> intro c <;> try simp only [qa] at c
  rotate_left
  ·omega
  refine az (af (ae (bf (sR ?_))))
  obtain ⟨b5, b1, b0⟩ := av.g_Args r1
  refine fA rfl b1 (lD b0 rfl rfl rfl (mV rfl (ab (bn rfl rfl (zw b0 (by first | omega | (have hk := bb (by assumption) (by assumption); omega) | (have hk := tck (by assumption) (by assumption); omega) | (have hk := rtck (by assumption) (by assumption); omega) | (have hk := eck (by assumption) (by assumption) (by assumption); omega) | (have hk := tv (by assumption) (by assumption); omega) | (have hk := rtv (by assumption) (by assumption); omega)) (by first | omega | (have hk := bb (by assumption) (by assumption); omega) | (have hk := tck (by assumption) (by assumption); omega) | (have hk := rtck (by assumption) (by assumption); omega) | (have hk := eck (by assumption) (by assumption) (by assumption); omega) | (have hk := tv (by assumption) (by assumption); omega) | (have hk := rtv (by assumption) (by assumption); omega)))) (lR rfl rfl rfl (mV rfl (mV rfl ?_))))))
  obtain ⟨b8, b2, b3⟩ := cx (i := a0) a1 (by first | omega | (have hk := bb (by assumption) (by assumption); omega) | (have hk := tck (by assumption) (by assumption); omega) | (have hk := rtck (by assumption) (by assumption); omega) | (have hk := eck (by assumption) (by assumption) (by assumption); omega) | (have hk := tv (by assumption) (by assumption); omega) | (have hk := rtv (by assumption) (by assumption); omega)) (by first | omega | (have hk := bb (by assumption) (by assumption); omega) | (have hk := tck (by assumption) (by assumption); omega) | (have hk := rtck (by assumption) (by assumption); omega) | (have hk := eck (by assumption) (by assumption) (by assumption); omega) | (have hk := tv (by assumption) (by assumption); omega) | (have hk := rtv (by assumption) (by assumption); omega))
  refine ab (bn rfl rfl b2) (fL rfl (bw.g_Width b3) rfl rfl ?_)
  obtain ⟨b6, a5, hres⟩ := dc hres
  have a6 := ao2 (x0 := (ix x1.Args a0)) (x1 := (ix ((ix x0.Actions x1.Action).Params) a0).Width)  
  rw [a5] at a6
  refine cL a6 rfl rfl (aq rfl (aq rfl bm)) (ab (gc rfl) (nS ?_))
  refine cq hres rfl ?_ ?_ <;> clear hres <;> intro c hres <;> try simp only [qa] at c
  ·refine sR (mI rfl (nS ?_))
   exact rR hres rfl rfl rfl
  ·refine az (dg (af (ah (mV rfl (bN eg rfl rfl (mV rfl (aw (ct ?_))))))))
   have hbd := du a1
   have hinc : wr (a0 + 1) = a0 + 1 := dw (by omega) (by omega)
   erw [hinc]
   exact wC (ih   (by omega) (by omega) hres) rfl

theorem bw2 {x0 : aa} {x1 : av} {v0 v1 : PV} (r0 : aa.t.R x0 v0) (r1 : av.t.R x1 v1) : FnR Tryz.prog 94 [v0, v1] (vi (li x0 x1)) := by
 refine fnS (R := RF94) dm5 (fun _ h => h) rfl fun res hres => ?_
 unfold li at hres
 refine sR (ab (dh rfl (TR.cnt aa.t r0)) (ab (dh rfl (TR.cnt av.t r1)) (mI rfl (nS (ae (sR (fL rfl (av.g_Action r1) rfl rfl (bN co rfl rfl ?_))))))))
 refine mV rfl ?_
 refine bv 7 (d := 17) (v := vb ((decide (x1.Action < 0)) || (decide ((x0.Actions.length : Int) ≤ x1.Action)))) ?_ ?_
 ·intro S Q r
  cases a7 : (decide (x1.Action < 0))
  ·intro k
   have a3 := a7
   try simp only [qa] at a3
   refine ai rfl rfl (bc rfl (av.g_Action r1)) (ai rfl rfl (ba rfl rfl rfl) ?_)
   obtain ⟨b8, b3, a2⟩ := aa.g_Actions r0
   refine ai rfl rfl (bc rfl b3) (ai rfl rfl (ba rfl (TR.cnt (tSl cp.t) a2) (TR.agg (tSl cp.t) a2)) (ai rfl rfl (cd rfl (br a2 Tryz.underlying25 _)) (ai rfl rfl (bd rfl rfl oa) ?_)))
   exact gK rfl rfl rfl rfl rfl k
  ·exact gN 6 rfl rfl rfl rfl rfl rfl
 refine nS ?_
 refine cq hres rfl ?_ ?_ <;> clear hres <;> intro a0 hres <;> have a5 := a0 <;> try simp only [qa] at a5
 ·refine sR (mI rfl (nS ?_))
  exact rR hres rfl rfl rfl
 ·refine az (af (sR ?_))
  obtain ⟨b5, b0, a8⟩ := aa.g_Actions r0
  refine fA rfl b0 (lD a8 rfl rfl rfl (fL rfl (av.g_Action r1) rfl rfl ?_))
  obtain ⟨b6, b4, b1⟩ := cx (i := x1.Action) a8 (by first | omega | (have hk := bb (by assumption) (by assumption); omega) | (have hk := tck (by assumption) (by assumption); omega) | (have hk := rtck (by assumption) (by assumption); omega) | (have hk := eck (by assumption) (by assumption) (by assumption); omega) | (have hk := tv (by assumption) (by assumption); omega) | (have hk := rtv (by assumption) (by assumption); omega)) (by first | omega | (have hk := bb (by assumption) (by assumption); omega) | (have hk := tck (by assumption) (by assumption); omega) | (have hk := rtck (by assumption) (by assumption); omega) | (have hk := eck (by assumption) (by assumption) (by assumption); omega) | (have hk := tv (by assumption) (by assumption); omega) | (have hk := rtv (by assumption) (by assumption); omega))
  refine ab (bn rfl rfl b4) (gL (cp.g_Params b1) rfl rfl rfl fun b7 a6 => (mV rfl (nS (ae (sR ?_)))))
  obtain ⟨b9, b2, a9⟩ := av.g_Args r1
  refine fA rfl b2 (lD a9 rfl rfl rfl (ab (cd rfl (br a9 Tryz.underlying33 _)) (mV rfl (ab (cd rfl (br a6 Tryz.underlying23 _)) (bN jk rfl rfl (nS ?_))))))
  refine cq hres rfl ?_ ?_ <;> clear hres <;> intro a1 hres <;> have a4 := a1 <;> try simp only [qa] at a4
  ·refine sR (mI rfl (nS ?_))
   exact rR hres rfl rfl rfl
  ·refine az (af (ae (sR (mI rfl (nS (bf ?_))))))
   refine wC (ud r1 a0 a6 a1 ?_  rfl (by omega) hres) rfl
   ·intro  hres
    refine fd (af (sR (mI rfl (nS ?_))))
    exact rR hres rfl rfl rfl

def RF90 (res : Int) (r : PV) : Prop := r = vi res
theorem wg {S : List Fr} {res : Int} {x0 : aa} {x1 : ax} {v0 v1 : PV} (r0 : aa.t.R x0 v0) (r1 : ax.t.R x1 v1) {K0 : Unit → Int}
  (c3 : K0 () = res → PX Tryz.prog 0 S (QR Tryz.prog [(4, none)] (RF90 res)) [(2, .fp v0), (3, .fp v1)] ⟨0, []⟩) :
  ∀ {m : Nat} {a0 : Int} (b8 : m = Int.toNat ((x1.Actions.length : Int) - a0)) (a7 : 0 ≤ a0), ja x0 x1 K0 m a0 = res → RC Tryz.prog (.loop co5) S (QR Tryz.prog [(4, none)] (RF90 res)) [(5, vi a0), (3, .fp v1), (2, .fp v0)] ⟨0, []⟩ := by
 intro m
 induction m with
 | zero =>
  intro a0 b8 a7 hres
  rw [ja] at hres
  refine bq (ae (sR (mV rfl (gL (ax.g_Actions r1) rfl rfl rfl fun c0 b4 => (ab (cd rfl (br b4 Tryz.underlying29 _)) (bN co rfl rfl (nS ?_)))))))
  refine bg rfl ?_ ?_ <;> intro c <;> try simp only [qa] at c
  ·omega
  refine dm (dx (cy ?_))
  exact wP (c3  hres) rfl
 | succ m ih =>
  intro a0 b8 a7 hres
  rw [ja] at hres
  refine bq (ae (sR (mV rfl (gL (ax.g_Actions r1) rfl rfl rfl fun c8 a6 => (ab (cd rfl (br a6 Tryz.underlying29 _)) (bN co rfl rfl (nS ?_)))))))
  refine bg rfl ?_ ?_ <;> intro c <;> try simp only [qa] at c
  rotate_left
  ·omega
  refine az (af (ae (bf (bf (sR ?_)))))
  obtain ⟨c4, b7, a8⟩ := ax.g_Actions r1
  refine fA rfl b7 (lD a8 rfl rfl rfl (mV rfl (ab (bn rfl rfl (slI a8 (by first | omega | (have hk := bb (by assumption) (by assumption); omega) | (have hk := tck (by assumption) (by assumption); omega) | (have hk := rtck (by assumption) (by assumption); omega) | (have hk := eck (by assumption) (by assumption) (by assumption); omega) | (have hk := tv (by assumption) (by assumption); omega) | (have hk := rtv (by assumption) (by assumption); omega)) (by first | omega | (have hk := bb (by assumption) (by assumption); omega) | (have hk := tck (by assumption) (by assumption); omega) | (have hk := rtck (by assumption) (by assumption); omega) | (have hk := eck (by assumption) (by assumption) (by assumption); omega) | (have hk := tv (by assumption) (by assumption); omega) | (have hk := rtv (by assumption) (by assumption); omega)))) (lR rfl rfl rfl (bN co rfl rfl (mV rfl ?_))))))
  refine bv 10 (d := 30) (v := vb ((decide ((ix x1.Actions a0) < 0)) || (decide ((x0.Actions.length : Int) ≤ (ix x1.Actions a0))))) ?_ ?_
  ·intro S Q r
   cases a5 : (decide ((ix x1.Actions a0) < 0))
   ·intro k
    have a2 := a5
    try simp only [qa] at a2
    obtain ⟨c7, b3, a3⟩ := ax.g_Actions r1
    refine ai rfl rfl (bc rfl b3) (ai rfl rfl (ba rfl (TR.cnt (tSl tI) a3) (TR.agg (tSl tI) a3)) (ai rfl rfl (am rfl) (ai rfl rfl (bn rfl rfl (slI a3 (by first | omega | (have hk := bb (by assumption) (by assumption); omega) | (have hk := tck (by assumption) (by assumption); omega) | (have hk := rtck (by assumption) (by assumption); omega) | (have hk := eck (by assumption) (by assumption) (by assumption); omega) | (have hk := tv (by assumption) (by assumption); omega) | (have hk := rtv (by assumption) (by assumption); omega)) (by first | omega | (have hk := bb (by assumption) (by assumption); omega) | (have hk := tck (by assumption) (by assumption); omega) | (have hk := rtck (by assumption) (by assumption); omega) | (have hk := eck (by assumption) (by assumption) (by assumption); omega) | (have hk := tv (by assumption) (by assumption); omega) | (have hk := rtv (by assumption) (by assumption); omega)))) (ai rfl rfl (ba rfl rfl rfl) ?_))))
    obtain ⟨c6, b5, a1⟩ := aa.g_Actions r0
    refine ai rfl rfl (bc rfl b5) (ai rfl rfl (ba rfl (TR.cnt (tSl cp.t) a1) (TR.agg (tSl cp.t) a1)) (ai rfl rfl (cd rfl (br a1 Tryz.underlying25 _)) (ai rfl rfl (bd rfl rfl oa) ?_)))
    exact gK rfl rfl rfl rfl rfl k
   ·exact gN 9 rfl rfl rfl rfl rfl rfl
  refine mV rfl (nS ?_)
  refine cq hres rfl ?_ ?_ <;> clear hres <;> intro c hres <;> try simp only [qa] at c
  ·refine sR (mI rfl (nS ?_))
   exact rR hres rfl rfl rfl
  ·refine sR ?_
   obtain ⟨c5, b6, a4⟩ := ax.g_Actions r1
   refine fA rfl b6 (lD a4 rfl rfl rfl ?_)
   obtain ⟨c1, b2, b1⟩ := ax.g_Actions r1
   refine fA rfl b2 (lD b1 rfl rfl rfl (mV rfl (ab (bn rfl rfl (slI b1 (by first | omega | (have hk := bb (by assumption) (by assumption); omega) | (have hk := tck (by assumption) (by assumption); omega) | (have hk := rtck (by assumption) (by assumption); omega) | (have hk := eck (by assumption) (by assumption) (by assumption); omega) | (have hk := tv (by assumption) (by assumption); omega) | (have hk := rtv (by assumption) (by assumption); omega)) (by first | omega | (have hk := bb (by assumption) (by assumption); omega) | (have hk := tck (by assumption) (by assumption); omega) | (have hk := rtck (by assumption) (by assumption); omega) | (have hk := eck (by assumption) (by assumption) (by assumption); omega) | (have hk := tv (by assumption) (by assumption); omega) | (have hk := rtv (by assumption) (by assumption); omega)))) (lR rfl rfl rfl ?_))))
   obtain ⟨b9, a9, hres⟩ := dc hres
   have b0 := ar4 (x1 := (ix x1.Actions a0)) a4 
   rw [a9] at b0
   refine cL b0 rfl rfl (aq (TR.clo (tSl tI) a4) (aq rfl bm)) (mV rfl (bN co rfl rfl (mV rfl (nS ?_))))
   refine cq hres rfl ?_ ?_ <;> clear hres <;> intro c hres <;> try simp only [qa] at c
   ·refine sR (mI rfl (nS ?_))
    exact rR hres rfl rfl rfl
   ·refine az (dg (dg (af (ah (mV rfl (bN eg rfl rfl (mV rfl (aw ?_))))))))
    refine ct ?_
    have hbd := du a6
    have hinc : wr (a0 + 1) = a0 + 1 := dw (by omega) (by omega)
    erw [hinc]
    exact wC (ih   (by omega) (by omega) hres) rfl

theorem di6 {x0 : aa} {x1 : ax} {v0 v1 : PV} (r0 : aa.t.R x0 v0) (r1 : ax.t.R x1 v1) : FnR Tryz.prog 90 [v0, v1] (vi (oc x0 x1)) := by
 refine fnS (R := RF90) cy7 (fun _ h => h) rfl fun res hres => ?_
 unfold oc at hres
 refine sR (ab (dh rfl (TR.cnt aa.t r0)) (ab (dh rfl (TR.cnt ax.t r1)) (mI rfl (nS (ae (sR (mI rfl (nS ?_))))))))
 refine bf ?_
 refine wC (wg r0 r1 ?_  rfl (by omega) hres) rfl
 ·intro  hres
  refine fd (af (ae (sR ?_)))
  obtain ⟨b2, a6, a0⟩ := ax.g_Actions r1
  refine fA rfl a6 (lD a0 rfl rfl rfl ?_)
  obtain ⟨a9, a7, a8⟩ := ax.g_Default r1
  refine fA rfl a7 (fL rfl (av.g_Action a8) rfl rfl ?_)
  obtain ⟨b0, a3, hres⟩ := dc hres
  have a5 := ar4 (x1 := x1.Default.Action) a0 
  rw [a3] at a5
  refine cL a5 rfl rfl (aq (TR.clo (tSl tI) a0) (aq rfl bm)) (bN co rfl rfl (nS ?_))
  refine cq hres rfl ?_ ?_ <;> clear hres <;> intro c hres <;> try simp only [qa] at c
  ·refine sR (mI rfl (nS ?_))
   exact rR hres rfl rfl rfl
  ·refine az (af (sR (lD r0 rfl rfl rfl (gL (ax.g_Default r1) rfl rfl rfl fun b3 a4 => ?_))))
   obtain ⟨b1, a1, hres⟩ := dc hres
   have a2 := bw2  r0 a4 
   rw [a1] at a2
   refine cL a2 rfl rfl (aq (TR.clo aa.t r0) (aq (TR.clo av.t a4) bm)) (mV rfl (nS ?_))
   exact rR hres rfl rfl rfl

def RF47 (res : Int × Int) (r : PV) : Prop := r = .tup [vi res.1, vi res.2]
theorem ay4 {x0 : aa} {x1 : Int} {v0 : PV} (r0 : aa.t.R x0 v0) : FnR Tryz.prog 47 [v0, vi x1] (.tup [vi ((fc x0 x1).1), vi ((fc x0 x1).2)]) := by
 refine fnS (R := RF47) de5 (fun _ h => h) rfl fun res hres => ?_
 unfold fc at hres
 refine sR (ab (dh rfl (TR.cnt aa.t r0)) (mI rfl (mI rfl (nS (ae (sR (mV rfl (bN co rfl rfl ?_))))))))
 refine mV rfl ?_
 refine bv 6 (d := 17) (v := vb ((decide (x1 < 0)) || (decide ((x0.Tables.length : Int) ≤ x1)))) ?_ ?_
 ·intro S Q r
  cases b1 : (decide (x1 < 0))
  ·intro k
   have a3 := b1
   try simp only [qa] at a3
   refine ai rfl rfl (am rfl) ?_
   obtain ⟨d4, c4, a2⟩ := aa.g_Tables r0
   refine ai rfl rfl (bc rfl c4) (ai rfl rfl (ba rfl (TR.cnt (tSl ax.t) a2) (TR.agg (tSl ax.t) a2)) (ai rfl rfl (cd rfl (br a2 Tryz.underlying26 _)) (ai rfl rfl (bd rfl rfl oa) ?_)))
   exact gK rfl rfl rfl rfl rfl k
  ·exact gN 5 rfl rfl rfl rfl rfl rfl
 refine nS ?_
 refine cq hres rfl ?_ ?_ <;> clear hres <;> intro c hres <;> try simp only [qa] at c
 ·refine sR (mI rfl (mI rfl (nS ?_)))
  exact rT hres rfl rfl rfl rfl rfl
 ·refine az (af (sR (gL (aa.g_Tables r0) rfl rfl rfl fun c9 c3 => (mV rfl ?_))))
  obtain ⟨b0, b8, a0⟩ := cx (i := x1) c3 (by first | omega | (have hk := bb (by assumption) (by assumption); omega) | (have hk := tck (by assumption) (by assumption); omega) | (have hk := rtck (by assumption) (by assumption); omega) | (have hk := eck (by assumption) (by assumption) (by assumption); omega) | (have hk := tv (by assumption) (by assumption); omega) | (have hk := rtv (by assumption) (by assumption); omega)) (by first | omega | (have hk := bb (by assumption) (by assumption); omega) | (have hk := tck (by assumption) (by assumption); omega) | (have hk := rtck (by assumption) (by assumption); omega) | (have hk := eck (by assumption) (by assumption) (by assumption); omega) | (have hk := tv (by assumption) (by assumption); omega) | (have hk := rtv (by assumption) (by assumption); omega))
  refine ab (bn rfl rfl b8) (lD a0 rfl rfl rfl ?_)
  refine dt (x := .agg [vs [], nilS, nilS, vi 0, nilS, vi 0]) (Mem.nil ⟨0, []⟩) rfl rfl (fun c6 c5 d5 c0 => ?_)
  refine de (k := 0) (v := b0) c0 rfl rfl rfl (TR.cnt ax.t a0) (fun b9 a1 => ?_)
  replace a1 : Mem b9 [⟨.op c6 c5 0, 87, 6, [b0]⟩] := a1
  refine nS (ae (bf (sR (ab (bz rfl) (ab (dl (k := 0) a1 rfl rfl (ax.g_Name a0)) ?_)))))
  obtain ⟨d1, a6, hres⟩ := dc hres
  have b2 := di0 (x0 := (ix x0.Tables x1).Name)  
  rw [a6] at b2
  refine cL b2 rfl rfl (aq rfl bm) (ab (gc rfl) (mV rfl (nS ?_)))
  refine cq hres rfl ?_ ?_ <;> clear hres <;> intro c hres <;> try simp only [qa] at c
  ·refine sR (mI rfl (mI rfl (nS ?_)))
   exact rT hres rfl rfl rfl rfl rfl
  ·refine sR (ab (bz rfl) ?_)
   obtain ⟨d0, b7, c7⟩ := ax.g_Keys a0
   refine ab (dl (k := 0) a1 rfl rfl b7) (ab (cd rfl (br c7 Tryz.underlying85 _)) (bN gi rfl rfl (mV rfl ?_)))
   refine bv 5 (d := 38) (v := vb ((decide (6 < (((ix x0.Tables x1).Keys).length : Int))) || (decide (16 < (((ix x0.Tables x1).Actions).length : Int))))) ?_ ?_
   ·intro S Q r
    cases a8 : (decide (6 < (((ix x0.Tables x1).Keys).length : Int)))
    ·intro k
     have a4 := a8
     try simp only [qa] at a4
     refine ai rfl rfl (bz rfl) ?_
     obtain ⟨d2, c1, b6⟩ := ax.g_Actions a0
     refine ai rfl rfl (dl (k := 0) a1 rfl rfl c1) (ai rfl rfl (cd rfl (br b6 Tryz.underlying29 _)) (ai rfl rfl (bd rfl rfl gi) ?_))
     exact gK rfl rfl rfl rfl rfl k
    ·exact gN 4 rfl rfl rfl rfl rfl rfl
   refine mV rfl (nS ?_)
   refine cq hres rfl ?_ ?_ <;> clear hres <;> intro c hres <;> try simp only [qa] at c
   ·refine sR (mI rfl (mI rfl (nS ?_)))
    exact rT hres rfl rfl rfl rfl rfl
   ·refine sR (ab (bz rfl) (ab (dl (k := 0) a1 rfl rfl (ax.g_Size a0)) (bN co rfl rfl (mV rfl ?_))))
    refine bv 4 (d := 47) (v := vb ((decide (((ix x0.Tables x1).Size) < 1)) || (decide (256 < ((ix x0.Tables x1).Size))))) ?_ ?_
    ·intro S Q r
     cases b5 : (decide (((ix x0.Tables x1).Size) < 1))
     ·intro k
      have a5 := b5
      try simp only [qa] at a5
      refine ai rfl rfl (bz rfl) (ai rfl rfl (dl (k := 0) a1 rfl rfl (ax.g_Size a0)) (ai rfl rfl (bd rfl rfl gi) ?_))
      exact gK rfl rfl rfl rfl rfl k
     ·exact gN 3 rfl rfl rfl rfl rfl rfl
    refine mV rfl (nS ?_)
    refine cq hres rfl ?_ ?_ <;> clear hres <;> intro c hres <;> try simp only [qa] at c
    ·refine sR (mI rfl (mI rfl (nS ?_)))
     exact rT hres rfl rfl rfl rfl rfl
    ·refine az (dg (af (sR (lD r0 rfl rfl rfl (ab (gq (k := 0) a1 rfl rfl (TR.agg ax.t a0)) ?_)))))
     obtain ⟨c8, a9, hres⟩ := dc hres
     have b4 := dm2  r0 a0 
     rw [a9] at b4
     refine cL b4 rfl rfl (aq (TR.clo aa.t r0) (aq (TR.clo ax.t a0) bm)) (mV rfl (xT rfl rfl (xT rfl rfl (mV rfl (mV rfl (nS (ae (sR ?_))))))))
     refine mV rfl (bN jk rfl rfl (nS ?_))
     refine cq hres rfl ?_ ?_ <;> clear hres <;> intro c hres <;> try simp only [qa] at c
     ·refine sR (mV rfl (mV rfl (mV rfl (mV rfl (nS ?_)))))
      exact rT hres rfl rfl rfl rfl rfl
     ·refine az (af (sR (lD r0 rfl rfl rfl (ab (gq (k := 0) a1 rfl rfl (TR.agg ax.t a0)) ?_))))
      obtain ⟨d3, b3, hres⟩ := dc hres
      have a7 := di6  r0 a0 
      rw [b3] at a7
      refine cL a7 rfl rfl (aq (TR.clo aa.t r0) (aq (TR.clo ax.t a0) bm)) (mV rfl (nS (ae (sR (mV rfl (bN jk rfl rfl (nS ?_)))))))
      refine cq hres rfl ?_ ?_ <;> clear hres <;> intro c hres <;> try simp only [qa] at c
      ·refine sR (mV rfl (mI rfl (mV rfl (nS ?_))))
       exact rT hres rfl rfl rfl rfl rfl
      ·refine az (af (sR (mI rfl (mI rfl (nS ?_)))))
       exact rT hres rfl rfl rfl rfl rfl

def RF61 (res : Bool) (r : PV) : Prop := r = vb res
theorem ay5 {x0 : aa} {x1 : Int} {v0 : PV} (r0 : aa.t.R x0 v0) : FnR Tryz.prog 61 [v0, vi x1] (vb (fe x0 x1)) := by
 refine fnS (R := RF61) df3 (fun _ h => h) rfl fun res hres => ?_
 unfold fe at hres
 refine sR (ab (dh rfl (TR.cnt aa.t r0)) (mB rfl (nR (lD r0 rfl rfl rfl (mV rfl ?_)))))
 obtain ⟨a2, a0, hres⟩ := dc hres
 have a1 := ay4 (x1 := x1) r0 
 rw [a0] at a1
 refine cL a1 rfl rfl (aq (TR.clo aa.t r0) (aq rfl bm)) (mV rfl (xT rfl rfl (xT rfl rfl (mV rfl (mV rfl (nR (mV rfl (bN lh rfl rfl ?_))))))))
 refine mV rfl (nS ?_)
 exact rR hres rfl rfl rfl

def RF24 (res : (List Int)) (r : PV) : Prop := (tSl tI).R res r
theorem xb {S : List Fr} {res : (List Int)} {x0 : aa} {x1 : Int} {c1 : Bool} {v0 : PV} (r0 : aa.t.R x0 v0) (e2 : fe x0 x1 = c1) (b3 : (!c1) = false) {K0 : (List Int) → (List Int)}
  (e9 : ∀ {a1 : List Int} {a0 : List PV} {a2 : PV} (a4 : All2 tI.R a1 a0) (a6 : isL a2 = true) (a3 : Wri a2 a0) (a5 : a1.length ≤ 4611686018427387904) {h : Heap} (M0 : Mem h [⟨a2, 3, 1, a0⟩]), K0 a1 = res → PX Tryz.prog 0 S (QR Tryz.prog [(4, none)] (RF24 res)) [(5, a2)] h) :
  ∀ {m : Nat} {a9 : Int} {a1 : List Int} {a0 : List PV} {a2 : PV} (a4 : All2 tI.R a1 a0) (a6 : isL a2 = true) (a3 : Wri a2 a0) (a5 : a1.length ≤ 4611686018427387904) (e3 : m = Int.toNat ((((ix x0.Tables x1).Keys).length : Int) - a9)) (b7 : 0 ≤ a9) (b1 : (a1.length : Int) ≤ a9) {h : Heap} (M0 : Mem h [⟨a2, 3, 1, a0⟩]), jn x0 x1 K0 m a9 a1 = res → RC Tryz.prog (.loop cf5) S (QR Tryz.prog [(4, none)] (RF24 res)) [(6, vi a9), (5, a2), (2, .fp v0), (1, vi x1)] h := by
 have b2 := b3
 try simp only [qa] at b2
 intro m
 induction m with
 | zero =>
  intro a9 a1 a0 a2 a4 a6 a3 a5 e3 b7 b1 h M0 hres
  rw [jn] at hres
  refine bq (ae (sR (mV rfl (gL (aa.g_Tables r0) rfl rfl rfl fun f1 d2 => (mV rfl ?_)))))
  obtain ⟨f4, c7, d4⟩ := cx (i := x1) d2 (by first | omega | (have hk := bb (by assumption) (by assumption); omega) | (have hk := tck (by assumption) (by assumption); omega) | (have hk := rtck (by assumption) (by assumption); omega) | (have hk := eck (by assumption) (by assumption) (by assumption); omega) | (have hk := tv (by assumption) (by assumption); omega) | (have hk := rtv (by assumption) (by assumption); omega)) (by first | omega | (have hk := bb (by assumption) (by assumption); omega) | (have hk := tck (by assumption) (by assumption); omega) | (have hk := rtck (by assumption) (by assumption); omega) | (have hk := eck (by assumption) (by assumption) (by assumption); omega) | (have hk := tv (by assumption) (by assumption); omega) | (have hk := rtv (by assumption) (by assumption); omega))
  refine ab (bn rfl rfl c7) (gL (ax.g_Keys d4) rfl rfl rfl fun f7 d9 => (ab (cd rfl (br d9 Tryz.underlying85 _)) (bN co rfl rfl (nS ?_))))
  refine bg rfl ?_ ?_ <;> intro c <;> try simp only [qa] at c
  ·omega
  refine dm (dx (cy ?_))
  exact wP (e9 a4 a6 a3 a5 (Mem.sub M0 (.cons_cons _ .slnil)) hres) rfl
 | succ m ih =>
  intro a9 a1 a0 a2 a4 a6 a3 a5 e3 b7 b1 h M0 hres
  rw [jn] at hres
  refine bq (ae (sR (mV rfl (gL (aa.g_Tables r0) rfl rfl rfl fun f6 d0 => (mV rfl ?_)))))
  obtain ⟨f2, d8, e0⟩ := cx (i := x1) d0 (by first | omega | (have hk := bb (by assumption) (by assumption); omega) | (have hk := tck (by assumption) (by assumption); omega) | (have hk := rtck (by assumption) (by assumption); omega) | (have hk := eck (by assumption) (by assumption) (by assumption); omega) | (have hk := tv (by assumption) (by assumption); omega) | (have hk := rtv (by assumption) (by assumption); omega)) (by first | omega | (have hk := bb (by assumption) (by assumption); omega) | (have hk := tck (by assumption) (by assumption); omega) | (have hk := rtck (by assumption) (by assumption); omega) | (have hk := eck (by assumption) (by assumption) (by assumption); omega) | (have hk := tv (by assumption) (by assumption); omega) | (have hk := rtv (by assumption) (by assumption); omega))
  refine ab (bn rfl rfl d8) (gL (ax.g_Keys e0) rfl rfl rfl fun e8 c5 => (ab (cd rfl (br c5 Tryz.underlying85 _)) (bN co rfl rfl (nS ?_))))
  refine bg rfl ?_ ?_ <;> intro c <;> try simp only [qa] at c
  rotate_left
  ·omega
  refine az (af (ae (bf (ah (mV rfl (lD r0 rfl rfl rfl (gL (aa.g_Tables r0) rfl rfl rfl fun f3 c6 => (mV rfl ?_))))))))
  obtain ⟨e4, d6, c8⟩ := cx (i := x1) c6 (by first | omega | (have hk := bb (by assumption) (by assumption); omega) | (have hk := tck (by assumption) (by assumption); omega) | (have hk := rtck (by assumption) (by assumption); omega) | (have hk := eck (by assumption) (by assumption) (by assumption); omega) | (have hk := tv (by assumption) (by assumption); omega) | (have hk := rtv (by assumption) (by assumption); omega)) (by first | omega | (have hk := bb (by assumption) (by assumption); omega) | (have hk := tck (by assumption) (by assumption); omega) | (have hk := rtck (by assumption) (by assumption); omega) | (have hk := eck (by assumption) (by assumption) (by assumption); omega) | (have hk := tv (by assumption) (by assumption); omega) | (have hk := rtv (by assumption) (by assumption); omega))
  refine ab (bn rfl rfl d6) (gL (ax.g_Keys c8) rfl rfl rfl fun f0 d1 => (mV rfl ?_))
  obtain ⟨e5, d5, d7⟩ := cx (i := a9) d1 (by first | omega | (have hk := bb (by assumption) (by assumption); omega) | (have hk := tck (by assumption) (by assumption); omega) | (have hk := rtck (by assumption) (by assumption); omega) | (have hk := eck (by assumption) (by assumption) (by assumption); omega) | (have hk := tv (by assumption) (by assumption); omega) | (have hk := rtv (by assumption) (by assumption); omega)) (by first | omega | (have hk := bb (by assumption) (by assumption); omega) | (have hk := tck (by assumption) (by assumption); omega) | (have hk := rtck (by assumption) (by assumption); omega) | (have hk := eck (by assumption) (by assumption) (by assumption); omega) | (have hk := tv (by assumption) (by assumption); omega) | (have hk := rtv (by assumption) (by assumption); omega))
  refine ab (bn rfl rfl d5) (gL (bh.g_Field d7) rfl rfl rfl fun e7 c4 => ?_)
  obtain ⟨a8, b4, hres⟩ := dc hres
  have b5 := bs9  r0 c4 
  rw [b4] at b5
  refine cL b5 rfl rfl (aq (TR.clo aa.t r0) (aq (TR.clo cf.t c4) bm)) (ab (v := .fs true [vi a8]) (lj rfl (all_cons rfl og)) ?_)
  have e1 : (tSl tI).R ([a8] : List Int) (.fs true [vi a8]) := zu ⟨rfl, trivial⟩ (by simp)
  obtain ⟨a7, c3, b0⟩ := zg (t := tI) (h := h) e1
  have b9 : fits (a0.length + a7.length) 8 = true := by rw [All2.length_eq a4, All2.length_eq b0]; (try simp only [List.length_cons, List.length_nil]); exact qi (by have hk := rtv (by assumption) (by assumption); omega) (by have hk := rtv (by assumption) (by assumption); omega)
  refine rn (k := 0) (es := a0) (news := a7) M0 rfl rfl rfl a6 a3 c3 b9 (fun e6 f5 d3 c0 c9 => ?_)
  have b6 : All2 tI.R (a1 ++ ([a8] : List Int)) (a0 ++ a7) := All2.app a4 b0
  have b8 : (a1 ++ ([a8] : List Int)).length ≤ 4611686018427387904 := by rw [← All2.length_eq b6, List.length_append]; exact ae5 b9
  refine mV rfl (aw (dg (af (ah (mV rfl (bN eg rfl rfl (mV rfl (aw ?_))))))))
  refine ct ?_
  have hbd := du c5
  have hinc : wr (a9 + 1) = a9 + 1 := dw (by omega) (by omega)
  erw [hinc]
  exact wC (ih  b6 d3 c0 b8 (by omega) (by omega) (by first | omega | (simp; done) | (simp only [List.length_append, List.length_cons, List.length_nil, List.length_set]; omega)) (Mem.sub c9 (.cons_cons _ .slnil)) hres) rfl

theorem cz1 {x0 : aa} {x1 : Int} {v0 : PV} (r0 : aa.t.R x0 v0) : ∃ r, FnR Tryz.prog 24 [v0, vi x1] r ∧ (tSl tI).R (db x0 x1) r := by
 refine fnT (R := RF24) dl7 rfl fun res hres => ?_
 unfold db at hres
 refine sR (ab (dh rfl (TR.cnt aa.t r0)) (ab (v := nilS) (am rfl) (nS (ae (sR (lD r0 rfl rfl rfl (mV rfl ?_)))))))
 obtain ⟨b7, a4, hres⟩ := dc hres
 have b0 := ay5 (x1 := x1) r0 
 rw [a4] at b0
 refine cL b0 rfl rfl (aq (TR.clo aa.t r0) (aq rfl bm)) (ab (gc rfl) (nS ?_))
 refine cq hres rfl ?_ ?_ <;> clear hres <;> intro a3 hres <;> have a5 := a3 <;> try simp only [qa] at a5
 ·refine sR (ab (v := nilS) (am rfl) (nS ?_))
  exact rR hres rfl (TR.clo (tSl tI) ib) ib
 ·refine az (af (sR (ab (v := nilS) (am rfl) (nS (ae (sR (mI rfl (nS ?_))))))))
  refine bf ?_
  have b1 := rj (sz := 1) (es := []) (Mem.nil ⟨0, []⟩) 3 (.inl ⟨none, rfl, rfl⟩) (by simp)
  refine wC (xb r0 a4 a3 ?_  aL rfl (.inl rfl) (by first | decide | simp) rfl (by omega) (by first | omega | (simp; done) | (simp only [List.length_append, List.length_cons, List.length_nil, List.length_set]; omega)) (Mem.sub b1 (.cons_cons _ .slnil)) hres) rfl
  ·intro a6 a8 a9 a2 a1 a7 a0 b6 b2 hres
   refine fd (af (sR (mV rfl (mV rfl (nS ?_)))))
   obtain ⟨b5, b3, b4⟩ := zo (P := Tryz.prog) (k := 0) (t := tI) b2 rfl a1 a2 (Nat.le_trans a0 (by decide))
   subst hres
   exact fg (.tmp rfl .nil) b3 b4

def RF146 (res : (BitVec 32)) (r : PV) : Prop := r = df res
theorem ch3 {x0 x1 : Int} : FnR Tryz.prog 146 [vi x0, vi x1] (df (ma x0 x1)) := by
 refine fnS (R := RF146) cq6 (fun _ h => h) rfl fun res hres => ?_
 unfold ma at hres
 refine sR (ab (v := df 0#32) (am rfl) (nS (ae (sR (mV rfl ?_)))))
 obtain ⟨a8, a2, hres⟩ := dc hres
 have a6 := xw (x0 := x1)  
 rw [a2] at a6
 refine cL a6 rfl rfl (aq rfl bm) (ab (gc rfl) (nS ?_))
 refine cq hres rfl ?_ ?_ <;> clear hres <;> intro c hres <;> try simp only [qa] at c
 ·refine sR (ab (v := df 0#32) (am rfl) (nS ?_))
  exact rR hres rfl rfl rfl
 ·refine az (af (sR (mV rfl (ab (cd rfl (ac1 _ _)) (mV rfl (ab (cd rfl (ap3 _ _)) (mV rfl (nR ?_))))))))
  refine mV rfl ?_
  obtain ⟨a1, a5, hres⟩ := dc hres
  have a0 := ad3 (x0 := x1)  (by first | omega | (have hk := rv (by assumption) (by assumption); have e := dw (n := x1 - min (max x0 0) x1) (by omega) (by omega); omega))
  rw [a5] at a0
  refine cL a0 rfl rfl (aq rfl bm) (mV rfl (mV rfl (bN aa5 rfl rfl ?_)))
  obtain ⟨a3, a4, hres⟩ := dc hres
  have a7 := ad3 (x0 := (wr (x1 - (min (max x0 0) x1))))  (by first | omega | (have hk := rv (by assumption) (by assumption); have e := dw (n := x1 - min (max x0 0) x1) (by omega) (by omega); omega))
  rw [a4] at a7
  refine cL a7 rfl rfl (aq rfl bm) (ab (bd (a := pp a1) (b := pp a3) rfl rfl cw1) (ab (xq (a := pp (a1 - a3)) rfl (c_dw Tryz.underlying97 Tryz.underlying64)) (mV rfl (nS ?_))))
  exact rR hres rfl rfl rfl

def RF121 (res : Int × Bool) (r : PV) : Prop := r = .tup [vi res.1, vb res.2]
theorem ue {S : List Fr} {res : Int × Bool} {x0 : BitVec 32} {x1 : Int} {K0 : Unit → (Int × Bool)}
  (b1 : K0 () = res → PX Tryz.prog 0 S (QR Tryz.prog [(4, none), (5, none)] (RF121 res)) [] ⟨0, []⟩) :
  ∀ {m : Nat} {a0 : Int} (b2 : m = Int.toNat ((x1 + 1) - a0)) (a4 : 0 ≤ a0), gw x0 x1 K0 m a0 = res → RC Tryz.prog (.loop by4) S (QR Tryz.prog [(4, none), (5, none)] (RF121 res)) [(6, vi a0), (1, vi x1), (0, df x0)] ⟨0, []⟩ := by
 intro m
 induction m with
 | zero =>
  intro a0 b2 a4 hres
  rw [gw] at hres
  refine bq (ae (sR (mV rfl (mV rfl (bN bj0 rfl rfl (mV rfl ?_))))))
  refine bv 3 (d := 13) (v := vb ((decide (a0 ≤ x1)) && (fm x1))) ?_ ?_
  ·intro S Q r
   cases a5 : (decide (a0 ≤ x1))
   ·exact gN 2 rfl rfl rfl rfl rfl rfl
   ·intro k
    have a2 := a5
    try simp only [qa] at a2
    refine ai rfl rfl (am rfl) ?_
    have b0 := xw (x0 := x1)  
    refine fu rfl rfl (mb rfl rfl (aq rfl bm) b0) ?_
    exact gK rfl rfl rfl rfl rfl k
  refine nS ?_
  refine bg rfl ?_ ?_ <;> intro c <;> try simp only [qa] at c
  ·omega
  refine dm (dx (cy ?_))
  exact wP (b1  hres) rfl
 | succ m ih =>
  intro a0 b2 a4 hres
  rw [gw] at hres
  refine bq (ae (sR (mV rfl (mV rfl (bN bj0 rfl rfl (mV rfl ?_))))))
  refine bv 3 (d := 13) (v := vb ((decide (a0 ≤ x1)) && (fm x1))) ?_ ?_
  ·intro S Q r
   cases a6 : (decide (a0 ≤ x1))
   ·exact gN 2 rfl rfl rfl rfl rfl rfl
   ·intro k
    have a1 := a6
    try simp only [qa] at a1
    refine ai rfl rfl (am rfl) ?_
    have a8 := xw (x0 := x1)  
    refine fu rfl rfl (mb rfl rfl (aq rfl bm) a8) ?_
    exact gK rfl rfl rfl rfl rfl k
  refine nS ?_
  refine cq hres rfl ?_ ?_ <;> clear hres <;> intro c hres <;> try simp only [qa] at c
  ·refine az (af (ae (bf (sR (mV rfl (mV rfl ?_))))))
   obtain ⟨a9, a7, hres⟩ := dc hres
   have a3 := ch3 (x0 := a0) (x1 := x1)  
   rw [a7] at a3
   refine cL a3 rfl rfl (aq rfl (aq rfl bm)) (mV rfl (ab (bd (a := df a9) (b := df x0) rfl rfl bj4) (nS ?_)))
   refine cq hres rfl ?_ ?_ <;> clear hres <;> intro c hres <;> try simp only [qa] at c
   ·refine sR (mV rfl (mV rfl (mB rfl (nS ?_))))
    exact rT hres rfl rfl rfl rfl rfl
   ·refine az (dg (af (ah (mV rfl (bN eg rfl rfl (mV rfl (aw (ct ?_))))))))
    have hinc : wr (a0 + 1) = a0 + 1 := dw (by omega) (by have hk := rv (w := x1) rfl (And.right (by assumption)); omega)
    erw [hinc]
    exact wC (ih   (by omega) (by omega) hres) rfl
  ·refine dm (dx (cy ?_))
   exact wP (b1  hres) rfl

theorem cl8 {x0 : BitVec 32} {x1 : Int} : FnR Tryz.prog 121 [df x0, vi x1] (.tup [vi ((jm x0 x1).1), vb ((jm x0 x1).2)]) := by
 refine fnS (R := RF121) cp4 (fun _ h => h) rfl fun res hres => ?_
 unfold jm at hres
 refine sR (mI rfl (mB rfl (nS (ae (sR (mI rfl (nS (bf ?_))))))))
 refine wC (ue  ?_  rfl (by omega) hres) rfl
 ·intro  hres
  refine fd (af (sR (mI rfl (mB rfl (nS ?_)))))
  exact rT hres rfl rfl rfl rfl rfl

def RF123 (res : (BitVec 32)) (r : PV) : Prop := r = df res
theorem ci5 {x0 : Int} : FnR Tryz.prog 123 [vi x0] (df (jh x0)) := by
 refine fnS (R := RF123) ce8 (fun _ h => h) rfl fun res hres => ?_
 unfold jh at hres
 refine sR (ab (v := df 0#32) (am rfl) (nS (ae (sR (mV rfl ?_)))))
 obtain ⟨a5, a2, hres⟩ := dc hres
 have a4 := xw (x0 := x0)  
 rw [a2] at a4
 refine cL a4 rfl rfl (aq rfl bm) (ab (gc rfl) (nS ?_))
 refine cq hres rfl ?_ ?_ <;> clear hres <;> intro c hres <;> try simp only [qa] at c
 ·refine sR (ab (v := df 0#32) (am rfl) (nS ?_))
  exact rR hres rfl rfl rfl
 ·refine az (af (sR (mV rfl ?_)))
  obtain ⟨a1, a3, hres⟩ := dc hres
  have a0 := ad3 (x0 := x0)  (by first | assumption | omega | (have := rv (by assumption) (by assumption); omega) | (rw [dw (by omega) (by omega)]; omega))
  rw [a3] at a0
  refine cL a0 rfl rfl (aq rfl bm) (ab (bd (a := pp a1) (b := pp 1#64) rfl rfl cw1) (ab (xq (a := pp (a1 - 1#64)) rfl (c_dw Tryz.underlying97 Tryz.underlying64)) (mV rfl (nS ?_))))
  exact rR hres rfl rfl rfl

def RF91 (res : Int) (r : PV) : Prop := r = vi res
theorem dh1 {x0 : ay} {x1 x2 : Int} {v0 : PV} (r0 : ay.t.R x0 v0) : FnR Tryz.prog 91 [v0, vi x1, vi x2] (vi (ji x0 x1 x2)) := by
 refine fnS (R := RF91) dm6 (fun _ h => h) rfl fun res hres => ?_
 unfold ji at hres
 refine sR (ab (dh rfl (TR.cnt ay.t r0)) (mI rfl (nR (fL rfl (ay.g_Mask r0) rfl rfl (mV rfl ?_)))))
 obtain ⟨a1, a6, hres⟩ := dc hres
 have b0 := cl8 (x0 := x0.Mask) (x1 := x1)  
 rw [a6] at b0
 refine cL b0 rfl rfl (aq rfl (aq rfl bm)) (mV rfl (xT rfl rfl (xT rfl rfl (mV rfl (mV rfl (nS (ae (bf ?_))))))))
 refine sR (fL rfl (ay.g_Value r0) rfl rfl (mV rfl ?_))
 obtain ⟨a5, b1, hres⟩ := dc hres
 have b2 := ao2 (x0 := x0.Value) (x1 := x1)  
 rw [b1] at b2
 refine cL b2 rfl rfl (aq rfl (aq rfl bm)) (ab (gc rfl) (mV rfl ?_))
 refine bv 6 (d := 28) (v := vb ((!a5) || (!(ku x0.Mask x1)))) ?_ ?_
 ·intro S Q r
  cases b3 : (!a5)
  ·intro k
   have a2 := b3
   try simp only [qa] at a2
   refine ai rfl rfl (bc rfl (ay.g_Mask r0)) (ai rfl rfl (ba rfl rfl rfl) (ai rfl rfl (am rfl) ?_))
   have b5 := ao2 (x0 := x0.Mask) (x1 := x1)  
   refine fu rfl rfl (mb rfl rfl (aq rfl (aq rfl bm)) b5) (ai rfl rfl (gc rfl) ?_)
   exact gK rfl rfl rfl rfl rfl k
  ·exact gN 5 rfl rfl rfl rfl rfl rfl
 refine mV rfl (nS ?_)
 refine cq hres rfl ?_ ?_ <;> clear hres <;> intro c hres <;> try simp only [qa] at c
 ·refine sR (mI rfl (nS ?_))
  exact rR hres rfl rfl rfl
 ·refine sR (fL rfl (ay.g_Value r0) rfl rfl (fL rfl (ay.g_Mask r0) rfl rfl (ab (bd (a := df x0.Value) (b := df x0.Mask) rfl rfl aw4) (fL rfl (ay.g_Value r0) rfl rfl (ab (bd (a := df (x0.Value &&& x0.Mask)) (b := df x0.Value) rfl rfl ad7) (mV rfl (nS ?_)))))))
  refine cq hres rfl ?_ ?_ <;> clear hres <;> intro c hres <;> try simp only [qa] at c
  ·refine sR (mI rfl (nS ?_))
   exact rR hres rfl rfl rfl
  ·refine sR (mV rfl (bN lh rfl rfl (mV rfl ?_)))
   refine bv 6 (d := 47) (v := vb ((decide (x2 = 1)) && (!decide (x0.Mask = (jh x1))))) ?_ ?_
   ·intro S Q r
    cases a9 : (decide (x2 = 1))
    ·exact gN 5 rfl rfl rfl rfl rfl rfl
    ·intro k
     have a4 := a9
     try simp only [qa] at a4
     refine ai rfl rfl (bc rfl (ay.g_Mask r0)) (ai rfl rfl (ba rfl rfl rfl) (ai rfl rfl (am rfl) ?_))
     have b4 := ci5 (x0 := x1)  
     refine fu rfl rfl (mb rfl rfl (aq rfl bm) b4) (ai rfl rfl (bd (a := df x0.Mask) (b := df (jh x1)) rfl rfl ad7) ?_)
     exact gK rfl rfl rfl rfl rfl k
   refine mV rfl ?_
   refine bv 7 (d := 55) (v := vb (((decide (x2 = 1)) && (!decide (x0.Mask = (jh x1)))) || ((decide (x2 = 2)) && (!a1.2)))) ?_ ?_
   ·intro S Q r
    cases a7 : ((decide (x2 = 1)) && (!decide (x0.Mask = (jh x1))))
    ·intro k
     have a0 := a7
     try simp only [qa] at a0
     refine ai rfl rfl (am rfl) (ai rfl rfl (bd rfl rfl lh) (ai rfl rfl (am rfl) ?_))
     refine bv 3 (d := 54) (v := vb ((decide (x2 = 2)) && (!a1.2))) ?_ ?_
     ·intro S Q r
      cases a8 : (decide (x2 = 2))
      ·intro k
       refine mn rfl rfl (mn rfl rfl (ai (v := vb false) rfl rfl (lz rfl rfl rfl rfl) ?_))
       exact wD k rfl
      ·intro k
       have a3 := a8
       try simp only [qa] at a3
       refine ai rfl rfl (am rfl) (ai rfl rfl (gc rfl) (ai (v := vb (!a1.2)) rfl rfl (lz rfl rfl rfl rfl) ?_))
       exact wD k rfl
     exact gK rfl rfl rfl rfl rfl k
    ·exact gN 6 rfl rfl rfl rfl rfl rfl
   refine mV rfl (nS ?_)
   refine cq hres rfl ?_ ?_ <;> clear hres <;> intro c hres <;> try simp only [qa] at c
   ·refine sR (mI rfl (nS ?_))
    exact rR hres rfl rfl rfl
   ·refine az (dg (af (sR (mI rfl (nS ?_)))))
    exact rR hres rfl rfl rfl

end Go.Proofs.YthdnpgpnodgicaaGreat
