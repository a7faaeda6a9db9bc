/-
 The code of each function does what its plain program says.
-/
import Derived.Test.YthdnpgpnodgicaaGreatL7W1
set_option linter.all false
set_option maxRecDepth 100000
namespace Go.Proofs.YthdnpgpnodgicaaGreat
open Go Go.Pb Go.RowKit
def RF90 (res : Int) (r : PV) : Prop := r = vi res
theorem zn {S : List Fr} {res : Int} {x0 : aa} {x1 : az} {v0 v1 : PV} (r0 : aa.t.R x0 v0) (r1 : az.t.R x1 v1) {K0 : Unit → Int}
  (c4 : K0 () = res → PX Tryz.prog 0 S (QR Tryz.prog [(4, none)] (RF90 res)) [(2, .fp v0), (3, .fp v1)] ⟨0, []⟩) :
  ∀ {m : Nat} {a0 : Int} (b8 : m = Int.toNat ((x1.Actions.length : Int) - a0)) (a7 : 0 ≤ a0), jy x0 x1 K0 m a0 = res → RC Tryz.prog (.loop cz8) S (QR Tryz.prog [(4, none)] (RF90 res)) [(5, vi a0), (3, .fp v1), (2, .fp v0)] ⟨0, []⟩ := by
 intro m
 induction m with
 | zero =>
  intro a0 b8 a7 hres
  rw [jy] at hres
  refine bt (ah (sR (mV rfl (gL (az.g_Actions r1) rfl rfl rfl fun c1 b7 => (ab (cw rfl (cf b7 Tryz.underlying29 _)) (bN cy rfl rfl (nS ?_)))))))
  refine bc rfl ?_ ?_ <;> intro c <;> try simp only [qa] at c
  ·omega
  refine dm (fb (df ?_))
  exact wP (c4  hres) rfl
 | succ m ih =>
  intro a0 b8 a7 hres
  rw [jy] at hres
  refine bt (ah (sR (mV rfl (gL (az.g_Actions r1) rfl rfl rfl fun c5 a8 => (ab (cw rfl (cf a8 Tryz.underlying29 _)) (bN cy rfl rfl (nS ?_)))))))
  refine bc rfl ?_ ?_ <;> intro c <;> try simp only [qa] at c
  rotate_left
  ·omega
  refine ay (ai (ah (bd (bd (sR ?_)))))
  obtain ⟨c6, b5, a5⟩ := az.g_Actions r1
  refine fA rfl b5 (lD a5 rfl rfl rfl (mV rfl (ab (bq rfl rfl (slI a5 (by first | omega | (have hk := bn (by assumption) (by assumption); omega) | (have hk := tck (by assumption) (by assumption); omega) | (have hk := rtck (by assumption) (by assumption); omega) | (have hk := eck (by assumption) (by assumption) (by assumption); omega) | (have hk := tv (by assumption) (by assumption); omega) | (have hk := rtv (by assumption) (by assumption); omega)) (by first | omega | (have hk := bn (by assumption) (by assumption); omega) | (have hk := tck (by assumption) (by assumption); omega) | (have hk := rtck (by assumption) (by assumption); omega) | (have hk := eck (by assumption) (by assumption) (by assumption); omega) | (have hk := tv (by assumption) (by assumption); omega) | (have hk := rtv (by assumption) (by assumption); omega)))) (lR rfl rfl rfl (bN cy rfl rfl (mV rfl ?_))))))
  refine cn 10 (d := 30) (v := vb ((decide ((ix x1.Actions a0) < 0)) || (decide ((x0.Actions.length : Int) ≤ (ix x1.Actions a0))))) ?_ ?_
  ·intro S Q r
   cases b1 : (decide ((ix x1.Actions a0) < 0))
   ·intro k
    have a2 := b1
    try simp only [qa] at a2
    obtain ⟨c7, b4, a4⟩ := az.g_Actions r1
    refine am rfl rfl (bz rfl b4) (am rfl rfl (br rfl (TR.cnt (tSl tI) a4) (TR.agg (tSl tI) a4)) (am rfl rfl (au rfl) (am rfl rfl (bq rfl rfl (slI a4 (by first | omega | (have hk := bn (by assumption) (by assumption); omega) | (have hk := tck (by assumption) (by assumption); omega) | (have hk := rtck (by assumption) (by assumption); omega) | (have hk := eck (by assumption) (by assumption) (by assumption); omega) | (have hk := tv (by assumption) (by assumption); omega) | (have hk := rtv (by assumption) (by assumption); omega)) (by first | omega | (have hk := bn (by assumption) (by assumption); omega) | (have hk := tck (by assumption) (by assumption); omega) | (have hk := rtck (by assumption) (by assumption); omega) | (have hk := eck (by assumption) (by assumption) (by assumption); omega) | (have hk := tv (by assumption) (by assumption); omega) | (have hk := rtv (by assumption) (by assumption); omega)))) (am rfl rfl (br rfl rfl rfl) ?_))))
    obtain ⟨b9, b3, a3⟩ := aa.g_Actions r0
    refine am rfl rfl (bz rfl b3) (am rfl rfl (br rfl (TR.cnt (tSl cz.t) a3) (TR.agg (tSl cz.t) a3)) (am rfl rfl (cw rfl (cf a3 Tryz.underlying25 _)) (am rfl rfl (ba rfl rfl tn) ?_)))
    exact gK rfl rfl rfl rfl rfl k
   ·exact gN 9 rfl rfl rfl rfl rfl rfl
  refine mV rfl (nS ?_)
  refine di hres rfl ?_ ?_ <;> clear hres <;> intro c hres <;> try simp only [qa] at c
  ·refine sR (mI rfl (nS ?_))
   exact rR hres rfl rfl rfl
  ·refine sR ?_
   obtain ⟨c0, b6, a1⟩ := az.g_Actions r1
   refine fA rfl b6 (lD a1 rfl rfl rfl ?_)
   obtain ⟨c3, b2, b0⟩ := az.g_Actions r1
   refine fA rfl b2 (lD b0 rfl rfl rfl (mV rfl (ab (bq rfl rfl (slI b0 (by first | omega | (have hk := bn (by assumption) (by assumption); omega) | (have hk := tck (by assumption) (by assumption); omega) | (have hk := rtck (by assumption) (by assumption); omega) | (have hk := eck (by assumption) (by assumption) (by assumption); omega) | (have hk := tv (by assumption) (by assumption); omega) | (have hk := rtv (by assumption) (by assumption); omega)) (by first | omega | (have hk := bn (by assumption) (by assumption); omega) | (have hk := tck (by assumption) (by assumption); omega) | (have hk := rtck (by assumption) (by assumption); omega) | (have hk := eck (by assumption) (by assumption) (by assumption); omega) | (have hk := tv (by assumption) (by assumption); omega) | (have hk := rtv (by assumption) (by assumption); omega)))) (lR rfl rfl rfl ?_))))
   obtain ⟨c8, a6, hres⟩ := dq hres
   have a9 := bo3 (x1 := (ix x1.Actions a0)) a1 
   rw [a6] at a9
   refine cL a9 rfl rfl (aq (TR.clo (tSl tI) a1) (aq rfl bg)) (mV rfl (bN cy rfl rfl (mV rfl (nS ?_))))
   refine di hres rfl ?_ ?_ <;> clear hres <;> intro c hres <;> try simp only [qa] at c
   ·refine sR (mI rfl (nS ?_))
    exact rR hres rfl rfl rfl
   ·refine ay (dj (dj (ai (af (mV rfl (bN ep rfl rfl (mV rfl (aw ?_))))))))
    refine cx ?_
    have hbd := dv a8
    have hinc : wr (a0 + 1) = a0 + 1 := du (by omega) (by omega)
    erw [hinc]
    exact wC (ih   (by omega) (by omega) hres) rfl

theorem dt0 {x0 : aa} {x1 : az} {v0 v1 : PV} (r0 : aa.t.R x0 v0) (r1 : az.t.R x1 v1) : FnR Tryz.prog 90 [v0, v1] (vi (qt x0 x1)) := by
 refine fnS (R := RF90) ds0 (fun _ h => h) rfl fun res hres => ?_
 unfold qt at hres
 refine sR (ab (dt rfl (TR.cnt aa.t r0)) (ab (dt rfl (TR.cnt az.t r1)) (mI rfl (nS (ah (sR (mI rfl (nS ?_))))))))
 refine bd ?_
 refine wC (zn r0 r1 ?_  rfl (by omega) hres) rfl
 ·intro  hres
  refine fe (ai (ah (sR ?_)))
  obtain ⟨b3, a6, a0⟩ := az.g_Actions r1
  refine fA rfl a6 (lD a0 rfl rfl rfl ?_)
  obtain ⟨b0, a7, a8⟩ := az.g_Default r1
  refine fA rfl a7 (fL rfl (ax.g_Action a8) rfl rfl ?_)
  obtain ⟨b2, a1, hres⟩ := dq hres
  have a2 := bo3 (x1 := x1.Default.Action) a0 
  rw [a1] at a2
  refine cL a2 rfl rfl (aq (TR.clo (tSl tI) a0) (aq rfl bg)) (bN cy rfl rfl (nS ?_))
  refine di hres rfl ?_ ?_ <;> clear hres <;> intro c hres <;> try simp only [qa] at c
  ·refine sR (mI rfl (nS ?_))
   exact rR hres rfl rfl rfl
  ·refine ay (ai (sR (lD r0 rfl rfl rfl (gL (az.g_Default r1) rfl rfl rfl fun a9 a4 => ?_))))
   obtain ⟨b1, a5, hres⟩ := dq hres
   have a3 := dq1  r0 a4 
   rw [a5] at a3
   refine cL a3 rfl rfl (aq (TR.clo aa.t r0) (aq (TR.clo ax.t a4) bg)) (mV rfl (nS ?_))
   exact rR hres rfl rfl rfl

def RF47 (res : Int × Int) (r : PV) : Prop := r = .tup [vi res.1, vi res.2]
theorem dl7 {x0 : aa} {x1 : Int} {v0 : PV} (r0 : aa.t.R x0 v0) : FnR Tryz.prog 47 [v0, vi x1] (.tup [vi ((gn x0 x1).1), vi ((gn x0 x1).2)]) := by
 refine fnS (R := RF47) dx8 (fun _ h => h) rfl fun res hres => ?_
 unfold gn at hres
 refine sR (ab (dt rfl (TR.cnt aa.t r0)) (mI rfl (mI rfl (nS (ah (sR (mV rfl (bN cy rfl rfl ?_))))))))
 refine mV rfl ?_
 refine cn 6 (d := 17) (v := vb ((decide (x1 < 0)) || (decide ((x0.Tables.length : Int) ≤ x1)))) ?_ ?_
 ·intro S Q r
  cases a9 : (decide (x1 < 0))
  ·intro k
   have a5 := a9
   try simp only [qa] at a5
   refine am rfl rfl (au rfl) ?_
   obtain ⟨d0, c1, a2⟩ := aa.g_Tables r0
   refine am rfl rfl (bz rfl c1) (am rfl rfl (br rfl (TR.cnt (tSl az.t) a2) (TR.agg (tSl az.t) a2)) (am rfl rfl (cw rfl (cf a2 Tryz.underlying26 _)) (am rfl rfl (ba rfl rfl tn) ?_)))
   exact gK rfl rfl rfl rfl rfl k
  ·exact gN 5 rfl rfl rfl rfl rfl rfl
 refine nS ?_
 refine di hres rfl ?_ ?_ <;> clear hres <;> intro c hres <;> try simp only [qa] at c
 ·refine sR (mI rfl (mI rfl (nS ?_)))
  exact rT hres rfl rfl rfl rfl rfl
 ·refine ay (ai (sR (gL (aa.g_Tables r0) rfl rfl rfl fun d3 c7 => (mV rfl ?_))))
  obtain ⟨b3, b8, a0⟩ := dl (i := x1) c7 (by first | omega | (have hk := bn (by assumption) (by assumption); omega) | (have hk := tck (by assumption) (by assumption); omega) | (have hk := rtck (by assumption) (by assumption); omega) | (have hk := eck (by assumption) (by assumption) (by assumption); omega) | (have hk := tv (by assumption) (by assumption); omega) | (have hk := rtv (by assumption) (by assumption); omega)) (by first | omega | (have hk := bn (by assumption) (by assumption); omega) | (have hk := tck (by assumption) (by assumption); omega) | (have hk := rtck (by assumption) (by assumption); omega) | (have hk := eck (by assumption) (by assumption) (by assumption); omega) | (have hk := tv (by assumption) (by assumption); omega) | (have hk := rtv (by assumption) (by assumption); omega))
  refine ab (bq rfl rfl b8) (lD a0 rfl rfl rfl ?_)
  refine dh (x := .agg [vs [], nilS, nilS, vi 0, nilS, vi 0]) (Mem.nil ⟨0, []⟩) rfl rfl (fun c6 b9 d5 b6 => ?_)
  refine db (k := 0) (v := b3) b6 rfl rfl rfl (TR.cnt az.t a0) (fun c0 a1 => ?_)
  replace a1 : Mem c0 [⟨.op c6 b9 0, 87, 6, [b3]⟩] := a1
  refine nS (ah (bd (sR (ab (bf rfl) (ab (cp (k := 0) a1 rfl rfl (az.g_Name a0)) ?_)))))
  obtain ⟨d2, b4, hres⟩ := dq hres
  have b1 := dp3 (x0 := (ix x0.Tables x1).Name)  
  rw [b4] at b1
  refine cL b1 rfl rfl (aq rfl bg) (ab (io rfl) (mV rfl (nS ?_)))
  refine di hres rfl ?_ ?_ <;> clear hres <;> intro c hres <;> try simp only [qa] at c
  ·refine sR (mI rfl (mI rfl (nS ?_)))
   exact rT hres rfl rfl rfl rfl rfl
  ·refine sR (ab (bf rfl) ?_)
   obtain ⟨d1, b7, c5⟩ := az.g_Keys a0
   refine ab (cp (k := 0) a1 rfl rfl b7) (ab (cw rfl (cf c5 Tryz.underlying85 _)) (bN ij rfl rfl (mV rfl ?_)))
   refine cn 5 (d := 38) (v := vb ((decide (6 < (((ix x0.Tables x1).Keys).length : Int))) || (decide (16 < (((ix x0.Tables x1).Actions).length : Int))))) ?_ ?_
   ·intro S Q r
    cases a8 : (decide (6 < (((ix x0.Tables x1).Keys).length : Int)))
    ·intro k
     have a3 := a8
     try simp only [qa] at a3
     refine am rfl rfl (bf rfl) ?_
     obtain ⟨d4, c4, c3⟩ := az.g_Actions a0
     refine am rfl rfl (cp (k := 0) a1 rfl rfl c4) (am rfl rfl (cw rfl (cf c3 Tryz.underlying29 _)) (am rfl rfl (ba rfl rfl ij) ?_))
     exact gK rfl rfl rfl rfl rfl k
    ·exact gN 4 rfl rfl rfl rfl rfl rfl
   refine mV rfl (nS ?_)
   refine di hres rfl ?_ ?_ <;> clear hres <;> intro c hres <;> try simp only [qa] at c
   ·refine sR (mI rfl (mI rfl (nS ?_)))
    exact rT hres rfl rfl rfl rfl rfl
   ·refine sR (ab (bf rfl) (ab (cp (k := 0) a1 rfl rfl (az.g_Size a0)) (bN cy rfl rfl (mV rfl ?_))))
    refine cn 4 (d := 47) (v := vb ((decide (((ix x0.Tables x1).Size) < 1)) || (decide (256 < ((ix x0.Tables x1).Size))))) ?_ ?_
    ·intro S Q r
     cases b2 : (decide (((ix x0.Tables x1).Size) < 1))
     ·intro k
      have a4 := b2
      try simp only [qa] at a4
      refine am rfl rfl (bf rfl) (am rfl rfl (cp (k := 0) a1 rfl rfl (az.g_Size a0)) (am rfl rfl (ba rfl rfl ij) ?_))
      exact gK rfl rfl rfl rfl rfl k
     ·exact gN 3 rfl rfl rfl rfl rfl rfl
    refine mV rfl (nS ?_)
    refine di hres rfl ?_ ?_ <;> clear hres <;> intro c hres <;> try simp only [qa] at c
    ·refine sR (mI rfl (mI rfl (nS ?_)))
     exact rT hres rfl rfl rfl rfl rfl
    ·refine ay (dj (ai (sR (lD r0 rfl rfl rfl (ab (fw (k := 0) a1 rfl rfl (TR.agg az.t a0)) ?_)))))
     obtain ⟨c9, a6, hres⟩ := dq hres
     have a7 := ds4  r0 a0 
     rw [a6] at a7
     refine cL a7 rfl rfl (aq (TR.clo aa.t r0) (aq (TR.clo az.t a0) bg)) (mV rfl (xT rfl rfl (xT rfl rfl (mV rfl (mV rfl (nS (ah (sR ?_))))))))
     refine mV rfl (bN ma rfl rfl (nS ?_))
     refine di hres rfl ?_ ?_ <;> clear hres <;> intro c hres <;> try simp only [qa] at c
     ·refine sR (mV rfl (mV rfl (mV rfl (mV rfl (nS ?_)))))
      exact rT hres rfl rfl rfl rfl rfl
     ·refine ay (ai (sR (lD r0 rfl rfl rfl (ab (fw (k := 0) a1 rfl rfl (TR.agg az.t a0)) ?_))))
      obtain ⟨c8, b0, hres⟩ := dq hres
      have b5 := dt0  r0 a0 
      rw [b0] at b5
      refine cL b5 rfl rfl (aq (TR.clo aa.t r0) (aq (TR.clo az.t a0) bg)) (mV rfl (nS (ah (sR (mV rfl (bN ma rfl rfl (nS ?_)))))))
      refine di hres rfl ?_ ?_ <;> clear hres <;> intro c hres <;> try simp only [qa] at c
      ·refine sR (mV rfl (mI rfl (mV rfl (nS ?_))))
       exact rT hres rfl rfl rfl rfl rfl
      ·refine ay (ai (sR (mI rfl (mI rfl (nS ?_)))))
       exact rT hres rfl rfl rfl rfl rfl

def RF61 (res : Bool) (r : PV) : Prop := r = vb res
theorem dv9 {x0 : aa} {x1 : Int} {v0 : PV} (r0 : aa.t.R x0 v0) : FnR Tryz.prog 61 [v0, vi x1] (vb (fu x0 x1)) := by
 refine fnS (R := RF61) do6 (fun _ h => h) rfl fun res hres => ?_
 unfold fu at hres
 refine sR (ab (dt rfl (TR.cnt aa.t r0)) (mB rfl (nR (lD r0 rfl rfl rfl (mV rfl ?_)))))
 obtain ⟨a2, a0, hres⟩ := dq hres
 have a1 := dl7 (x1 := x1) r0 
 rw [a0] at a1
 refine cL a1 rfl rfl (aq (TR.clo aa.t r0) (aq rfl bg)) (mV rfl (xT rfl rfl (xT rfl rfl (mV rfl (mV rfl (nR (mV rfl (bN oe rfl rfl ?_))))))))
 refine mV rfl (nS ?_)
 exact rR hres rfl rfl rfl

def RF24 (res : (List Int)) (r : PV) : Prop := (tSl tI).R res r
theorem zy {S : List Fr} {res : (List Int)} {x0 : aa} {x1 : Int} {b3 : Bool} {v0 : PV} (r0 : aa.t.R x0 v0) (e2 : fu x0 x1 = b3) (b8 : (!b3) = false) {K0 : (List Int) → (List Int)}
  (f3 : ∀ {a1 : List Int} {a0 : List PV} {a2 : PV} (a4 : All2 tI.R a1 a0) (a6 : isL a2 = true) (a3 : Wri a2 a0) (a5 : a1.length ≤ 4611686018427387904) {h : Heap} (M0 : Mem h [⟨a2, 3, 1, a0⟩]), K0 a1 = res → PX Tryz.prog 0 S (QR Tryz.prog [(4, none)] (RF24 res)) [(5, a2)] h) :
  ∀ {m : Nat} {a9 : Int} {a1 : List Int} {a0 : List PV} {a2 : PV} (a4 : All2 tI.R a1 a0) (a6 : isL a2 = true) (a3 : Wri a2 a0) (a5 : a1.length ≤ 4611686018427387904) (e3 : m = Int.toNat ((((ix x0.Tables x1).Keys).length : Int) - a9)) (b7 : 0 ≤ a9) (b1 : (a1.length : Int) ≤ a9) {h : Heap} (M0 : Mem h [⟨a2, 3, 1, a0⟩]), kg x0 x1 K0 m a9 a1 = res → RC Tryz.prog (.loop cp4) S (QR Tryz.prog [(4, none)] (RF24 res)) [(6, vi a9), (5, a2), (2, .fp v0), (1, vi x1)] h := by
 have b2 := b8
 try simp only [qa] at b2
 intro m
 induction m with
 | zero =>
  intro a9 a1 a0 a2 a4 a6 a3 a5 e3 b7 b1 h M0 hres
  rw [kg] at hres
  refine bt (ah (sR (mV rfl (gL (aa.g_Tables r0) rfl rfl rfl fun f2 c7 => (mV rfl ?_)))))
  obtain ⟨e9, d6, d4⟩ := dl (i := x1) c7 (by first | omega | (have hk := bn (by assumption) (by assumption); omega) | (have hk := tck (by assumption) (by assumption); omega) | (have hk := rtck (by assumption) (by assumption); omega) | (have hk := eck (by assumption) (by assumption) (by assumption); omega) | (have hk := tv (by assumption) (by assumption); omega) | (have hk := rtv (by assumption) (by assumption); omega)) (by first | omega | (have hk := bn (by assumption) (by assumption); omega) | (have hk := tck (by assumption) (by assumption); omega) | (have hk := rtck (by assumption) (by assumption); omega) | (have hk := eck (by assumption) (by assumption) (by assumption); omega) | (have hk := tv (by assumption) (by assumption); omega) | (have hk := rtv (by assumption) (by assumption); omega))
  refine ab (bq rfl rfl d6) (gL (az.g_Keys d4) rfl rfl rfl fun f5 e1 => (ab (cw rfl (cf e1 Tryz.underlying85 _)) (bN cy rfl rfl (nS ?_))))
  refine bc rfl ?_ ?_ <;> intro c <;> try simp only [qa] at c
  ·omega
  refine dm (fb (df ?_))
  exact wP (f3 a4 a6 a3 a5 (Mem.sub M0 (.cons_cons _ .slnil)) hres) rfl
 | succ m ih =>
  intro a9 a1 a0 a2 a4 a6 a3 a5 e3 b7 b1 h M0 hres
  rw [kg] at hres
  refine bt (ah (sR (mV rfl (gL (aa.g_Tables r0) rfl rfl rfl fun e5 e0 => (mV rfl ?_)))))
  obtain ⟨e6, d9, c6⟩ := dl (i := x1) e0 (by first | omega | (have hk := bn (by assumption) (by assumption); omega) | (have hk := tck (by assumption) (by assumption); omega) | (have hk := rtck (by assumption) (by assumption); omega) | (have hk := eck (by assumption) (by assumption) (by assumption); omega) | (have hk := tv (by assumption) (by assumption); omega) | (have hk := rtv (by assumption) (by assumption); omega)) (by first | omega | (have hk := bn (by assumption) (by assumption); omega) | (have hk := tck (by assumption) (by assumption); omega) | (have hk := rtck (by assumption) (by assumption); omega) | (have hk := eck (by assumption) (by assumption) (by assumption); omega) | (have hk := tv (by assumption) (by assumption); omega) | (have hk := rtv (by assumption) (by assumption); omega))
  refine ab (bq rfl rfl d9) (gL (az.g_Keys c6) rfl rfl rfl fun e7 c4 => (ab (cw rfl (cf c4 Tryz.underlying85 _)) (bN cy rfl rfl (nS ?_))))
  refine bc rfl ?_ ?_ <;> intro c <;> try simp only [qa] at c
  rotate_left
  ·omega
  refine ay (ai (ah (bd (af (mV rfl (lD r0 rfl rfl rfl (gL (aa.g_Tables r0) rfl rfl rfl fun f1 d8 => (mV rfl ?_))))))))
  obtain ⟨f0, d3, d2⟩ := dl (i := x1) d8 (by first | omega | (have hk := bn (by assumption) (by assumption); omega) | (have hk := tck (by assumption) (by assumption); omega) | (have hk := rtck (by assumption) (by assumption); omega) | (have hk := eck (by assumption) (by assumption) (by assumption); omega) | (have hk := tv (by assumption) (by assumption); omega) | (have hk := rtv (by assumption) (by assumption); omega)) (by first | omega | (have hk := bn (by assumption) (by assumption); omega) | (have hk := tck (by assumption) (by assumption); omega) | (have hk := rtck (by assumption) (by assumption); omega) | (have hk := eck (by assumption) (by assumption) (by assumption); omega) | (have hk := tv (by assumption) (by assumption); omega) | (have hk := rtv (by assumption) (by assumption); omega))
  refine ab (bq rfl rfl d3) (gL (az.g_Keys d2) rfl rfl rfl fun f7 c8 => (mV rfl ?_))
  obtain ⟨e4, d1, d7⟩ := dl (i := a9) c8 (by first | omega | (have hk := bn (by assumption) (by assumption); omega) | (have hk := tck (by assumption) (by assumption); omega) | (have hk := rtck (by assumption) (by assumption); omega) | (have hk := eck (by assumption) (by assumption) (by assumption); omega) | (have hk := tv (by assumption) (by assumption); omega) | (have hk := rtv (by assumption) (by assumption); omega)) (by first | omega | (have hk := bn (by assumption) (by assumption); omega) | (have hk := tck (by assumption) (by assumption); omega) | (have hk := rtck (by assumption) (by assumption); omega) | (have hk := eck (by assumption) (by assumption) (by assumption); omega) | (have hk := tv (by assumption) (by assumption); omega) | (have hk := rtv (by assumption) (by assumption); omega))
  refine ab (bq rfl rfl d1) (gL (bh.g_Field d7) rfl rfl rfl fun f4 c5 => ?_)
  obtain ⟨a7, b5, hres⟩ := dq hres
  have c3 := cb4  r0 c5 
  rw [b5] at c3
  refine cL c3 rfl rfl (aq (TR.clo aa.t r0) (aq (TR.clo cm.t c5) bg)) (ab (v := .fs true [vi a7]) (iw rfl (all_cons rfl lu)) ?_)
  have d5 : (tSl tI).R ([a7] : List Int) (.fs true [vi a7]) := tp ⟨rfl, trivial⟩ (by simp)
  obtain ⟨a8, b6, b0⟩ := uv (t := tI) (h := h) d5
  have b4 : fits (a0.length + a8.length) 8 = true := by rw [All2.length_eq a4, All2.length_eq b0]; (try simp only [List.length_cons, List.length_nil]); exact oz (by have hk := rtv (by assumption) (by assumption); omega) (by have hk := rtv (by assumption) (by assumption); omega)
  refine pt (k := 0) (es := a0) (news := a8) M0 rfl rfl rfl a6 a3 b6 b4 (fun f6 e8 c9 c1 d0 => ?_)
  have b9 : All2 tI.R (a1 ++ ([a7] : List Int)) (a0 ++ a8) := All2.app a4 b0
  have c0 : (a1 ++ ([a7] : List Int)).length ≤ 4611686018427387904 := by rw [← All2.length_eq b9, List.length_append]; exact ur b4
  refine mV rfl (aw (dj (ai (af (mV rfl (bN ep rfl rfl (mV rfl (aw ?_))))))))
  refine cx ?_
  have hbd := dv c4
  have hinc : wr (a9 + 1) = a9 + 1 := du (by omega) (by omega)
  erw [hinc]
  exact wC (ih  b9 c9 c1 c0 (by omega) (by omega) (by first | omega | (simp; done) | (simp only [List.length_append, List.length_cons, List.length_nil, List.length_set]; omega)) (Mem.sub d0 (.cons_cons _ .slnil)) hres) rfl

theorem dv3 {x0 : aa} {x1 : Int} {v0 : PV} (r0 : aa.t.R x0 v0) : ∃ r, FnR Tryz.prog 24 [v0, vi x1] r ∧ (tSl tI).R (bp x0 x1) r := by
 refine fnT (R := RF24) du3 rfl fun res hres => ?_
 unfold bp at hres
 refine sR (ab (dt rfl (TR.cnt aa.t r0)) (ab (v := nilS) (au rfl) (nS (ah (sR (lD r0 rfl rfl rfl (mV rfl ?_)))))))
 obtain ⟨b5, a3, hres⟩ := dq hres
 have b0 := dv9 (x1 := x1) r0 
 rw [a3] at b0
 refine cL b0 rfl rfl (aq (TR.clo aa.t r0) (aq rfl bg)) (ab (io rfl) (nS ?_))
 refine di hres rfl ?_ ?_ <;> clear hres <;> intro a4 hres <;> have a5 := a4 <;> try simp only [qa] at a5
 ·refine sR (ab (v := nilS) (au rfl) (nS ?_))
  exact rR hres rfl (TR.clo (tSl tI) gu) gu
 ·refine ay (ai (sR (ab (v := nilS) (au rfl) (nS (ah (sR (mI rfl (nS ?_))))))))
  refine bd ?_
  have b2 := pq (sz := 1) (es := []) (Mem.nil ⟨0, []⟩) 3 (.inl ⟨none, rfl, rfl⟩) (by simp)
  refine wC (zy r0 a3 a4 ?_  aL rfl (.inl rfl) (by first | decide | simp) rfl (by omega) (by first | omega | (simp; done) | (simp only [List.length_append, List.length_cons, List.length_nil, List.length_set]; omega)) (Mem.sub b2 (.cons_cons _ .slnil)) hres) rfl
  ·intro a7 a6 a9 a2 a1 a8 a0 b6 b1 hres
   refine fe (ai (sR (mV rfl (mV rfl (nS ?_)))))
   obtain ⟨b7, b3, b4⟩ := xr (P := Tryz.prog) (k := 0) (t := tI) b1 rfl a1 a2 (Nat.le_trans a0 (by decide))
   subst hres
   exact dw (.tmp rfl .nil) b3 b4

def RF146 (res : (BitVec 32)) (r : PV) : Prop := r = dx res
def RF121 (res : Int × Bool) (r : PV) : Prop := r = .tup [vi res.1, vb res.2]
def RF123 (res : (BitVec 32)) (r : PV) : Prop := r = dx res
def RF91 (res : Int) (r : PV) : Prop := r = vi res
def RF92 (res : Int) (r : PV) : Prop := r = vi res
def RF93 (res : Bool) (r : PV) : Prop := r = vb res
def RF48 (res : Int) (r : PV) : Prop := r = vi res
end Go.Proofs.YthdnpgpnodgicaaGreat
