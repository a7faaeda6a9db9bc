/-
 The code of each function does what its plain program says.
-/
import Derived.Test.YthdnpgpnodgicaaGreatL8W1
set_option linter.unusedVariables false
set_option linter.unusedSimpArgs false
set_option maxRecDepth 100000
namespace Go.Proofs.YthdnpgpnodgicaaGreat
open Go Go.Pb Go.RowKit
def RF90 (res : Int) (r : PV) : Prop := r = vi res
theorem zf {S : List Fr} {res : Int} {x0 : aa} {x1 : ax} {v0 v1 : PV} (r0 : aa.t.R x0 v0) (r1 : ax.t.R x1 v1) {K0 : Unit → Int}
  (c8 : K0 () = res → PX Tryz.prog 0 S (QR Tryz.prog [(4, none)] (RF90 res)) [(2, .fp v0), (3, .fp v1)] ⟨0, []⟩) :
  ∀ {m : Nat} {a0 : Int} (b8 : m = Int.toNat ((x1.Actions.length : Int) - a0)) (a7 : 0 ≤ a0), jx x0 x1 K0 m a0 = res → RC Tryz.prog (.loop cx0) S (QR Tryz.prog [(4, none)] (RF90 res)) [(5, vi a0), (3, .fp v1), (2, .fp v0)] ⟨0, []⟩ := by
 intro m
 induction m with
 | zero =>
  intro a0 b8 a7 hres
  rw [jx] at hres
  refine bw (ah (sR (mV rfl (gL (ax.g_Actions r1) rfl rfl rfl fun c6 b7 => (ab (cw rfl (cg b7 Tryz.underlying29 _)) (bN cy rfl rfl (nS ?_)))))))
  refine bc rfl ?_ ?_ <;> intro c <;> try simp only [qa] at c
  ·omega
  refine dt (fj (df ?_))
  exact wP (c8  hres) rfl
 | succ m ih =>
  intro a0 b8 a7 hres
  rw [jx] at hres
  refine bw (ah (sR (mV rfl (gL (ax.g_Actions r1) rfl rfl rfl fun c0 b1 => (ab (cw rfl (cg b1 Tryz.underlying29 _)) (bN cy rfl rfl (nS ?_)))))))
  refine bc rfl ?_ ?_ <;> intro c <;> try simp only [qa] at c
  rotate_left
  ·omega
  refine ay (ai (ah (bf (bf (sR ?_)))))
  obtain ⟨c5, b4, a8⟩ := ax.g_Actions r1
  refine fA rfl b4 (lD a8 rfl rfl rfl (mV rfl (ab (bp rfl rfl (slI a8 (by first | omega | (have hk := bn (by assumption) (by assumption); omega) | (have hk := tck (by assumption) (by assumption); omega) | (have hk := rtck (by assumption) (by assumption); omega) | (have hk := eck (by assumption) (by assumption) (by assumption); omega) | (have hk := tv (by assumption) (by assumption); omega) | (have hk := rtv (by assumption) (by assumption); omega)) (by first | omega | (have hk := bn (by assumption) (by assumption); omega) | (have hk := tck (by assumption) (by assumption); omega) | (have hk := rtck (by assumption) (by assumption); omega) | (have hk := eck (by assumption) (by assumption) (by assumption); omega) | (have hk := tv (by assumption) (by assumption); omega) | (have hk := rtv (by assumption) (by assumption); omega)))) (lR rfl rfl rfl (bN cy rfl rfl (mV rfl ?_))))))
  refine cp 10 (d := 30) (v := vb ((decide ((ix x1.Actions a0) < 0)) || (decide ((x0.Actions.length : Int) ≤ (ix x1.Actions a0))))) ?_ ?_
  ·intro S Q r
   cases a5 : (decide ((ix x1.Actions a0) < 0))
   ·intro k
    have a3 := a5
    try simp only [qa] at a3
    obtain ⟨c3, b6, a2⟩ := ax.g_Actions r1
    refine ak rfl rfl (ck rfl b6) (ak rfl rfl (bt rfl (TR.cnt (tSl tI) a2) (TR.agg (tSl tI) a2)) (ak rfl rfl (au rfl) (ak rfl rfl (bp rfl rfl (slI a2 (by first | omega | (have hk := bn (by assumption) (by assumption); omega) | (have hk := tck (by assumption) (by assumption); omega) | (have hk := rtck (by assumption) (by assumption); omega) | (have hk := eck (by assumption) (by assumption) (by assumption); omega) | (have hk := tv (by assumption) (by assumption); omega) | (have hk := rtv (by assumption) (by assumption); omega)) (by first | omega | (have hk := bn (by assumption) (by assumption); omega) | (have hk := tck (by assumption) (by assumption); omega) | (have hk := rtck (by assumption) (by assumption); omega) | (have hk := eck (by assumption) (by assumption) (by assumption); omega) | (have hk := tv (by assumption) (by assumption); omega) | (have hk := rtv (by assumption) (by assumption); omega)))) (ak rfl rfl (bt rfl rfl rfl) ?_))))
    obtain ⟨b9, b2, a1⟩ := aa.g_Actions r0
    refine ak rfl rfl (ck rfl b2) (ak rfl rfl (bt rfl (TR.cnt (tSl cz.t) a1) (TR.agg (tSl cz.t) a1)) (ak rfl rfl (cw rfl (cg a1 Tryz.underlying25 _)) (ak rfl rfl (az rfl rfl sw) ?_)))
    exact gK rfl rfl rfl rfl rfl k
   ·exact gN 9 rfl rfl rfl rfl rfl rfl
  refine mV rfl (nS ?_)
  refine dg hres rfl ?_ ?_ <;> clear hres <;> intro c hres <;> try simp only [qa] at c
  ·refine sR (mI rfl (nS ?_))
   exact rR hres rfl rfl rfl
  ·refine sR ?_
   obtain ⟨c7, b3, a4⟩ := ax.g_Actions r1
   refine fA rfl b3 (lD a4 rfl rfl rfl ?_)
   obtain ⟨c1, b5, a6⟩ := ax.g_Actions r1
   refine fA rfl b5 (lD a6 rfl rfl rfl (mV rfl (ab (bp rfl rfl (slI a6 (by first | omega | (have hk := bn (by assumption) (by assumption); omega) | (have hk := tck (by assumption) (by assumption); omega) | (have hk := rtck (by assumption) (by assumption); omega) | (have hk := eck (by assumption) (by assumption) (by assumption); omega) | (have hk := tv (by assumption) (by assumption); omega) | (have hk := rtv (by assumption) (by assumption); omega)) (by first | omega | (have hk := bn (by assumption) (by assumption); omega) | (have hk := tck (by assumption) (by assumption); omega) | (have hk := rtck (by assumption) (by assumption); omega) | (have hk := eck (by assumption) (by assumption) (by assumption); omega) | (have hk := tv (by assumption) (by assumption); omega) | (have hk := rtv (by assumption) (by assumption); omega)))) (lR rfl rfl rfl ?_))))
   obtain ⟨c4, b0, hres⟩ := dl hres
   have a9 := bk1 (x1 := (ix x1.Actions a0)) a4 
   rw [b0] at a9
   refine cL a9 rfl rfl (aq (TR.clo (tSl tI) a4) (aq rfl bh)) (mV rfl (bN cy rfl rfl (mV rfl (nS ?_))))
   refine dg hres rfl ?_ ?_ <;> clear hres <;> intro c hres <;> try simp only [qa] at c
   ·refine sR (mI rfl (nS ?_))
    exact rR hres rfl rfl rfl
   ·refine ay (dh (dh (ai (af (mV rfl (bN fa rfl rfl (mV rfl (av ?_))))))))
    refine cx ?_
    have hbd := ee b1
    have hinc : wr (a0 + 1) = a0 + 1 := dm (by omega) (by omega)
    erw [hinc]
    exact wC (ih   (by omega) (by omega) hres) rfl

theorem dt3 {x0 : aa} {x1 : ax} {v0 v1 : PV} (r0 : aa.t.R x0 v0) (r1 : ax.t.R x1 v1) : FnR Tryz.prog 90 [v0, v1] (vi (ql x0 x1)) := by
 refine fnS (R := RF90) du5 (fun _ h => h) rfl fun res hres => ?_
 unfold ql at hres
 refine sR (ab (dz rfl (TR.cnt aa.t r0)) (ab (dz rfl (TR.cnt ax.t r1)) (mI rfl (nS (ah (sR (mI rfl (nS ?_))))))))
 refine bf ?_
 refine wC (zf r0 r1 ?_  rfl (by omega) hres) rfl
 ·intro  hres
  refine ft (ai (ah (sR ?_)))
  obtain ⟨b0, a7, a0⟩ := ax.g_Actions r1
  refine fA rfl a7 (lD a0 rfl rfl rfl ?_)
  obtain ⟨b3, a8, a6⟩ := ax.g_Default r1
  refine fA rfl a8 (fL rfl (bb.g_Action a6) rfl rfl ?_)
  obtain ⟨a9, a1, hres⟩ := dl hres
  have a2 := bk1 (x1 := x1.Default.Action) a0 
  rw [a1] at a2
  refine cL a2 rfl rfl (aq (TR.clo (tSl tI) a0) (aq rfl bh)) (bN cy rfl rfl (nS ?_))
  refine dg hres rfl ?_ ?_ <;> clear hres <;> intro c hres <;> try simp only [qa] at c
  ·refine sR (mI rfl (nS ?_))
   exact rR hres rfl rfl rfl
  ·refine ay (ai (sR (lD r0 rfl rfl rfl (gL (ax.g_Default r1) rfl rfl rfl fun b2 a5 => ?_))))
   obtain ⟨b1, a4, hres⟩ := dl hres
   have a3 := do9  r0 a5 
   rw [a4] at a3
   refine cL a3 rfl rfl (aq (TR.clo aa.t r0) (aq (TR.clo bb.t a5) bh)) (mV rfl (nS ?_))
   exact rR hres rfl rfl rfl

def RF47 (res : Int × Int) (r : PV) : Prop := r = .tup [vi res.1, vi res.2]
theorem dq5 {x0 : aa} {x1 : Int} {v0 : PV} (r0 : aa.t.R x0 v0) : FnR Tryz.prog 47 [v0, vi x1] (.tup [vi ((gz x0 x1).1), vi ((gz x0 x1).2)]) := by
 refine fnS (R := RF47) do6 (fun _ h => h) rfl fun res hres => ?_
 unfold gz at hres
 refine sR (ab (dz rfl (TR.cnt aa.t r0)) (mI rfl (mI rfl (nS (ah (sR (mV rfl (bN cy rfl rfl ?_))))))))
 refine mV rfl ?_
 refine cp 6 (d := 17) (v := vb ((decide (x1 < 0)) || (decide ((x0.Tables.length : Int) ≤ x1)))) ?_ ?_
 ·intro S Q r
  cases b2 : (decide (x1 < 0))
  ·intro k
   have a3 := b2
   try simp only [qa] at a3
   refine ak rfl rfl (au rfl) ?_
   obtain ⟨c8, c5, a2⟩ := aa.g_Tables r0
   refine ak rfl rfl (ck rfl c5) (ak rfl rfl (bt rfl (TR.cnt (tSl ax.t) a2) (TR.agg (tSl ax.t) a2)) (ak rfl rfl (cw rfl (cg a2 Tryz.underlying26 _)) (ak rfl rfl (az rfl rfl sw) ?_)))
   exact gK rfl rfl rfl rfl rfl k
  ·exact gN 5 rfl rfl rfl rfl rfl rfl
 refine nS ?_
 refine dg hres rfl ?_ ?_ <;> clear hres <;> intro c hres <;> try simp only [qa] at c
 ·refine sR (mI rfl (mI rfl (nS ?_)))
  exact rT hres rfl rfl rfl rfl rfl
 ·refine ay (ai (sR (gL (aa.g_Tables r0) rfl rfl rfl fun d4 b6 => (mV rfl ?_))))
  obtain ⟨b1, c0, a0⟩ := dk (i := x1) b6 (by first | omega | (have hk := bn (by assumption) (by assumption); omega) | (have hk := tck (by assumption) (by assumption); omega) | (have hk := rtck (by assumption) (by assumption); omega) | (have hk := eck (by assumption) (by assumption) (by assumption); omega) | (have hk := tv (by assumption) (by assumption); omega) | (have hk := rtv (by assumption) (by assumption); omega)) (by first | omega | (have hk := bn (by assumption) (by assumption); omega) | (have hk := tck (by assumption) (by assumption); omega) | (have hk := rtck (by assumption) (by assumption); omega) | (have hk := eck (by assumption) (by assumption) (by assumption); omega) | (have hk := tv (by assumption) (by assumption); omega) | (have hk := rtv (by assumption) (by assumption); omega))
  refine ab (bp rfl rfl c0) (lD a0 rfl rfl rfl ?_)
  refine dc (x := .agg [vs [], nilS, nilS, vi 0, nilS, vi 0]) (Mem.nil ⟨0, []⟩) rfl rfl (fun b7 b9 c9 b8 => ?_)
  refine db (k := 0) (v := b1) b8 rfl rfl rfl (TR.cnt ax.t a0) (fun c4 a1 => ?_)
  replace a1 : Mem c4 [⟨.op b7 b9 0, 87, 6, [b1]⟩] := a1
  refine nS (ah (bf (sR (ab (bd rfl) (ab (co (k := 0) a1 rfl rfl (ax.g_Name a0)) ?_)))))
  obtain ⟨d0, b3, hres⟩ := dl hres
  have b0 := dq8 (x0 := (ix x0.Tables x1).Name)  
  rw [b3] at b0
  refine cL b0 rfl rfl (aq rfl bh) (ab (jy rfl) (mV rfl (nS ?_)))
  refine dg hres rfl ?_ ?_ <;> clear hres <;> intro c hres <;> try simp only [qa] at c
  ·refine sR (mI rfl (mI rfl (nS ?_)))
   exact rT hres rfl rfl rfl rfl rfl
  ·refine sR (ab (bd rfl) ?_)
   obtain ⟨d1, c7, c3⟩ := ax.g_Keys a0
   refine ab (co (k := 0) a1 rfl rfl c7) (ab (cw rfl (cg c3 Tryz.underlying85 _)) (bN ig rfl rfl (mV rfl ?_)))
   refine cp 5 (d := 38) (v := vb ((decide (6 < (((ix x0.Tables x1).Keys).length : Int))) || (decide (16 < (((ix x0.Tables x1).Actions).length : Int))))) ?_ ?_
   ·intro S Q r
    cases a9 : (decide (6 < (((ix x0.Tables x1).Keys).length : Int)))
    ·intro k
     have a4 := a9
     try simp only [qa] at a4
     refine ak rfl rfl (bd rfl) ?_
     obtain ⟨d2, c1, c6⟩ := ax.g_Actions a0
     refine ak rfl rfl (co (k := 0) a1 rfl rfl c1) (ak rfl rfl (cw rfl (cg c6 Tryz.underlying29 _)) (ak rfl rfl (az rfl rfl ig) ?_))
     exact gK rfl rfl rfl rfl rfl k
    ·exact gN 4 rfl rfl rfl rfl rfl rfl
   refine mV rfl (nS ?_)
   refine dg hres rfl ?_ ?_ <;> clear hres <;> intro c hres <;> try simp only [qa] at c
   ·refine sR (mI rfl (mI rfl (nS ?_)))
    exact rT hres rfl rfl rfl rfl rfl
   ·refine sR (ab (bd rfl) (ab (co (k := 0) a1 rfl rfl (ax.g_Size a0)) (bN cy rfl rfl (mV rfl ?_))))
    refine cp 4 (d := 47) (v := vb ((decide (((ix x0.Tables x1).Size) < 1)) || (decide (256 < ((ix x0.Tables x1).Size))))) ?_ ?_
    ·intro S Q r
     cases b4 : (decide (((ix x0.Tables x1).Size) < 1))
     ·intro k
      have a5 := b4
      try simp only [qa] at a5
      refine ak rfl rfl (bd rfl) (ak rfl rfl (co (k := 0) a1 rfl rfl (ax.g_Size a0)) (ak rfl rfl (az rfl rfl ig) ?_))
      exact gK rfl rfl rfl rfl rfl k
     ·exact gN 3 rfl rfl rfl rfl rfl rfl
    refine mV rfl (nS ?_)
    refine dg hres rfl ?_ ?_ <;> clear hres <;> intro c hres <;> try simp only [qa] at c
    ·refine sR (mI rfl (mI rfl (nS ?_)))
     exact rT hres rfl rfl rfl rfl rfl
    ·refine ay (dh (ai (sR (lD r0 rfl rfl rfl (ab (gi (k := 0) a1 rfl rfl (TR.agg ax.t a0)) ?_)))))
     obtain ⟨d3, a6, hres⟩ := dl hres
     have a8 := dl8  r0 a0 
     rw [a6] at a8
     refine cL a8 rfl rfl (aq (TR.clo aa.t r0) (aq (TR.clo ax.t a0) bh)) (mV rfl (xT rfl rfl (xT rfl rfl (mV rfl (mV rfl (nS (ah (sR ?_))))))))
     refine mV rfl (bN nf rfl rfl (nS ?_))
     refine dg hres rfl ?_ ?_ <;> clear hres <;> intro c hres <;> try simp only [qa] at c
     ·refine sR (mV rfl (mV rfl (mV rfl (mV rfl (nS ?_)))))
      exact rT hres rfl rfl rfl rfl rfl
     ·refine ay (ai (sR (lD r0 rfl rfl rfl (ab (gi (k := 0) a1 rfl rfl (TR.agg ax.t a0)) ?_))))
      obtain ⟨d5, b5, hres⟩ := dl hres
      have a7 := dt3  r0 a0 
      rw [b5] at a7
      refine cL a7 rfl rfl (aq (TR.clo aa.t r0) (aq (TR.clo ax.t a0) bh)) (mV rfl (nS (ah (sR (mV rfl (bN nf rfl rfl (nS ?_)))))))
      refine dg hres rfl ?_ ?_ <;> clear hres <;> intro c hres <;> try simp only [qa] at c
      ·refine sR (mV rfl (mI rfl (mV rfl (nS ?_))))
       exact rT hres rfl rfl rfl rfl rfl
      ·refine ay (ai (sR (mI rfl (mI rfl (nS ?_)))))
       exact rT hres rfl rfl rfl rfl rfl

def RF61 (res : Bool) (r : PV) : Prop := r = vb res
theorem dk3 {x0 : aa} {x1 : Int} {v0 : PV} (r0 : aa.t.R x0 v0) : FnR Tryz.prog 61 [v0, vi x1] (vb (gb x0 x1)) := by
 refine fnS (R := RF61) dm3 (fun _ h => h) rfl fun res hres => ?_
 unfold gb at hres
 refine sR (ab (dz rfl (TR.cnt aa.t r0)) (mB rfl (nR (lD r0 rfl rfl rfl (mV rfl ?_)))))
 obtain ⟨a2, a1, hres⟩ := dl hres
 have a0 := dq5 (x1 := x1) r0 
 rw [a1] at a0
 refine cL a0 rfl rfl (aq (TR.clo aa.t r0) (aq rfl bh)) (mV rfl (xT rfl rfl (xT rfl rfl (mV rfl (mV rfl (nR (mV rfl (bN nd rfl rfl ?_))))))))
 refine mV rfl (nS ?_)
 exact rR hres rfl rfl rfl

def RF24 (res : (List Int)) (r : PV) : Prop := (tSl tI).R res r
theorem zq {S : List Fr} {res : (List Int)} {x0 : aa} {x1 : Int} {b6 : Bool} {v0 : PV} (r0 : aa.t.R x0 v0) (e2 : gb x0 x1 = b6) (b8 : (!b6) = false) {K0 : (List Int) → (List Int)}
  (f3 : ∀ {a1 : List Int} {a0 : List PV} {a2 : PV} (a4 : All2 tI.R a1 a0) (a6 : isL a2 = true) (a3 : Wri a2 a0) (a5 : a1.length ≤ 4611686018427387904) {h : Heap} (M0 : Mem h [⟨a2, 3, 1, a0⟩]), K0 a1 = res → PX Tryz.prog 0 S (QR Tryz.prog [(4, none)] (RF24 res)) [(5, a2)] h) :
  ∀ {m : Nat} {a9 : Int} {a1 : List Int} {a0 : List PV} {a2 : PV} (a4 : All2 tI.R a1 a0) (a6 : isL a2 = true) (a3 : Wri a2 a0) (a5 : a1.length ≤ 4611686018427387904) (e3 : m = Int.toNat ((((ix x0.Tables x1).Keys).length : Int) - a9)) (c3 : 0 ≤ a9) (b1 : (a1.length : Int) ≤ a9) {h : Heap} (M0 : Mem h [⟨a2, 3, 1, a0⟩]), ke x0 x1 K0 m a9 a1 = res → RC Tryz.prog (.loop dc3) S (QR Tryz.prog [(4, none)] (RF24 res)) [(6, vi a9), (5, a2), (2, .fp v0), (1, vi x1)] h := by
 have b2 := b8
 try simp only [qa] at b2
 intro m
 induction m with
 | zero =>
  intro a9 a1 a0 a2 a4 a6 a3 a5 e3 c3 b1 h M0 hres
  rw [ke] at hres
  refine bw (ah (sR (mV rfl (gL (aa.g_Tables r0) rfl rfl rfl fun f1 d7 => (mV rfl ?_)))))
  obtain ⟨e7, d5, e0⟩ := dk (i := x1) d7 (by first | omega | (have hk := bn (by assumption) (by assumption); omega) | (have hk := tck (by assumption) (by assumption); omega) | (have hk := rtck (by assumption) (by assumption); omega) | (have hk := eck (by assumption) (by assumption) (by assumption); omega) | (have hk := tv (by assumption) (by assumption); omega) | (have hk := rtv (by assumption) (by assumption); omega)) (by first | omega | (have hk := bn (by assumption) (by assumption); omega) | (have hk := tck (by assumption) (by assumption); omega) | (have hk := rtck (by assumption) (by assumption); omega) | (have hk := eck (by assumption) (by assumption) (by assumption); omega) | (have hk := tv (by assumption) (by assumption); omega) | (have hk := rtv (by assumption) (by assumption); omega))
  refine ab (bp rfl rfl d5) (gL (ax.g_Keys e0) rfl rfl rfl fun e8 c7 => (ab (cw rfl (cg c7 Tryz.underlying85 _)) (bN cy rfl rfl (nS ?_))))
  refine bc rfl ?_ ?_ <;> intro c <;> try simp only [qa] at c
  ·omega
  refine dt (fj (df ?_))
  exact wP (f3 a4 a6 a3 a5 (Mem.sub M0 (.cons_cons _ .slnil)) hres) rfl
 | succ m ih =>
  intro a9 a1 a0 a2 a4 a6 a3 a5 e3 c3 b1 h M0 hres
  rw [ke] at hres
  refine bw (ah (sR (mV rfl (gL (aa.g_Tables r0) rfl rfl rfl fun f6 d3 => (mV rfl ?_)))))
  obtain ⟨f2, c9, d4⟩ := dk (i := x1) d3 (by first | omega | (have hk := bn (by assumption) (by assumption); omega) | (have hk := tck (by assumption) (by assumption); omega) | (have hk := rtck (by assumption) (by assumption); omega) | (have hk := eck (by assumption) (by assumption) (by assumption); omega) | (have hk := tv (by assumption) (by assumption); omega) | (have hk := rtv (by assumption) (by assumption); omega)) (by first | omega | (have hk := bn (by assumption) (by assumption); omega) | (have hk := tck (by assumption) (by assumption); omega) | (have hk := rtck (by assumption) (by assumption); omega) | (have hk := eck (by assumption) (by assumption) (by assumption); omega) | (have hk := tv (by assumption) (by assumption); omega) | (have hk := rtv (by assumption) (by assumption); omega))
  refine ab (bp rfl rfl c9) (gL (ax.g_Keys d4) rfl rfl rfl fun e5 c1 => (ab (cw rfl (cg c1 Tryz.underlying85 _)) (bN cy rfl rfl (nS ?_))))
  refine bc rfl ?_ ?_ <;> intro c <;> try simp only [qa] at c
  rotate_left
  ·omega
  refine ay (ai (ah (bf (af (mV rfl (lD r0 rfl rfl rfl (gL (aa.g_Tables r0) rfl rfl rfl fun e9 d6 => (mV rfl ?_))))))))
  obtain ⟨f5, c8, d0⟩ := dk (i := x1) d6 (by first | omega | (have hk := bn (by assumption) (by assumption); omega) | (have hk := tck (by assumption) (by assumption); omega) | (have hk := rtck (by assumption) (by assumption); omega) | (have hk := eck (by assumption) (by assumption) (by assumption); omega) | (have hk := tv (by assumption) (by assumption); omega) | (have hk := rtv (by assumption) (by assumption); omega)) (by first | omega | (have hk := bn (by assumption) (by assumption); omega) | (have hk := tck (by assumption) (by assumption); omega) | (have hk := rtck (by assumption) (by assumption); omega) | (have hk := eck (by assumption) (by assumption) (by assumption); omega) | (have hk := tv (by assumption) (by assumption); omega) | (have hk := rtv (by assumption) (by assumption); omega))
  refine ab (bp rfl rfl c8) (gL (ax.g_Keys d0) rfl rfl rfl fun f0 d1 => (mV rfl ?_))
  obtain ⟨f7, d8, d2⟩ := dk (i := a9) d1 (by first | omega | (have hk := bn (by assumption) (by assumption); omega) | (have hk := tck (by assumption) (by assumption); omega) | (have hk := rtck (by assumption) (by assumption); omega) | (have hk := eck (by assumption) (by assumption) (by assumption); omega) | (have hk := tv (by assumption) (by assumption); omega) | (have hk := rtv (by assumption) (by assumption); omega)) (by first | omega | (have hk := bn (by assumption) (by assumption); omega) | (have hk := tck (by assumption) (by assumption); omega) | (have hk := rtck (by assumption) (by assumption); omega) | (have hk := eck (by assumption) (by assumption) (by assumption); omega) | (have hk := tv (by assumption) (by assumption); omega) | (have hk := rtv (by assumption) (by assumption); omega))
  refine ab (bp rfl rfl d8) (gL (bg.g_Field d2) rfl rfl rfl fun e4 b7 => ?_)
  obtain ⟨a7, c0, hres⟩ := dl hres
  have b9 := co2  r0 b7 
  rw [c0] at b9
  refine cL b9 rfl rfl (aq (TR.clo aa.t r0) (aq (TR.clo cm.t b7) bh)) (ab (v := .fs true [vi a7]) (ir rfl (all_cons rfl lf)) ?_)
  have d9 : (tSl tI).R ([a7] : List Int) (.fs true [vi a7]) := sm ⟨rfl, trivial⟩ (by simp)
  obtain ⟨a8, b4, b0⟩ := vm (t := tI) (h := h) d9
  have b5 : fits (a0.length + a8.length) 8 = true := by rw [All2.length_eq a4, All2.length_eq b0]; (try simp only [List.length_cons, List.length_nil]); exact pe (by have hk := rtv (by assumption) (by assumption); omega) (by have hk := rtv (by assumption) (by assumption); omega)
  refine pz (k := 0) (es := a0) (news := a8) M0 rfl rfl rfl a6 a3 b4 b5 (fun f4 e6 c6 c4 e1 => ?_)
  have b3 : All2 tI.R (a1 ++ ([a7] : List Int)) (a0 ++ a8) := All2.app a4 b0
  have c5 : (a1 ++ ([a7] : List Int)).length ≤ 4611686018427387904 := by rw [← All2.length_eq b3, List.length_append]; exact vz b5
  refine mV rfl (av (dh (ai (af (mV rfl (bN fa rfl rfl (mV rfl (av ?_))))))))
  refine cx ?_
  have hbd := ee c1
  have hinc : wr (a9 + 1) = a9 + 1 := dm (by omega) (by omega)
  erw [hinc]
  exact wC (ih  b3 c6 c4 c5 (by omega) (by omega) (by first | omega | (simp; done) | (simp only [List.length_append, List.length_cons, List.length_nil, List.length_set]; omega)) (Mem.sub e1 (.cons_cons _ .slnil)) hres) rfl

theorem ck8 {x0 : aa} {x1 : Int} {v0 : PV} (r0 : aa.t.R x0 v0) : ∃ r, FnR Tryz.prog 24 [v0, vi x1] r ∧ (tSl tI).R (br x0 x1) r := by
 refine fnT (R := RF24) dn9 rfl fun res hres => ?_
 unfold br at hres
 refine sR (ab (dz rfl (TR.cnt aa.t r0)) (ab (v := nilS) (au rfl) (nS (ah (sR (lD r0 rfl rfl rfl (mV rfl ?_)))))))
 obtain ⟨b5, a3, hres⟩ := dl hres
 have b0 := dk3 (x1 := x1) r0 
 rw [a3] at b0
 refine cL b0 rfl rfl (aq (TR.clo aa.t r0) (aq rfl bh)) (ab (jy rfl) (nS ?_))
 refine dg hres rfl ?_ ?_ <;> clear hres <;> intro a4 hres <;> have a5 := a4 <;> try simp only [qa] at a5
 ·refine sR (ab (v := nilS) (au rfl) (nS ?_))
  exact rR hres rfl (TR.clo (tSl tI) ii) ii
 ·refine ay (ai (sR (ab (v := nilS) (au rfl) (nS (ah (sR (mI rfl (nS ?_))))))))
  refine bf ?_
  have b4 := qc (sz := 1) (es := []) (Mem.nil ⟨0, []⟩) 3 (.inl ⟨none, rfl, rfl⟩) (by simp)
  refine wC (zq r0 a3 a4 ?_  aL rfl (.inl rfl) (by first | decide | simp) rfl (by omega) (by first | omega | (simp; done) | (simp only [List.length_append, List.length_cons, List.length_nil, List.length_set]; omega)) (Mem.sub b4 (.cons_cons _ .slnil)) hres) rfl
  ·intro a8 a7 a9 a2 a1 a6 a0 b6 b3 hres
   refine ft (ai (sR (mV rfl (mV rfl (nS ?_)))))
   obtain ⟨b7, b2, b1⟩ := xk (P := Tryz.prog) (k := 0) (t := tI) b3 rfl a1 a2 (Nat.le_trans a0 (by decide))
   subst hres
   exact dw (.tmp rfl .nil) b2 b1

def RF25 (res : Int) (r : PV) : Prop := r = vi res
theorem ad4 {S : List Fr} {res : Int} {x0 : aa} {x1 : Int} {a0 : (List Int)} {a4 : PV} (a6 : br x0 x1 = a0) (a1 : (tSl tI).R a0 a4) {K0 : Int → Int}
  (a8 : ∀ {a3 : Int}, K0 a3 = res → PX Tryz.prog 0 S (QR Tryz.prog [(4, none)] (RF25 res)) [(6, vi a3)] ⟨0, []⟩) :
  ∀ {m : Nat} {a3 a2 : Int} (a7 : m = Int.toNat ((a0.length : Int) - a2)) (a5 : 0 ≤ a2), fe a0 K0 m a3 a2 = res → RC Tryz.prog (.loop cq0) S (QR Tryz.prog [(4, none)] (RF25 res)) [(7, vi a2), (6, vi a3), (5, a4)] ⟨0, []⟩ := by
 intro m
 induction m with
 | zero =>
  intro a3 a2 a7 a5 hres
  rw [fe] at hres
  refine bw (ah (sR (mV rfl (mV rfl (ab (cw rfl (cg a1 Tryz.underlying29 _)) (bN cy rfl rfl (nS ?_)))))))
  refine bc rfl ?_ ?_ <;> intro c <;> try simp only [qa] at c
  ·omega
  refine dt (fj (df ?_))
  exact wP (a8  hres) rfl
 | succ m ih =>
  intro a3 a2 a7 a5 hres
  rw [fe] at hres
  refine bw (ah (sR (mV rfl (mV rfl (ab (cw rfl (cg a1 Tryz.underlying29 _)) (bN cy rfl rfl (nS ?_)))))))
  refine bc rfl ?_ ?_ <;> intro c <;> try simp only [qa] at c
  rotate_left
  ·omega
  refine ay (ai (ah (bf (af (mV rfl (mV rfl (mV rfl (ab (bp rfl rfl (slI a1 (by first | omega | (have hk := bn (by assumption) (by assumption); omega) | (have hk := tck (by assumption) (by assumption); omega) | (have hk := rtck (by assumption) (by assumption); omega) | (have hk := eck (by assumption) (by assumption) (by assumption); omega) | (have hk := tv (by assumption) (by assumption); omega) | (have hk := rtv (by assumption) (by assumption); omega)) (by first | omega | (have hk := bn (by assumption) (by assumption); omega) | (have hk := tck (by assumption) (by assumption); omega) | (have hk := rtck (by assumption) (by assumption); omega) | (have hk := eck (by assumption) (by assumption) (by assumption); omega) | (have hk := tv (by assumption) (by assumption); omega) | (have hk := rtv (by assumption) (by assumption); omega)))) ?_))))))))
  refine lR rfl rfl rfl (bN fa rfl rfl (mV rfl (av (dh (ai (af (mV rfl (bN fa rfl rfl ?_))))))))
  refine mV rfl (av (cx ?_))
  have hbd := ee a1
  have hinc : wr (a2 + 1) = a2 + 1 := dm (by omega) (by omega)
  erw [hinc]
  exact wC (ih   (by omega) (by omega) hres) rfl

theorem dp9 {x0 : aa} {x1 : Int} {v0 : PV} (r0 : aa.t.R x0 v0) : FnR Tryz.prog 25 [v0, vi x1] (vi (fx x0 x1)) := by
 refine fnS (R := RF25) ds3 (fun _ h => h) rfl fun res hres => ?_
 unfold fx at hres
 refine sR (ab (dz rfl (TR.cnt aa.t r0)) (mI rfl (nR (lD r0 rfl rfl rfl (mV rfl ?_)))))
 obtain ⟨a5, a0, hres⟩ := dl hres
 obtain ⟨a4, a3, a1⟩ := ck8 (x1 := x1) r0 
 rw [a0] at a1
 refine cL a3 rfl rfl (aq (TR.clo aa.t r0) (aq rfl bh)) (mV rfl (nR (mI rfl (nS (ah (sR (mI rfl (nS ?_))))))))
 refine bf ?_
 refine wC (ad4 a0 a1 ?_  rfl (by omega) hres) rfl
 ·intro a2 hres
  refine ft (ai (sR (mV rfl (mV rfl (nS ?_)))))
  exact rR hres rfl rfl rfl

def RF146 (res : (BitVec 32)) (r : PV) : Prop := r = fb res
def RF121 (res : Int × Bool) (r : PV) : Prop := r = .tup [vi res.1, vb res.2]
def RF123 (res : (BitVec 32)) (r : PV) : Prop := r = fb res
def RF91 (res : Int) (r : PV) : Prop := r = vi res
def RF92 (res : Int) (r : PV) : Prop := r = vi res
def RF93 (res : Bool) (r : PV) : Prop := r = vb res
def RF48 (res : Int) (r : PV) : Prop := r = vi res
end Go.Proofs.YthdnpgpnodgicaaGreat
