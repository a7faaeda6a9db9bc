/-
 The code of each function does what its plain program says.
-/
import Derived.Test.YthdnpgpnodgicaaGreatL6W1
set_option linter.unusedVariables false
set_option linter.unusedSimpArgs false
set_option maxRecDepth 100000
namespace Go.Proofs.YthdnpgpnodgicaaGreat
open Go Go.Pb Go.RowKit
def RF90 (res : Int) (r : PV) : Prop := r = vi res
theorem zi {S : List Fr} {res : Int} {x0 : ab} {x1 : az} {v0 v1 : PV} (r0 : ab.t.R x0 v0) (r1 : az.t.R x1 v1) {K0 : Unit → Int}
  (c1 : K0 () = res → PX Tryz.prog 0 S (QR Tryz.prog [(4, none)] (RF90 res)) [(2, .fp v0), (3, .fp v1)] ⟨0, []⟩) :
  ∀ {m : Nat} {a0 : Int} (b8 : m = Int.toNat ((x1.Actions.length : Int) - a0)) (a6 : 0 ≤ a0), jv x0 x1 K0 m a0 = res → RC Tryz.prog (.loop cs5) S (QR Tryz.prog [(4, none)] (RF90 res)) [(5, vi a0), (3, .fp v1), (2, .fp v0)] ⟨0, []⟩ := by
 intro m
 induction m with
 | zero =>
  intro a0 b8 a6 hres
  rw [jv] at hres
  refine bp (af (sR (mV rfl (gL (az.g_Actions r1) rfl rfl rfl fun c0 b2 => (ae (cg rfl (bq b2 Tryz.underlying29 _)) (bN cj rfl rfl (nS ?_)))))))
  refine bf rfl ?_ ?_ <;> intro c <;> try simp only [qa] at c
  ·omega
  refine db (dn (cq ?_))
  exact wP (c1  hres) rfl
 | succ m ih =>
  intro a0 b8 a6 hres
  rw [jv] at hres
  refine bp (af (sR (mV rfl (gL (az.g_Actions r1) rfl rfl rfl fun c4 a9 => (ae (cg rfl (bq a9 Tryz.underlying29 _)) (bN cj rfl rfl (nS ?_)))))))
  refine bf rfl ?_ ?_ <;> intro c <;> try simp only [qa] at c
  rotate_left
  ·omega
  refine ax (ai (af (bc (bc (sR ?_)))))
  obtain ⟨c2, b6, a8⟩ := az.g_Actions r1
  refine fA rfl b6 (lD a8 rfl rfl rfl (mV rfl (ae (bg rfl rfl (slI a8 (by omega) (by omega))) (lR rfl rfl rfl (bN cj rfl rfl (mV rfl ?_))))))
  refine bw 10 (d := 30) (v := vb ((decide ((ix x1.Actions a0) < 0)) || (decide ((x0.Actions.length : Int) ≤ (ix x1.Actions a0))))) ?_ ?_
  ·intro S Q r
   cases a7 : (decide ((ix x1.Actions a0) < 0))
   ·intro k
    have a4 := a7
    try simp only [qa] at a4
    obtain ⟨c3, b4, a2⟩ := az.g_Actions r1
    refine ak rfl rfl (bz rfl b4) (ak rfl rfl (br rfl (TR.cnt (tSl tI) a2) (TR.agg (tSl tI) a2)) (ak rfl rfl (aq rfl) (ak rfl rfl (bg rfl rfl (slI a2 (by omega) (by omega))) (ak rfl rfl (br rfl rfl rfl) ?_))))
    obtain ⟨c5, b3, a3⟩ := ab.g_Actions r0
    refine ak rfl rfl (bz rfl b3) (ak rfl rfl (br rfl (TR.cnt (tSl dc.t) a3) (TR.agg (tSl dc.t) a3)) (ak rfl rfl (cg rfl (bq a3 Tryz.underlying25 _)) (ak rfl rfl (ay rfl rfl se) ?_)))
    exact gK rfl rfl rfl rfl rfl k
   ·exact gN 9 rfl rfl rfl rfl rfl rfl
  refine mV rfl (nS ?_)
  refine cv hres rfl ?_ ?_ <;> clear hres <;> intro c hres <;> try simp only [qa] at c
  ·refine sR (mI rfl (nS ?_))
   exact rR hres rfl rfl rfl
  ·refine sR ?_
   obtain ⟨c6, b7, a1⟩ := az.g_Actions r1
   refine fA rfl b7 (lD a1 rfl rfl rfl ?_)
   obtain ⟨b9, b5, b0⟩ := az.g_Actions r1
   refine fA rfl b5 (lD b0 rfl rfl rfl (mV rfl (ae (bg rfl rfl (slI b0 (by omega) (by omega))) (lR rfl rfl rfl ?_))))
   obtain ⟨c7, a5, hres⟩ := cw hres
   have b1 := as9 (x1 := (ix x1.Actions a0)) a1 
   rw [a5] at b1
   refine cL b1 rfl rfl (aj (TR.clo (tSl tI) a1) (aj rfl bb)) (mV rfl (bN cj rfl rfl (mV rfl (nS ?_))))
   refine cv hres rfl ?_ ?_ <;> clear hres <;> intro c hres <;> try simp only [qa] at c
   ·refine sR (mI rfl (nS ?_))
    exact rR hres rfl rfl rfl
   ·refine ax (da (da (ai (ah (mV rfl (bN dp rfl rfl (mV rfl (aw ?_))))))))
    refine cf ?_
    have hbd := df a9
    have hinc : wr (a0 + 1) = a0 + 1 := dg (by omega) (by omega)
    erw [hinc]
    exact wC (ih   (by omega) (by omega) hres) rfl

theorem dn6 {x0 : ab} {x1 : az} {v0 v1 : PV} (r0 : ab.t.R x0 v0) (r1 : az.t.R x1 v1) : FnR Tryz.prog 90 [v0, v1] (vi (rl x0 x1)) := by
 refine fnS (R := RF90) dy4 (fun _ h => h) rfl fun res hres => ?_
 unfold rl at hres
 refine sR (ae (di rfl (TR.cnt ab.t r0)) (ae (di rfl (TR.cnt az.t r1)) (mI rfl (nS (af (sR (mI rfl (nS ?_))))))))
 refine bc ?_
 refine wC (zi r0 r1 ?_  rfl (by omega) hres) rfl
 ·intro  hres
  refine dv (ai (af (sR ?_)))
  obtain ⟨b3, a7, a0⟩ := az.g_Actions r1
  refine fA rfl a7 (lD a0 rfl rfl rfl ?_)
  obtain ⟨b2, a8, a6⟩ := az.g_Default r1
  refine fA rfl a8 (fL rfl (bh.g_Action a6) rfl rfl ?_)
  obtain ⟨b1, a2, hres⟩ := cw hres
  have a4 := as9 (x1 := x1.Default.Action) a0 
  rw [a2] at a4
  refine cL a4 rfl rfl (aj (TR.clo (tSl tI) a0) (aj rfl bb)) (bN cj rfl rfl (nS ?_))
  refine cv hres rfl ?_ ?_ <;> clear hres <;> intro c hres <;> try simp only [qa] at c
  ·refine sR (mI rfl (nS ?_))
   exact rR hres rfl rfl rfl
  ·refine ax (ai (sR (lD r0 rfl rfl rfl (gL (az.g_Default r1) rfl rfl rfl fun a9 a1 => ?_))))
   obtain ⟨b0, a5, hres⟩ := cw hres
   have a3 := ce7  r0 a1 
   rw [a5] at a3
   refine cL a3 rfl rfl (aj (TR.clo ab.t r0) (aj (TR.clo bh.t a1) bb)) (mV rfl (nS ?_))
   exact rR hres rfl rfl rfl

def RF47 (res : Int × Int) (r : PV) : Prop := r = .tup [vi res.1, vi res.2]
theorem bd8 {x0 : ab} {x1 : Int} {v0 : PV} (r0 : ab.t.R x0 v0) : FnR Tryz.prog 47 [v0, vi x1] (.tup [vi ((fk x0 x1).1), vi ((fk x0 x1).2)]) := by
 refine fnS (R := RF47) dt3 (fun _ h => h) rfl fun res hres => ?_
 unfold fk at hres
 refine sR (ae (di rfl (TR.cnt ab.t r0)) (mI rfl (mI rfl (nS (af (sR (mV rfl (bN cj rfl rfl ?_))))))))
 refine mV rfl ?_
 refine bw 6 (d := 17) (v := vb ((decide (x1 < 0)) || (decide ((x0.Tables.length : Int) ≤ x1)))) ?_ ?_
 ·intro S Q r
  cases b1 : (decide (x1 < 0))
  ·intro k
   have a4 := b1
   try simp only [qa] at a4
   refine ak rfl rfl (aq rfl) ?_
   obtain ⟨c7, c4, a2⟩ := ab.g_Tables r0
   refine ak rfl rfl (bz rfl c4) (ak rfl rfl (br rfl (TR.cnt (tSl az.t) a2) (TR.agg (tSl az.t) a2)) (ak rfl rfl (cg rfl (bq a2 Tryz.underlying26 _)) (ak rfl rfl (ay rfl rfl se) ?_)))
   exact gK rfl rfl rfl rfl rfl k
  ·exact gN 5 rfl rfl rfl rfl rfl rfl
 refine nS ?_
 refine cv hres rfl ?_ ?_ <;> clear hres <;> intro c hres <;> try simp only [qa] at c
 ·refine sR (mI rfl (mI rfl (nS ?_)))
  exact rT hres rfl rfl rfl rfl rfl
 ·refine ax (ai (sR (gL (ab.g_Tables r0) rfl rfl rfl fun d2 c1 => (mV rfl ?_))))
  obtain ⟨b0, c3, a0⟩ := ct (i := x1) c1 (by omega) (by omega)
  refine ae (bg rfl rfl c3) (lD a0 rfl rfl rfl ?_)
  refine dh (x := .agg [vs [], nilS, nilS, vi 0, nilS, vi 0]) (Mem.nil ⟨0, []⟩) rfl rfl (fun b7 b8 d1 c0 => ?_)
  refine de (k := 0) (v := b0) c0 rfl rfl rfl (TR.cnt az.t a0) (fun c6 a1 => ?_)
  replace a1 : Mem c6 [⟨.op b7 b8 0, 87, 6, [b0]⟩] := a1
  refine nS (af (bc (sR (ae (bm rfl) (ae (cm (k := 0) a1 rfl rfl (az.g_Name a0)) ?_)))))
  obtain ⟨c9, b3, hres⟩ := cw hres
  have a7 := eb0 (x0 := (ix x0.Tables x1).Name)  
  rw [b3] at a7
  refine cL a7 rfl rfl (aj rfl bb) (ae (gu rfl) (mV rfl (nS ?_)))
  refine cv hres rfl ?_ ?_ <;> clear hres <;> intro c hres <;> try simp only [qa] at c
  ·refine sR (mI rfl (mI rfl (nS ?_)))
   exact rT hres rfl rfl rfl rfl rfl
  ·refine sR (ae (bm rfl) ?_)
   obtain ⟨c8, c2, c5⟩ := az.g_Keys a0
   refine ae (cm (k := 0) a1 rfl rfl c2) (ae (cg rfl (bq c5 Tryz.underlying85 _)) (bN gh rfl rfl (mV rfl ?_)))
   refine bw 5 (d := 38) (v := vb ((decide (6 < (((ix x0.Tables x1).Keys).length : Int))) || (decide (16 < (((ix x0.Tables x1).Actions).length : Int))))) ?_ ?_
   ·intro S Q r
    cases a6 : (decide (6 < (((ix x0.Tables x1).Keys).length : Int)))
    ·intro k
     have a3 := a6
     try simp only [qa] at a3
     refine ak rfl rfl (bm rfl) ?_
     obtain ⟨d4, b9, b6⟩ := az.g_Actions a0
     refine ak rfl rfl (cm (k := 0) a1 rfl rfl b9) (ak rfl rfl (cg rfl (bq b6 Tryz.underlying29 _)) (ak rfl rfl (ay rfl rfl gh) ?_))
     exact gK rfl rfl rfl rfl rfl k
    ·exact gN 4 rfl rfl rfl rfl rfl rfl
   refine mV rfl (nS ?_)
   refine cv hres rfl ?_ ?_ <;> clear hres <;> intro c hres <;> try simp only [qa] at c
   ·refine sR (mI rfl (mI rfl (nS ?_)))
    exact rT hres rfl rfl rfl rfl rfl
   ·refine sR (ae (bm rfl) (ae (cm (k := 0) a1 rfl rfl (az.g_Size a0)) (bN cj rfl rfl (mV rfl ?_))))
    refine bw 4 (d := 47) (v := vb ((decide (((ix x0.Tables x1).Size) < 1)) || (decide (256 < ((ix x0.Tables x1).Size))))) ?_ ?_
    ·intro S Q r
     cases b5 : (decide (((ix x0.Tables x1).Size) < 1))
     ·intro k
      have a5 := b5
      try simp only [qa] at a5
      refine ak rfl rfl (bm rfl) (ak rfl rfl (cm (k := 0) a1 rfl rfl (az.g_Size a0)) (ak rfl rfl (ay rfl rfl gh) ?_))
      exact gK rfl rfl rfl rfl rfl k
     ·exact gN 3 rfl rfl rfl rfl rfl rfl
    refine mV rfl (nS ?_)
    refine cv hres rfl ?_ ?_ <;> clear hres <;> intro c hres <;> try simp only [qa] at c
    ·refine sR (mI rfl (mI rfl (nS ?_)))
     exact rT hres rfl rfl rfl rfl rfl
    ·refine ax (da (ai (sR (lD r0 rfl rfl rfl (ae (fe (k := 0) a1 rfl rfl (TR.agg az.t a0)) ?_)))))
     obtain ⟨d3, a9, hres⟩ := cw hres
     have b4 := ec3  r0 a0 
     rw [a9] at b4
     refine cL b4 rfl rfl (aj (TR.clo ab.t r0) (aj (TR.clo az.t a0) bb)) (mV rfl (xT rfl rfl (xT rfl rfl (mV rfl (mV rfl (nS (af (sR ?_))))))))
     refine mV rfl (bN jq rfl rfl (nS ?_))
     refine cv hres rfl ?_ ?_ <;> clear hres <;> intro c hres <;> try simp only [qa] at c
     ·refine sR (mV rfl (mV rfl (mV rfl (mV rfl (nS ?_)))))
      exact rT hres rfl rfl rfl rfl rfl
     ·refine ax (ai (sR (lD r0 rfl rfl rfl (ae (fe (k := 0) a1 rfl rfl (TR.agg az.t a0)) ?_))))
      obtain ⟨d0, b2, hres⟩ := cw hres
      have a8 := dn6  r0 a0 
      rw [b2] at a8
      refine cL a8 rfl rfl (aj (TR.clo ab.t r0) (aj (TR.clo az.t a0) bb)) (mV rfl (nS (af (sR (mV rfl (bN jq rfl rfl (nS ?_)))))))
      refine cv hres rfl ?_ ?_ <;> clear hres <;> intro c hres <;> try simp only [qa] at c
      ·refine sR (mV rfl (mI rfl (mV rfl (nS ?_))))
       exact rT hres rfl rfl rfl rfl rfl
      ·refine ax (ai (sR (mI rfl (mI rfl (nS ?_)))))
       exact rT hres rfl rfl rfl rfl rfl

def RF61 (res : Bool) (r : PV) : Prop := r = vb res
theorem bg1 {x0 : ab} {x1 : Int} {v0 : PV} (r0 : ab.t.R x0 v0) : FnR Tryz.prog 61 [v0, vi x1] (vb (fi x0 x1)) := by
 refine fnS (R := RF61) du4 (fun _ h => h) rfl fun res hres => ?_
 unfold fi at hres
 refine sR (ae (di rfl (TR.cnt ab.t r0)) (mB rfl (nR (lD r0 rfl rfl rfl (mV rfl ?_)))))
 obtain ⟨a2, a0, hres⟩ := cw hres
 have a1 := bd8 (x1 := x1) r0 
 rw [a0] at a1
 refine cL a1 rfl rfl (aj (TR.clo ab.t r0) (aj rfl bb)) (mV rfl (xT rfl rfl (xT rfl rfl (mV rfl (mV rfl (nR (mV rfl (bN md rfl rfl ?_))))))))
 refine mV rfl (nS ?_)
 exact rR hres rfl rfl rfl

def RF24 (res : (List Int)) (r : PV) : Prop := (tSl tI).R res r
theorem zx {S : List Fr} {res : (List Int)} {x0 : ab} {x1 : Int} {c1 : Bool} {v0 : PV} (r0 : ab.t.R x0 v0) (e2 : fi x0 x1 = c1) (c3 : (!c1) = false) {K0 : (List Int) → (List Int)}
  (e4 : ∀ {a1 : List Int} {a0 : List PV} {a2 : PV} (a4 : All2 tI.R a1 a0) (a6 : isL a2 = true) (a3 : Wri a2 a0) (a5 : a1.length ≤ 4611686018427387904) {h : Heap} (M0 : Mem h [⟨a2, 3, 1, a0⟩]), K0 a1 = res → PX Tryz.prog 0 S (QR Tryz.prog [(4, none)] (RF24 res)) [(5, a2)] h) :
  ∀ {m : Nat} {a9 : Int} {a1 : List Int} {a0 : List PV} {a2 : PV} (a4 : All2 tI.R a1 a0) (a6 : isL a2 = true) (a3 : Wri a2 a0) (a5 : a1.length ≤ 4611686018427387904) (e1 : m = Int.toNat ((((ix x0.Tables x1).Keys).length : Int) - a9)) (b5 : 0 ≤ a9) (b0 : (a1.length : Int) ≤ a9) {h : Heap} (M0 : Mem h [⟨a2, 3, 1, a0⟩]), kw x0 x1 K0 m a9 a1 = res → RC Tryz.prog (.loop dg2) S (QR Tryz.prog [(4, none)] (RF24 res)) [(6, vi a9), (5, a2), (2, .fp v0), (1, vi x1)] h := by
 have b2 := c3
 try simp only [qa] at b2
 intro m
 induction m with
 | zero =>
  intro a9 a1 a0 a2 a4 a6 a3 a5 e1 b5 b0 h M0 hres
  rw [kw] at hres
  refine bp (af (sR (mV rfl (gL (ab.g_Tables r0) rfl rfl rfl fun e5 d8 => (mV rfl ?_)))))
  obtain ⟨f5, d7, d2⟩ := ct (i := x1) d8 (by ((have hk := rtv (by assumption) (by assumption); omega))) (by ((have hk := rtv (by assumption) (by assumption); omega)))
  refine ae (bg rfl rfl d7) (gL (az.g_Keys d2) rfl rfl rfl fun e6 d4 => (ae (cg rfl (bq d4 Tryz.underlying85 _)) (bN cj rfl rfl (nS ?_))))
  refine bf rfl ?_ ?_ <;> intro c <;> try simp only [qa] at c
  ·omega
  refine db (dn (cq ?_))
  exact wP (e4 a4 a6 a3 a5 (Mem.sub M0 (.cons_cons _ .slnil)) hres) rfl
 | succ m ih =>
  intro a9 a1 a0 a2 a4 a6 a3 a5 e1 b5 b0 h M0 hres
  rw [kw] at hres
  refine bp (af (sR (mV rfl (gL (ab.g_Tables r0) rfl rfl rfl fun e7 d0 => (mV rfl ?_)))))
  obtain ⟨f2, d9, c9⟩ := ct (i := x1) d0 (by ((have hk := rtv (by assumption) (by assumption); omega))) (by ((have hk := rtv (by assumption) (by assumption); omega)))
  refine ae (bg rfl rfl d9) (gL (az.g_Keys c9) rfl rfl rfl fun e3 c4 => (ae (cg rfl (bq c4 Tryz.underlying85 _)) (bN cj rfl rfl (nS ?_))))
  refine bf rfl ?_ ?_ <;> intro c <;> try simp only [qa] at c
  rotate_left
  ·omega
  refine ax (ai (af (bc (ah (mV rfl (lD r0 rfl rfl rfl (gL (ab.g_Tables r0) rfl rfl rfl fun f3 c5 => (mV rfl ?_))))))))
  obtain ⟨e8, c7, d5⟩ := ct (i := x1) c5 (by ((have hk := rtv (by assumption) (by assumption); omega))) (by ((have hk := rtv (by assumption) (by assumption); omega)))
  refine ae (bg rfl rfl c7) (gL (az.g_Keys d5) rfl rfl rfl fun f0 c6 => (mV rfl ?_))
  obtain ⟨e9, d6, d1⟩ := ct (i := a9) c6 (by omega) (by omega)
  refine ae (bg rfl rfl d6) (gL (bn.g_Field d1) rfl rfl rfl fun f1 b9 => ?_)
  obtain ⟨a7, b4, hres⟩ := cw hres
  have b7 := cm1  r0 b9 
  rw [b4] at b7
  refine cL b7 rfl rfl (aj (TR.clo ab.t r0) (aj (TR.clo cp.t b9) bb)) (ae (v := .fs true [vi a7]) (fm rfl (all_cons rfl jn)) ?_)
  have c8 : (tSl tI).R ([a7] : List Int) (.fs true [vi a7]) := rh ⟨rfl, trivial⟩ (by simp)
  obtain ⟨a8, b8, b1⟩ := qc (t := tI) (h := h) c8
  have c2 : fits (a0.length + a8.length) 8 = true := by rw [All2.length_eq a4, All2.length_eq b1]; (try simp only [List.length_cons, List.length_nil]); exact kx (by have hk := rtv (by assumption) (by assumption); omega) (by have hk := rtv (by assumption) (by assumption); omega)
  refine lh (k := 0) (es := a0) (news := a8) M0 rfl rfl rfl a6 a3 b8 c2 (fun f4 f6 d3 c0 e0 => ?_)
  have b3 : All2 tI.R (a1 ++ ([a7] : List Int)) (a0 ++ a8) := All2.app a4 b1
  have b6 : (a1 ++ ([a7] : List Int)).length ≤ 4611686018427387904 := by rw [← All2.length_eq b3, List.length_append]; exact ny c2
  refine mV rfl (aw (da (ai (ah (mV rfl (bN dp rfl rfl (mV rfl (aw ?_))))))))
  refine cf ?_
  have hbd := df c4
  have hinc : wr (a9 + 1) = a9 + 1 := dg (by omega) (by omega)
  erw [hinc]
  exact wC (ih  b3 d3 c0 b6 (by omega) (by omega) (by ((simp only [List.length_append, List.length_cons, List.length_nil, List.length_set]; omega))) (Mem.sub e0 (.cons_cons _ .slnil)) hres) rfl

theorem bf4 {x0 : ab} {x1 : Int} {v0 : PV} (r0 : ab.t.R x0 v0) : ∃ r, FnR Tryz.prog 24 [v0, vi x1] r ∧ (tSl tI).R (du x0 x1) r := by
 refine fnT (R := RF24) dw4 rfl fun res hres => ?_
 unfold du at hres
 refine sR (ae (di rfl (TR.cnt ab.t r0)) (ae (v := nilS) (aq rfl) (nS (af (sR (lD r0 rfl rfl rfl (mV rfl ?_)))))))
 obtain ⟨b6, a3, hres⟩ := cw hres
 have a9 := bg1 (x1 := x1) r0 
 rw [a3] at a9
 refine cL a9 rfl rfl (aj (TR.clo ab.t r0) (aj rfl bb)) (ae (gu rfl) (nS ?_))
 refine cv hres rfl ?_ ?_ <;> clear hres <;> intro a4 hres <;> have a5 := a4 <;> try simp only [qa] at a5
 ·refine sR (ae (v := nilS) (aq rfl) (nS ?_))
  exact rR hres rfl (TR.clo (tSl tI) fg) fg
 ·refine ax (ai (sR (ae (v := nilS) (aq rfl) (nS (af (sR (mI rfl (nS ?_))))))))
  refine bc ?_
  have b4 := ml (sz := 1) (es := []) (Mem.nil ⟨0, []⟩) 3 (.inl ⟨none, rfl, rfl⟩) (by simp)
  refine wC (zx r0 a3 a4 ?_  aL rfl (.inl rfl) (by decide) rfl (by omega) (by ((simp; done))) (Mem.sub b4 (.cons_cons _ .slnil)) hres) rfl
  ·intro a6 a8 b0 a2 a1 a7 a0 b5 b1 hres
   refine dv (ai (sR (mV rfl (mV rfl (nS ?_)))))
   obtain ⟨b7, b2, b3⟩ := tw (P := Tryz.prog) (k := 0) (t := tI) b1 rfl a1 a2 (Nat.le_trans a0 (by decide))
   subst hres
   exact dk (.tmp rfl .nil) b2 b3

def RF146 (res : (BitVec 32)) (r : PV) : Prop := r = dx res
theorem df5 {x0 x1 : Int} : FnR Tryz.prog 146 [vi x0, vi x1] (dx (pf x0 x1)) := by
 refine fnS (R := RF146) df2 (fun _ h => h) rfl fun res hres => ?_
 unfold pf at hres
 refine sR (ae (v := dx 0#32) (aq rfl) (nS (af (sR (mV rfl ?_)))))
 obtain ⟨a8, a0, hres⟩ := cw hres
 have a4 := ac4 (x0 := x1)  
 rw [a0] at a4
 refine cL a4 rfl rfl (aj rfl bb) (ae (gu rfl) (nS ?_))
 refine cv hres rfl ?_ ?_ <;> clear hres <;> intro c hres <;> try simp only [qa] at c
 ·refine sR (ae (v := dx 0#32) (aq rfl) (nS ?_))
  exact rR hres rfl rfl rfl
 ·refine ax (ai (sR (mV rfl (ae (cg rfl (ai9 _ _)) (mV rfl (ae (cg rfl (au7 _ _)) (mV rfl (nR ?_))))))))
  refine mV rfl ?_
  obtain ⟨a1, a7, hres⟩ := cw hres
  have a2 := ai2 (x0 := x1)  (by ((have hk := rv (by assumption) (by assumption); have e := dg (n := x1 - min (max x0 0) x1) (by omega) (by omega); omega)))
  rw [a7] at a2
  refine cL a2 rfl rfl (aj rfl bb) (mV rfl (mV rfl (bN vv rfl rfl ?_)))
  obtain ⟨a3, a5, hres⟩ := cw hres
  have a6 := ai2 (x0 := (wr (x1 - (min (max x0 0) x1))))  (by ((have hk := rv (by assumption) (by assumption); have e := dg (n := x1 - min (max x0 0) x1) (by omega) (by omega); omega)))
  rw [a5] at a6
  refine cL a6 rfl rfl (aj rfl bb) (ae (ay (a := bd a1) (b := bd a3) rfl rfl cc0) (ae (qw (a := bd (a1 - a3)) rfl (c_dw Tryz.underlying97 Tryz.underlying64)) (mV rfl (nS ?_))))
  exact rR hres rfl rfl rfl

def RF121 (res : Int × Bool) (r : PV) : Prop := r = .tup [vi res.1, vb res.2]
theorem xl {S : List Fr} {res : Int × Bool} {x0 : BitVec 32} {x1 : Int} {K0 : Unit → (Int × Bool)}
  (b2 : K0 () = res → PX Tryz.prog 0 S (QR Tryz.prog [(4, none), (5, none)] (RF121 res)) [] ⟨0, []⟩) :
  ∀ {m : Nat} {a0 : Int} (b1 : m = Int.toNat ((x1 + 1) - a0)) (a4 : 0 ≤ a0), ip x0 x1 K0 m a0 = res → RC Tryz.prog (.loop cn2) S (QR Tryz.prog [(4, none), (5, none)] (RF121 res)) [(6, vi a0), (1, vi x1), (0, dx x0)] ⟨0, []⟩ := by
 intro m
 induction m with
 | zero =>
  intro a0 b1 a4 hres
  rw [ip] at hres
  refine bp (af (sR (mV rfl (mV rfl (bN bb9 rfl rfl (mV rfl ?_))))))
  refine bw 3 (d := 13) (v := vb ((decide (a0 ≤ x1)) && (fu x1))) ?_ ?_
  ·intro S Q r
   cases a5 : (decide (a0 ≤ x1))
   ·exact gN 2 rfl rfl rfl rfl rfl rfl
   ·intro k
    have a2 := a5
    try simp only [qa] at a2
    refine ak rfl rfl (aq rfl) ?_
    have a9 := ac4 (x0 := x1)  
    refine io rfl rfl (qt rfl rfl (aj rfl bb) a9) ?_
    exact gK rfl rfl rfl rfl rfl k
  refine nS ?_
  refine bf rfl ?_ ?_ <;> intro c <;> try simp only [qa] at c
  ·omega
  refine db (dn (cq ?_))
  exact wP (b2  hres) rfl
 | succ m ih =>
  intro a0 b1 a4 hres
  rw [ip] at hres
  refine bp (af (sR (mV rfl (mV rfl (bN bb9 rfl rfl (mV rfl ?_))))))
  refine bw 3 (d := 13) (v := vb ((decide (a0 ≤ x1)) && (fu x1))) ?_ ?_
  ·intro S Q r
   cases a6 : (decide (a0 ≤ x1))
   ·exact gN 2 rfl rfl rfl rfl rfl rfl
   ·intro k
    have a1 := a6
    try simp only [qa] at a1
    refine ak rfl rfl (aq rfl) ?_
    have a8 := ac4 (x0 := x1)  
    refine io rfl rfl (qt rfl rfl (aj rfl bb) a8) ?_
    exact gK rfl rfl rfl rfl rfl k
  refine nS ?_
  refine cv hres rfl ?_ ?_ <;> clear hres <;> intro c hres <;> try simp only [qa] at c
  ·refine ax (ai (af (bc (sR (mV rfl (mV rfl ?_))))))
   obtain ⟨b0, a3, hres⟩ := cw hres
   have a7 := df5 (x0 := a0) (x1 := x1)  
   rw [a3] at a7
   refine cL a7 rfl rfl (aj rfl (aj rfl bb)) (mV rfl (ae (ay (a := dx b0) (b := dx x0) rfl rfl bp2) (nS ?_)))
   refine cv hres rfl ?_ ?_ <;> clear hres <;> intro c hres <;> try simp only [qa] at c
   ·refine sR (mV rfl (mV rfl (mB rfl (nS ?_))))
    exact rT hres rfl rfl rfl rfl rfl
   ·refine ax (da (ai (ah (mV rfl (bN dp rfl rfl (mV rfl (aw (cf ?_))))))))
    have hinc : wr (a0 + 1) = a0 + 1 := dg (by omega) (by have hk := rv (w := x1) rfl (And.right (by assumption)); omega)
    erw [hinc]
    exact wC (ih   (by omega) (by omega) hres) rfl
  ·refine db (dn (cq ?_))
   exact wP (b2  hres) rfl

theorem dc6 {x0 : BitVec 32} {x1 : Int} : FnR Tryz.prog 121 [dx x0, vi x1] (.tup [vi ((ko x0 x1).1), vb ((ko x0 x1).2)]) := by
 refine fnS (R := RF121) da0 (fun _ h => h) rfl fun res hres => ?_
 unfold ko at hres
 refine sR (mI rfl (mB rfl (nS (af (sR (mI rfl (nS (bc ?_))))))))
 refine wC (xl  ?_  rfl (by omega) hres) rfl
 ·intro  hres
  refine dv (ai (sR (mI rfl (mB rfl (nS ?_)))))
  exact rT hres rfl rfl rfl rfl rfl

def RF123 (res : (BitVec 32)) (r : PV) : Prop := r = dx res
theorem cq2 {x0 : Int} : FnR Tryz.prog 123 [vi x0] (dx (kj x0)) := by
 refine fnS (R := RF123) ct0 (fun _ h => h) rfl fun res hres => ?_
 unfold kj at hres
 refine sR (ae (v := dx 0#32) (aq rfl) (nS (af (sR (mV rfl ?_)))))
 obtain ⟨a5, a0, hres⟩ := cw hres
 have a3 := ac4 (x0 := x0)  
 rw [a0] at a3
 refine cL a3 rfl rfl (aj rfl bb) (ae (gu rfl) (nS ?_))
 refine cv hres rfl ?_ ?_ <;> clear hres <;> intro c hres <;> try simp only [qa] at c
 ·refine sR (ae (v := dx 0#32) (aq rfl) (nS ?_))
  exact rR hres rfl rfl rfl
 ·refine ax (ai (sR (mV rfl ?_)))
  obtain ⟨a1, a4, hres⟩ := cw hres
  have a2 := ai2 (x0 := x0)  (by ((have := rv (by assumption) (by assumption); omega)))
  rw [a4] at a2
  refine cL a2 rfl rfl (aj rfl bb) (ae (ay (a := bd a1) (b := bd 1#64) rfl rfl cc0) (ae (qw (a := bd (a1 - 1#64)) rfl (c_dw Tryz.underlying97 Tryz.underlying64)) (mV rfl (nS ?_))))
  exact rR hres rfl rfl rfl

def RF91 (res : Int) (r : PV) : Prop := r = vi res
theorem dx4 {x0 : ba} {x1 x2 : Int} {v0 : PV} (r0 : ba.t.R x0 v0) : FnR Tryz.prog 91 [v0, vi x1, vi x2] (vi (ka x0 x1 x2)) := by
 refine fnS (R := RF91) dv1 (fun _ h => h) rfl fun res hres => ?_
 unfold ka at hres
 refine sR (ae (di rfl (TR.cnt ba.t r0)) (mI rfl (nR (fL rfl (ba.g_Mask r0) rfl rfl (mV rfl ?_)))))
 obtain ⟨a1, b3, hres⟩ := cw hres
 have a6 := dc6 (x0 := x0.Mask) (x1 := x1)  
 rw [b3] at a6
 refine cL a6 rfl rfl (aj rfl (aj rfl bb)) (mV rfl (xT rfl rfl (xT rfl rfl (mV rfl (mV rfl (nS (af (bc ?_))))))))
 refine sR (fL rfl (ba.g_Value r0) rfl rfl (mV rfl ?_))
 obtain ⟨a9, b2, hres⟩ := cw hres
 have a7 := aw9 (x0 := x0.Value) (x1 := x1)  
 rw [b2] at a7
 refine cL a7 rfl rfl (aj rfl (aj rfl bb)) (ae (gu rfl) (mV rfl ?_))
 refine bw 6 (d := 28) (v := vb ((!a9) || (!(oq x0.Mask x1)))) ?_ ?_
 ·intro S Q r
  cases a8 : (!a9)
  ·intro k
   have a4 := a8
   try simp only [qa] at a4
   refine ak rfl rfl (bz rfl (ba.g_Mask r0)) (ak rfl rfl (br rfl rfl rfl) (ak rfl rfl (aq rfl) ?_))
   have b5 := aw9 (x0 := x0.Mask) (x1 := x1)  
   refine io rfl rfl (qt rfl rfl (aj rfl (aj rfl bb)) b5) (ak rfl rfl (gu rfl) ?_)
   exact gK rfl rfl rfl rfl rfl k
  ·exact gN 5 rfl rfl rfl rfl rfl rfl
 refine mV rfl (nS ?_)
 refine cv hres rfl ?_ ?_ <;> clear hres <;> intro c hres <;> try simp only [qa] at c
 ·refine sR (mI rfl (nS ?_))
  exact rR hres rfl rfl rfl
 ·refine sR (fL rfl (ba.g_Value r0) rfl rfl (fL rfl (ba.g_Mask r0) rfl rfl (ae (ay (a := dx x0.Value) (b := dx x0.Mask) rfl rfl cg9) (fL rfl (ba.g_Value r0) rfl rfl (ae (ay (a := dx (x0.Value &&& x0.Mask)) (b := dx x0.Value) rfl rfl bo2) (mV rfl (nS ?_)))))))
  refine cv hres rfl ?_ ?_ <;> clear hres <;> intro c hres <;> try simp only [qa] at c
  ·refine sR (mI rfl (nS ?_))
   exact rR hres rfl rfl rfl
  ·refine sR (mV rfl (bN md rfl rfl (mV rfl ?_)))
   refine bw 6 (d := 47) (v := vb ((decide (x2 = 1)) && (!decide (x0.Mask = (kj x1))))) ?_ ?_
   ·intro S Q r
    cases a5 : (decide (x2 = 1))
    ·exact gN 5 rfl rfl rfl rfl rfl rfl
    ·intro k
     have a3 := a5
     try simp only [qa] at a3
     refine ak rfl rfl (bz rfl (ba.g_Mask r0)) (ak rfl rfl (br rfl rfl rfl) (ak rfl rfl (aq rfl) ?_))
     have b4 := cq2 (x0 := x1)  
     refine io rfl rfl (qt rfl rfl (aj rfl bb) b4) (ak rfl rfl (ay (a := dx x0.Mask) (b := dx (kj x1)) rfl rfl bo2) ?_)
     exact gK rfl rfl rfl rfl rfl k
   refine mV rfl ?_
   refine bw 7 (d := 55) (v := vb (((decide (x2 = 1)) && (!decide (x0.Mask = (kj x1)))) || ((decide (x2 = 2)) && (!a1.2)))) ?_ ?_
   ·intro S Q r
    cases b0 : ((decide (x2 = 1)) && (!decide (x0.Mask = (kj x1))))
    ·intro k
     have a2 := b0
     try simp only [qa] at a2
     refine ak rfl rfl (aq rfl) (ak rfl rfl (ay rfl rfl md) (ak rfl rfl (aq rfl) ?_))
     refine bw 3 (d := 54) (v := vb ((decide (x2 = 2)) && (!a1.2))) ?_ ?_
     ·intro S Q r
      cases b1 : (decide (x2 = 2))
      ·intro k
       refine oe rfl rfl (oe rfl rfl (ak (v := vb false) rfl rfl (th rfl rfl rfl rfl) ?_))
       exact wD k rfl
      ·intro k
       have a0 := b1
       try simp only [qa] at a0
       refine ak rfl rfl (aq rfl) (ak rfl rfl (gu rfl) (ak (v := vb (!a1.2)) rfl rfl (th rfl rfl rfl rfl) ?_))
       exact wD k rfl
     exact gK rfl rfl rfl rfl rfl k
    ·exact gN 6 rfl rfl rfl rfl rfl rfl
   refine mV rfl (nS ?_)
   refine cv hres rfl ?_ ?_ <;> clear hres <;> intro c hres <;> try simp only [qa] at c
   ·refine sR (mI rfl (nS ?_))
    exact rR hres rfl rfl rfl
   ·refine ax (da (ai (sR (mI rfl (nS ?_)))))
    exact rR hres rfl rfl rfl

def RF92 (res : Int) (r : PV) : Prop := r = vi res
theorem af5 {S : List Fr} {res : Int} {x0 : ab} {x1 : Int} {a6 : Bool} {v0 : PV} (r0 : ab.t.R x0 v0) (c6 : fi x0 x1 = a6) (a9 : (!a6) = false) {K0 : Int → Int}
  (c9 : ∀ {a3 : Int}, K0 a3 = res → PX Tryz.prog 0 S (QR Tryz.prog [(4, none)] (RF92 res)) [(5, vi a3)] ⟨0, []⟩) :
  ∀ {m : Nat} {a3 a0 : Int} (c5 : m = Int.toNat ((((ix x0.Tables x1).Keys).length : Int) - a0)) (a5 : 0 ≤ a0), li x0 x1 K0 m a3 a0 = res → RC Tryz.prog (.loop df9) S (QR Tryz.prog [(4, none)] (RF92 res)) [(6, vi a0), (5, vi a3), (2, .fp v0), (1, vi x1)] ⟨0, []⟩ := by
 have a2 := a9
 try simp only [qa] at a2
 intro m
 induction m with
 | zero =>
  intro a3 a0 c5 a5 hres
  rw [li] at hres
  refine bp (af (sR (mV rfl ?_)))
  obtain ⟨d2, b1, a8⟩ := ab.g_Tables r0
  refine fA rfl b1 (lD a8 rfl rfl rfl (mV rfl ?_))
  obtain ⟨d4, c3, b8⟩ := ct (i := x1) a8 (by ((have hk := rtv (by assumption) (by assumption); omega))) (by ((have hk := rtv (by assumption) (by assumption); omega)))
  refine ae (bg rfl rfl c3) ?_
  obtain ⟨d0, c2, a7⟩ := az.g_Keys b8
  refine fA rfl c2 (lD a7 rfl rfl rfl (ae (cg rfl (bq a7 Tryz.underlying85 _)) (bN cj rfl rfl (nS ?_))))
  refine bf rfl ?_ ?_ <;> intro c <;> try simp only [qa] at c
  ·omega
  refine db (dn (cq ?_))
  exact wP (c9  hres) rfl
 | succ m ih =>
  intro a3 a0 c5 a5 hres
  rw [li] at hres
  refine bp (af (sR (mV rfl (gL (ab.g_Tables r0) rfl rfl rfl fun d1 b7 => (mV rfl ?_)))))
  obtain ⟨d6, b5, b9⟩ := ct (i := x1) b7 (by ((have hk := rtv (by assumption) (by assumption); omega))) (by ((have hk := rtv (by assumption) (by assumption); omega)))
  refine ae (bg rfl rfl b5) ?_
  obtain ⟨d3, b2, a1⟩ := az.g_Keys b9
  refine fA rfl b2 (lD a1 rfl rfl rfl (ae (cg rfl (bq a1 Tryz.underlying85 _)) (bN cj rfl rfl (nS ?_))))
  refine bf rfl ?_ ?_ <;> intro c <;> try simp only [qa] at c
  rotate_left
  ·omega
  refine ax (ai (af (bc (ah (mV rfl ?_)))))
  obtain ⟨c8, c0, b0⟩ := ab.g_Tables r0
  refine fA rfl c0 (lD b0 rfl rfl rfl (mV rfl ?_))
  obtain ⟨c7, b3, c4⟩ := ct (i := x1) b0 (by ((have hk := rtv (by assumption) (by assumption); omega))) (by ((have hk := rtv (by assumption) (by assumption); omega)))
  refine ae (bg rfl rfl b3) ?_
  obtain ⟨d7, b6, a4⟩ := az.g_Keys c4
  refine fA rfl b6 (lD a4 rfl rfl rfl (mV rfl ?_))
  obtain ⟨d5, b4, c1⟩ := ct (i := a0) a4 (by omega) (by omega)
  refine ae (bg rfl rfl b4) (fL rfl (bn.g_Kind c1) rfl rfl (ae (cg rfl (ai9 _ _)) (mV rfl (aw (da (ai (ah (mV rfl ?_))))))))
  refine bN dp rfl rfl (mV rfl (aw (cf ?_)))
  have hbd := df a1
  have hinc : wr (a0 + 1) = a0 + 1 := dg (by omega) (by omega)
  erw [hinc]
  exact wC (ih   (by omega) (by omega) hres) rfl

theorem dw3 {x0 : ab} {x1 : Int} {v0 : PV} (r0 : ab.t.R x0 v0) : FnR Tryz.prog 92 [v0, vi x1] (vi (qs x0 x1)) := by
 refine fnS (R := RF92) do3 (fun _ h => h) rfl fun res hres => ?_
 unfold qs at hres
 refine sR (ae (di rfl (TR.cnt ab.t r0)) (mI rfl (nS (af (sR (lD r0 rfl rfl rfl (mV rfl ?_)))))))
 obtain ⟨a5, a0, hres⟩ := cw hres
 have a3 := bg1 (x1 := x1) r0 
 rw [a0] at a3
 refine cL a3 rfl rfl (aj (TR.clo ab.t r0) (aj rfl bb)) (ae (gu rfl) (nS ?_))
 refine cv hres rfl ?_ ?_ <;> clear hres <;> intro a1 hres <;> have a2 := a1 <;> try simp only [qa] at a2
 ·refine sR (mI rfl (nS ?_))
  exact rR hres rfl rfl rfl
 ·refine ax (ai (sR (mI rfl (nS (af (sR (mI rfl (nS ?_))))))))
  refine bc ?_
  refine wC (af5 r0 a0 a1 ?_  rfl (by omega) hres) rfl
  ·intro a4 hres
   refine dv (ai (sR (mV rfl (mV rfl (nS ?_)))))
   exact rR hres rfl rfl rfl

def RF93 (res : Bool) (r : PV) : Prop := r = vb res
theorem dn1 {x0 : ab} {x1 x2 : Int} {v0 : PV} (r0 : ab.t.R x0 v0) : FnR Tryz.prog 93 [v0, vi x1, vi x2] (vb (sj x0 x1 x2)) := by
 refine fnS (R := RF93) eb8 (fun _ h => h) rfl fun res hres => ?_
 unfold sj at hres
 refine sR (ae (di rfl (TR.cnt ab.t r0)) (mB rfl (nR (lD r0 rfl rfl rfl (mV rfl ?_)))))
 obtain ⟨a5, a6, hres⟩ := cw hres
 have a3 := bg1 (x1 := x1) r0 
 rw [a6] at a3
 refine cL a3 rfl rfl (aj (TR.clo ab.t r0) (aj rfl bb)) (mV rfl ?_)
 refine bw 10 (d := 20) (v := vb (a5 && (decide (0 ≤ (gn ((ix x0.Tables x1).Actions) x2))))) ?_ ?_
 ·intro S Q r
  cases a4 : a5
  ·exact gN 9 rfl rfl rfl rfl rfl rfl
  ·intro k
   have a2 := a4
   try simp only [qa] at a2
   obtain ⟨b3, a7, a1⟩ := ab.g_Tables r0
   refine ak rfl rfl (bz rfl a7) (ak rfl rfl (br rfl (TR.cnt (tSl az.t) a1) (TR.agg (tSl az.t) a1)) (ak rfl rfl (aq rfl) ?_))
   obtain ⟨b4, b1, a9⟩ := ct (i := x1) a1 (by ((have hk := rtv (by assumption) (by assumption); omega))) (by ((have hk := rtv (by assumption) (by assumption); omega)))
   refine ak rfl rfl (bg rfl rfl b1) ?_
   obtain ⟨b2, b0, a0⟩ := az.g_Actions a9
   refine ak rfl rfl (bz rfl b0) (ak rfl rfl (br rfl (TR.cnt (tSl tI) a0) (TR.agg (tSl tI) a0)) (ak rfl rfl (aq rfl) ?_))
   have a8 := as9 (x1 := x2) a0 
   refine io rfl rfl (qt rfl rfl (aj (TR.clo (tSl tI) a0) (aj rfl bb)) a8) (ak rfl rfl (ay rfl rfl se) ?_)
   exact gK rfl rfl rfl rfl rfl k
 refine mV rfl (nS ?_)
 exact rR hres rfl rfl rfl

def RF48 (res : Int) (r : PV) : Prop := r = vi res
theorem aa4 {S : List Fr} {res : Int} {x0 : ab} {x1 : Int} {x2 : au} {b1 : Int × Int} {a1 : (List Int)} {v0 v2 a9 : PV} (r0 : ab.t.R x0 v0) (r2 : au.t.R x2 v2) (c4 : fk x0 x1 = b1) (b2 : (!decide (b1.2 = 0)) = false) (c3 : du x0 x1 = a1) (a2 : (tSl tI).R a1 a9) (c2 : (0 ≤ x1 ∧ x1 < x0.Tables.length) ∧ a1.length = (ix x0.Tables x1).Keys.length ∧ a1.length ≤ 6) (a7 : (!decide ((x2.Keys.length : Int) = (a1.length : Int))) = false) {K0 : Unit → Int}
  (c8 : K0 () = res → PX Tryz.prog 0 S (QR Tryz.prog [(6, none)] (RF48 res)) [(1, vi x1), (3, .fp v0), (5, .fp v2)] ⟨0, []⟩) :
  ∀ {m : Nat} {a0 : Int} (c1 : m = Int.toNat ((a1.length : Int) - a0)) (a8 : 0 ≤ a0), kg x0 x1 x2 a1 K0 m a0 = res → RC Tryz.prog (.loop de1) S (QR Tryz.prog [(6, none)] (RF48 res)) [(10, vi a0), (9, a9), (5, .fp v2), (3, .fp v0), (1, vi x1)] ⟨0, []⟩ := by
 have a5 := b2
 try simp only [qa] at a5
 have a3 := a7
 try simp only [qa] at a3
 intro m
 induction m with
 | zero =>
  intro a0 c1 a8 hres
  rw [kg] at hres
  refine bp (af (sR (mV rfl (mV rfl (ae (cg rfl (bq a2 Tryz.underlying29 _)) (bN cj rfl rfl (nS ?_)))))))
  refine bf rfl ?_ ?_ <;> intro c <;> try simp only [qa] at c
  ·omega
  refine db (dn (cq ?_))
  exact wP (c8  hres) rfl
 | succ m ih =>
  intro a0 c1 a8 hres
  rw [kg] at hres
  refine bp (af (sR (mV rfl (mV rfl (ae (cg rfl (bq a2 Tryz.underlying29 _)) (bN cj rfl rfl (nS ?_)))))))
  refine bf rfl ?_ ?_ <;> intro c <;> try simp only [qa] at c
  rotate_left
  ·omega
  refine ax (ai (af (bc (sR (gL (au.g_Keys r2) rfl rfl rfl fun c9 b6 => (mV rfl ?_))))))
  obtain ⟨d1, b8, a4⟩ := ct (i := a0) b6 (by omega) (by omega)
  refine ae (bg rfl rfl b8) (lD a4 rfl rfl rfl (mV rfl (mV rfl (ae (bg rfl rfl (slI a2 (by omega) (by omega))) (lR rfl rfl rfl (gL (ab.g_Tables r0) rfl rfl rfl fun c6 b9 => (mV rfl ?_)))))))
  obtain ⟨c5, b4, c0⟩ := ct (i := x1) b9 (by omega) (by omega)
  refine ae (bg rfl rfl b4) (gL (az.g_Keys c0) rfl rfl rfl fun d2 b3 => (mV rfl ?_))
  obtain ⟨d0, b5, b7⟩ := ct (i := a0) b3 (by omega) (by omega)
  refine ae (bg rfl rfl b5) (fL rfl (bn.g_Kind b7) rfl rfl ?_)
  obtain ⟨c7, a6, hres⟩ := cw hres
  have b0 := dx4 (x1 := (ix a1 a0)) (x2 := (ix ((ix x0.Tables x1).Keys) a0).Kind) a4 
  rw [a6] at b0
  refine cL b0 rfl rfl (aj (TR.clo ba.t a4) (aj rfl (aj rfl bb))) (mV rfl (nR (mV rfl (bN jq rfl rfl (nS ?_)))))
  refine cv hres rfl ?_ ?_ <;> clear hres <;> intro c hres <;> try simp only [qa] at c
  ·refine sR (mV rfl (mV rfl (nS ?_)))
   exact rR hres rfl rfl rfl
  ·refine ax (da (ai (ah (mV rfl (bN dp rfl rfl (mV rfl (aw (cf ?_))))))))
   have hbd := df a2
   have hinc : wr (a0 + 1) = a0 + 1 := dg (by omega) (by omega)
   erw [hinc]
   exact wC (ih   (by omega) (by omega) hres) rfl

theorem ec5 {x0 : ab} {x1 : Int} {x2 : au} {v0 v2 : PV} (r0 : ab.t.R x0 v0) (r2 : au.t.R x2 v2) : FnR Tryz.prog 48 [v0, vi x1, v2] (vi (ma x0 x1 x2)) := by
 refine fnS (R := RF48) dp1 (fun _ h => h) rfl fun res hres => ?_
 unfold ma at hres
 refine sR (ae (di rfl (TR.cnt ab.t r0)) (ae (di rfl (TR.cnt au.t r2)) (mI rfl (nR (lD r0 rfl rfl rfl (mV rfl ?_))))))
 obtain ⟨c7, a3, hres⟩ := cw hres
 have b0 := bd8 (x1 := x1) r0 
 rw [a3] at b0
 refine cL b0 rfl rfl (aj (TR.clo ab.t r0) (aj rfl bb)) (mV rfl (xT rfl rfl (xT rfl rfl (mV rfl (mV rfl (nS (af (sR ?_))))))))
 refine mV rfl (bN jq rfl rfl (nS ?_))
 refine cv hres rfl ?_ ?_ <;> clear hres <;> intro a2 hres <;> have a6 := a2 <;> try simp only [qa] at a6
 ·refine sR (mV rfl (mV rfl (nS ?_)))
  exact rR hres rfl rfl rfl
 ·refine ax (ai (sR (lD r0 rfl rfl rfl (mV rfl ?_))))
  obtain ⟨b7, a0, hres⟩ := cw hres
  obtain ⟨c6, c1, a7⟩ := bf4 (x1 := x1) r0 
  rw [a0] at a7
  have b1 : (0 ≤ x1 ∧ x1 < x0.Tables.length) ∧ b7.length = (ix x0.Tables x1).Keys.length ∧ b7.length ≤ 6 := reck (by assumption) (by assumption) a0
  refine cL c1 rfl rfl (aj (TR.clo ab.t r0) (aj rfl bb)) (mV rfl (nS (af (sR (gL (au.g_Keys r2) rfl rfl rfl fun c4 c3 => (ae (cg rfl (bq c3 Tryz.underlying38 _)) (mV rfl (ae (cg rfl (bq a7 Tryz.underlying29 _)) ?_))))))))
  refine bN jq rfl rfl (nS ?_)
  refine cv hres rfl ?_ ?_ <;> clear hres <;> intro a1 hres <;> have a4 := a1 <;> try simp only [qa] at a4
  ·refine sR (mI rfl (nS ?_))
   exact rR hres rfl rfl rfl
  ·refine ax (ai (af (sR (mI rfl (nS (bc ?_))))))
   refine wC (aa4 r0 r2 a3 a2 a0 a7 b1 a1 ?_  rfl (by omega) hres) rfl
   ·intro  hres
    refine dv (ai (af (bc (sR (fL rfl (au.g_Priority r2) rfl rfl (bN cj rfl rfl (mV rfl ?_)))))))
    refine bw 4 (d := 66) (v := vb ((decide (x2.Priority < 0)) || (decide (255 < x2.Priority)))) ?_ ?_
    ·intro S Q r
     cases b5 : (decide (x2.Priority < 0))
     ·intro k
      have a8 := b5
      try simp only [qa] at a8
      refine ak rfl rfl (bz rfl (au.g_Priority r2)) (ak rfl rfl (br rfl rfl rfl) (ak rfl rfl (ay rfl rfl gh) ?_))
      exact gK rfl rfl rfl rfl rfl k
     ·exact gN 3 rfl rfl rfl rfl rfl rfl
    refine mV rfl (nS ?_)
    refine cv hres rfl ?_ ?_ <;> clear hres <;> intro c hres <;> try simp only [qa] at c
    ·refine sR (mI rfl (nS ?_))
     exact rR hres rfl rfl rfl
    ·refine sR (fL rfl (au.g_Priority r2) rfl rfl (bN gh rfl rfl (mV rfl ?_)))
     refine bw 5 (d := 76) (v := vb ((decide (0 < x2.Priority)) && (!decide ((qs x0 x1) = 3)))) ?_ ?_
     ·intro S Q r
      cases a9 : (decide (0 < x2.Priority))
      ·exact gN 4 rfl rfl rfl rfl rfl rfl
      ·intro k
       have a5 := a9
       try simp only [qa] at a5
       refine ak rfl rfl (br rfl (TR.cnt ab.t r0) (TR.agg ab.t r0)) (ak rfl rfl (aq rfl) ?_)
       have b9 := dw3 (x1 := x1) r0 
       refine io rfl rfl (qt rfl rfl (aj (TR.clo ab.t r0) (aj rfl bb)) b9) (ak rfl rfl (ay rfl rfl jq) ?_)
       exact gK rfl rfl rfl rfl rfl k
     refine mV rfl (nS ?_)
     refine cv hres rfl ?_ ?_ <;> clear hres <;> intro c hres <;> try simp only [qa] at c
     ·refine sR (mI rfl (nS ?_))
      exact rR hres rfl rfl rfl
     ·refine sR (lD r0 rfl rfl rfl (mV rfl ?_))
      obtain ⟨c8, c2, c0⟩ := au.g_Call r2
      refine fA rfl c2 (fL rfl (bh.g_Action c0) rfl rfl ?_)
      obtain ⟨c9, b4, hres⟩ := cw hres
      have b2 := dn1 (x1 := x1) (x2 := x2.Call.Action) r0 
      rw [b4] at b2
      refine cL b2 rfl rfl (aj (TR.clo ab.t r0) (aj rfl (aj rfl bb))) (ae (gu rfl) (mV rfl (nS ?_)))
      refine cv hres rfl ?_ ?_ <;> clear hres <;> intro c hres <;> try simp only [qa] at c
      ·refine sR (mI rfl (nS ?_))
       exact rR hres rfl rfl rfl
      ·refine ax (da (ai (sR (lD r0 rfl rfl rfl (gL (au.g_Call r2) rfl rfl rfl fun d0 b3 => ?_)))))
       obtain ⟨c5, b8, hres⟩ := cw hres
       have b6 := ce7  r0 b3 
       rw [b8] at b6
       refine cL b6 rfl rfl (aj (TR.clo ab.t r0) (aj (TR.clo bh.t b3) bb)) (mV rfl (nS ?_))
       exact rR hres rfl rfl rfl

end Go.Proofs.YthdnpgpnodgicaaGreat
