/-
 The code of each function does what its plain program says.
-/
import Derived.Test.YtmonnlkagniolaaGreatL3W8
set_option linter.unusedVariables false
set_option linter.unusedSimpArgs false
set_option maxRecDepth 100000
namespace Go.Proofs.YtmonnlkagniolaaGreat
open Go Go.Pb Go.RowKit
def RF17 (res : (List Int)) (r : PV) : Prop := (tSl tI).R res r
theorem xr {S : List Fr} {res : (List Int)} {x0 : ab} {x1 : ct} {v0 a9 : PV} {a1 a3 : Nat} (r0 : ab.t.R x0 v0) (hs : x0.Headers.length ≤ 1000) (hA : AB x0) (hc : x1.Cond.length ≤ 1000) (b5 : (decide (x1.Table = (-1))) = false) (b7 : ((decide (x1.Table < 0)) || (decide ((x0.Tables.length : Int) ≤ x1.Table))) = false) (b0 : bh.t.R (ix x0.Tables x1.Table) a9) {K0 : (List Int) → (List Int)}
  (d6 : ∀ {a2 : List Int} {b1 : PV} (b2 : (tSl tI).R a2 b1) (e1 : a2.length ≤ 24) {h : Heap} (M0 : Mem h [⟨.op a1 a3 0, 59, 6, [a9]⟩]), K0 a2 = res → PX Tryz.prog 0 S (QR Tryz.prog [(4, none)] (RF17 res)) [(2, .fp v0), (5, b1), (6, .op a1 a3 0)] h) :
  ∀ {m : Nat} {a2 : List Int} {a0 : Int} {b1 : PV} (b2 : (tSl tI).R a2 b1) (d1 : m = Int.toNat ((((ix x0.Tables x1.Table).Keys).length : Int) - a0)) (b6 : 0 ≤ a0) (a4 : (a2.length : Int) ≤ a0) (a5 : a0 ≤ 24) {h : Heap} (M0 : Mem h [⟨.op a1 a3 0, 59, 6, [a9]⟩]), ld x0 x1 K0 m a2 a0 = res → RC Tryz.prog (.loop cl8) S (QR Tryz.prog [(4, none)] (RF17 res)) [(7, vi a0), (6, .op a1 a3 0), (5, b1), (2, .fp v0)] h := by
 have hc' := hc
 try simp only [qa, qaD] at hc'
 have a8 := b5
 try simp only [qa, qaD] at a8
 have a7 := b7
 try simp only [qa, qaD] at a7
 intro m
 induction m with
 | zero =>
  intro a2 a0 b1 b2 d1 b6 a4 a5 h M0 hres
  rw [ld] at hres
  refine cj (ap (sR (mV rfl (af (ba rfl) ?_))))
  obtain ⟨d9, c8, c5⟩ := bh.g_Keys b0
  refine af (bt (k := 0) M0 rfl rfl c8) (af (cq rfl (ci c5 Tryz.underlying57 _)) (bN cn rfl rfl (nS ?_)))
  refine cd rfl ?_ ?_ <;> intro c <;> try simp only [qa, qaD] at c
  ·omega
  refine dl (eh (de ?_))
  exact wP (d6 b2 (by omega) (Mem.sub M0 (.cons_cons _ .slnil)) hres) rfl
 | succ m ih =>
  intro a2 a0 b1 b2 d1 b6 a4 a5 h M0 hres
  rw [ld] at hres
  refine cj (ap (sR (mV rfl (af (ba rfl) ?_))))
  obtain ⟨d4, c6, b8⟩ := bh.g_Keys b0
  refine af (bt (k := 0) M0 rfl rfl c6) (af (cq rfl (ci b8 Tryz.underlying57 _)) (bN cn rfl rfl (nS ?_)))
  refine cd rfl ?_ ?_ <;> intro c <;> try simp only [qa, qaD] at c
  rotate_left
  ·omega
  refine az (au (ap (bf (aw (mV rfl (lD r0 rfl rfl rfl (af (ba rfl) ?_)))))))
  obtain ⟨d5, c3, c4⟩ := bh.g_Keys b0
  refine af (bt (k := 0) M0 rfl rfl c3) (mV rfl ?_)
  obtain ⟨d3, d0, c9⟩ := dh (i := a0) c4 (by omega) (by omega)
  refine af (bn rfl rfl d0) (gL (ee.g_Field c9) rfl rfl rfl fun d7 b9 => ?_)
  obtain ⟨c2, b3, hres⟩ := bp hres
  have c1 := bo9  r0 b9 (by first | assumption | omega | (rw [cv (by omega) (by omega)]; omega))
  rw [b3] at c1
  refine cL c1 rfl rfl (ak (TR.clo ab.t r0) (ak (TR.clo aa.t b9) bd)) ?_
  obtain ⟨e0, a6, hres⟩ := bp hres
  obtain ⟨d8, c7, b4⟩ := ap4 (x1 := c2) b2 (by first | omega | (have hT := hA.2 x1.Table (by omega) (by omega); omega))
  rw [a6] at b4
  have d2 := sq a6 (by omega)
  refine cL c7 rfl rfl (ak (TR.clo (tSl tI) b2) (ak rfl bd)) (mV rfl (br (cy (au (aw (mV rfl (bN dp rfl rfl (mV rfl ?_))))))))
  refine br (cx ?_)
  have hbd := dc b8
  have hinc : wr (a0 + 1) = a0 + 1 := cv (by omega) (by omega)
  erw [hinc]
  exact wC (ih  b4 (by omega) (by omega) (by first | omega | (have hT := hA.2 x1.Table (by omega) (by omega); omega)) (by first | omega | (have hT := hA.2 x1.Table (by omega) (by omega); omega)) (Mem.sub M0 (.cons_cons _ .slnil)) hres) rfl

theorem xj {S : List Fr} {res : (List Int)} {x0 : ab} {x1 : ct} {b7 : List Int} {v0 b1 : PV} {a7 b5 : Nat} (r0 : ab.t.R x0 v0) (hs : x0.Headers.length ≤ 1000) (hA : AB x0) (hc : x1.Cond.length ≤ 1000) (b9 : (decide (x1.Table = (-1))) = false) (c2 : ((decide (x1.Table < 0)) || (decide ((x0.Tables.length : Int) ≤ x1.Table))) = false) (b2 : bh.t.R (ix x0.Tables x1.Table) b1) (c5 : b7.length ≤ 24) {K2 : (List Int) → (List Int)}
  (e2 : ∀ {a5 : List Int} {b3 : PV} (b8 : (tSl tI).R a5 b3) {h : Heap} (M0 : Mem h [⟨.op a7 b5 0, 59, 6, [b1]⟩]), K2 a5 = res → PX Tryz.prog 2 S (QR Tryz.prog [(4, none)] (RF17 res)) [(5, b3)] h) :
  ∀ {m : Nat} {a5 : List Int} {a0 : Int} {b3 : PV} (b8 : (tSl tI).R a5 b3) (d4 : m = Int.toNat ((((ix x0.Tables x1.Table).Actions).length : Int) - a0)) (c3 : 0 ≤ a0) (a2 : (a5.length : Int) ≤ 24 + 39000 * a0) (a4 : a0 ≤ 24) {h : Heap} (M0 : Mem h [⟨.op a7 b5 0, 59, 6, [b1]⟩]), jx x0 x1 K2 m a5 a0 = res → RC Tryz.prog (.loop co9) S (QR Tryz.prog [(4, none)] (RF17 res)) [(8, vi a0), (6, .op a7 b5 0), (5, b3), (2, .fp v0)] h := by
 have hc' := hc
 try simp only [qa, qaD] at hc'
 have b0 := b9
 try simp only [qa, qaD] at b0
 have a9 := c2
 try simp only [qa, qaD] at a9
 intro m
 induction m with
 | zero =>
  intro a5 a0 b3 b8 d4 c3 a2 a4 h M0 hres
  rw [jx] at hres
  refine cj (ap (sR (mV rfl (af (ba rfl) ?_))))
  obtain ⟨e0, d2, d1⟩ := bh.g_Actions b2
  refine af (bt (k := 0) M0 rfl rfl d2) (af (cq rfl (ci d1 Tryz.underlying29 _)) (bN cn rfl rfl (nS ?_)))
  refine cd rfl ?_ ?_ <;> intro c <;> try simp only [qa, qaD] at c
  ·omega
  refine dl (eh (de ?_))
  exact wP (e2 b8 (Mem.sub M0 (.cons_cons _ .slnil)) hres) rfl
 | succ m ih =>
  intro a5 a0 b3 b8 d4 c3 a2 a4 h M0 hres
  rw [jx] at hres
  refine cj (ap (sR (mV rfl (af (ba rfl) ?_))))
  obtain ⟨d7, c9, c4⟩ := bh.g_Actions b2
  refine af (bt (k := 0) M0 rfl rfl c9) (af (cq rfl (ci c4 Tryz.underlying29 _)) (bN cn rfl rfl (nS ?_)))
  refine cd rfl ?_ ?_ <;> intro c <;> try simp only [qa, qaD] at c
  rotate_left
  ·omega
  refine az (au (ap (bf (sR (lD r0 rfl rfl rfl (af (ba rfl) ?_))))))
  obtain ⟨d8, c8, c7⟩ := bh.g_Actions b2
  refine af (bt (k := 0) M0 rfl rfl c8) (mV rfl (af (bn rfl rfl (slI c7 (by omega) (by omega))) (lR rfl rfl rfl ?_)))
  obtain ⟨b6, a3, hres⟩ := bp hres
  obtain ⟨e1, d6, e3, d0, a6, a8, b4⟩ := cw6 (x1 := (ix ((ix x0.Tables x1.Table).Actions) a0)) r0 
  rw [a3] at a6 a8 b4
  have d3 : b6.1.length ≤ 13000 ∧ b6.2.1.length ≤ 13000 ∧ b6.2.2.length ≤ 13000 := ax5 a3
  refine cL d0 rfl rfl (ak (TR.clo ab.t r0) (ak rfl bd)) (mV rfl (xT rfl rfl (xT rfl rfl (xT rfl rfl (mV rfl (mV rfl (mV rfl (nS ?_))))))))
  refine aw (lD r0 rfl rfl rfl (mV rfl (mV rfl (mV rfl (mV rfl ?_)))))
  obtain ⟨e4, a1, hres⟩ := bp hres
  obtain ⟨d9, c6, c1⟩ := ay9  r0 b8 a6 a8 b4 (by first | omega | ((try dsimp only); (try simp only [List.length_append, List.length_cons, List.length_nil]); omega) | simp) (by first | omega | ((try dsimp only); (try simp only [List.length_append, List.length_cons, List.length_nil]); omega) | simp)
  rw [a1] at c1
  have d5 := wm a1 (by first | omega | (simp only [List.length_nil]; omega))
  refine cL c6 rfl rfl (ak (TR.clo ab.t r0) (ak (TR.clo (tSl tI) b8) (ak (TR.clo (tSl aa.t) a6) (ak (TR.clo (tSl tI) a8) (ak (TR.clo (tSl tI) b4) bd))))) (mV rfl (br (cy (au (aw (mV rfl (bN dp rfl rfl (mV rfl ?_))))))))
  refine br (cx ?_)
  have hbd := dc c4
  have hinc : wr (a0 + 1) = a0 + 1 := cv (by omega) (by omega)
  erw [hinc]
  exact wC (ih  c1 (by omega) (by omega) (by first | omega | (have hT := hA.2 x1.Table (by omega) (by omega); omega)) (by first | omega | (have hT := hA.2 x1.Table (by omega) (by omega); omega)) (Mem.sub M0 (.cons_cons _ .slnil)) hres) rfl

theorem cu0 {x0 : ab} {x1 : ct} {v0 v1 : PV} (r0 : ab.t.R x0 v0) (r1 : ct.t.R x1 v1) (hs : x0.Headers.length ≤ 1000) (hA : AB x0) (hc : x1.Cond.length ≤ 1000) : ∃ r, FnR Tryz.prog 17 [v0, v1] r ∧ (tSl tI).R (qk x0 x1) r := by
 refine fnT (R := RF17) dd9 rfl fun res hres => ?_
 unfold qk at hres
 refine sR (af (dn rfl (TR.cnt ab.t r0)) (af (dn rfl (TR.cnt ct.t r1)) (af (v := nilS) (ax rfl) (nS (ap (sR (fL rfl (ct.g_Table r1) rfl rfl (bN (dj (b := -1)) rfl rfl ?_))))))))
 refine nS ?_
 refine bz hres rfl ?_ ?_ <;> clear hres <;> intro a0 hres <;> have b4 := a0 <;> try simp only [qa, qaD] at b4
 ·refine sR (lD r0 rfl rfl rfl (gL (ct.g_Cond r1) rfl rfl rfl fun e2 b8 => ?_))
  obtain ⟨e9, a7, hres⟩ := bp hres
  obtain ⟨e6, c6, b6⟩ := bx7  b8 (by first | assumption | omega | (rw [cv (by omega) (by omega)]; omega))
  rw [a7] at b6
  have d8 := zm a7
  refine cL c6 rfl rfl (ak (TR.clo (tSl ae.t) b8) bd) (gL (ct.g_Cond r1) rfl rfl rfl fun f4 b7 => ?_)
  obtain ⟨f1, a5, hres⟩ := bp hres
  obtain ⟨e3, c9, a8⟩ := bt3  b7 (by first | assumption | omega | (rw [cv (by omega) (by omega)]; omega))
  rw [a5] at a8
  have d9 := xk a5
  refine cL c9 rfl rfl (ak (TR.clo (tSl ae.t) b7) bd) ?_
  obtain ⟨e4, a6, hres⟩ := bp hres
  obtain ⟨f3, d0, a9⟩ := ay9  r0 fj b6 a8 fj (by first | omega | ((try dsimp only); (try simp only [List.length_append, List.length_cons, List.length_nil]); omega) | simp) (by first | omega | ((try dsimp only); (try simp only [List.length_append, List.length_cons, List.length_nil]); omega) | simp)
  rw [a6] at a9
  have e0 := wm a6 (by first | omega | (simp only [List.length_nil]; omega))
  refine cL d0 rfl rfl (ak (TR.clo ab.t r0) (ak (TR.clo (tSl tI) fj) (ak (TR.clo (tSl aa.t) b6) (ak (TR.clo (tSl tI) a8) (ak (TR.clo (tSl tI) fj) bd))))) (mV rfl (nS ?_))
  exact rR hres rfl (TR.clo (tSl tI) a9) a9
 ·refine az (au (ap (sR (fL rfl (ct.g_Table r1) rfl rfl (bN cn rfl rfl (mV rfl ?_))))))
  refine ca 7 (d := 33) (v := vb ((decide (x1.Table < 0)) || (decide ((x0.Tables.length : Int) ≤ x1.Table)))) ?_ ?_
  ·intro S Q r
   cases c2 : (decide (x1.Table < 0))
   ·intro k
    have b1 := c2
    try simp only [qa, qaD] at b1
    refine ah rfl rfl (bw rfl (ct.g_Table r1)) (ah rfl rfl (bv rfl rfl rfl) ?_)
    obtain ⟨f2, d3, b5⟩ := ab.g_Tables r0
    refine ah rfl rfl (bw rfl d3) (ah rfl rfl (bv rfl (TR.cnt (tSl bh.t) b5) (TR.agg (tSl bh.t) b5)) (ah rfl rfl (cq rfl (ci b5 Tryz.underlying26 _)) (ah rfl rfl (cb rfl rfl kt) ?_)))
    exact gK rfl rfl rfl rfl rfl k
   ·exact gN 6 rfl rfl rfl rfl rfl rfl
  refine nS ?_
  refine bz hres rfl ?_ ?_ <;> clear hres <;> intro a2 hres <;> have b2 := a2 <;> try simp only [qa, qaD] at b2
  ·refine sR (af (v := nilS) (ax rfl) (nS ?_))
   exact rR hres rfl (TR.clo (tSl tI) fj) fj
  ·refine az (au (sR (af (v := nilS) (ax rfl) (nR ?_))))
   obtain ⟨f0, d4, c1⟩ := ab.g_Tables r0
   refine fA rfl d4 (lD c1 rfl rfl rfl (fL rfl (ct.g_Table r1) rfl rfl ?_))
   obtain ⟨b9, d6, a3⟩ := dh (i := x1.Table) c1 (by omega) (by omega)
   refine af (bn rfl rfl d6) (lD a3 rfl rfl rfl ?_)
   refine ek (x := .agg [vs [], nilS, nilS, vi 0, nilS, vi 0]) (Mem.nil ⟨0, []⟩) rfl rfl (fun c4 d5 e1 c5 => ?_)
   refine dy (k := 0) (v := b9) c5 rfl rfl rfl (TR.cnt bh.t a3) (fun c8 b0 => ?_)
   replace b0 : Mem c8 [⟨.op c4 d5 0, 59, 6, [b9]⟩] := b0
   refine nS (ap (sR (mI rfl (nS (bf ?_)))))
   refine wC (xr r0 hs hA hc a0 a2 a3 ?_  fj rfl (by omega) (by first | omega | ((try dsimp only); (try simp only [List.length_append, List.length_cons, List.length_nil]); omega) | simp) (by first | omega | ((try dsimp only); (try simp only [List.length_append, List.length_cons, List.length_nil]); omega) | simp) (Mem.sub b0 (.cons_cons _ .slnil)) hres) rfl
   ·intro d7 d1 b3 a4 e8 c7 hres
    refine em (au (ap (sR (mI rfl (nS (bf ?_))))))
    refine wC (xj r0 hs hA hc a0 a2 a3 a4 ?_  b3 rfl (by omega) (by first | omega | ((try dsimp only); (try simp only [List.length_append, List.length_cons, List.length_nil]); omega) | simp) (by first | omega | ((try dsimp only); (try simp only [List.length_append, List.length_cons, List.length_nil]); omega) | simp) (Mem.sub c7 (.cons_cons _ .slnil)) hres) rfl
    ·intro d2 c3 a1 e7 e5 hres
     refine em (au (sR (mV rfl (mV rfl (nS ?_)))))
     exact rR hres rfl (TR.clo (tSl tI) a1) a1

def RF15 (res : Bool) (r : PV) : Prop := r = vb res
theorem yp {S : List Fr} {res : Bool} {x0 x1 : List Int} {v0 v1 : PV} (r0 : (tSl tI).R x0 v0) (r1 : (tSl tI).R x1 v1) (a2 : (!decide ((x0.length : Int) = (x1.length : Int))) = false) {K0 : Unit → Bool}
  (a5 : K0 () = res → PX Tryz.prog 0 S (QR Tryz.prog [(4, none)] (RF15 res)) [] ⟨0, []⟩) :
  ∀ {m : Nat} {a0 : Int} (a4 : m = Int.toNat ((x0.length : Int) - a0)) (a3 : 0 ≤ a0), lf x0 x1 K0 m a0 = res → RC Tryz.prog (.loop cl3) S (QR Tryz.prog [(4, none)] (RF15 res)) [(5, vi a0), (1, v1), (0, v0)] ⟨0, []⟩ := by
 have a1 := a2
 try simp only [qa, qaD] at a1
 intro m
 induction m with
 | zero =>
  intro a0 a4 a3 hres
  rw [lf] at hres
  refine cj (ap (sR (mV rfl (mV rfl (af (cq rfl (ci r0 Tryz.underlying29 _)) (bN cn rfl rfl (nS ?_)))))))
  refine cd rfl ?_ ?_ <;> intro c <;> try simp only [qa, qaD] at c
  ·omega
  refine dl (eh (de ?_))
  exact wP (a5  hres) rfl
 | succ m ih =>
  intro a0 a4 a3 hres
  rw [lf] at hres
  refine cj (ap (sR (mV rfl (mV rfl (af (cq rfl (ci r0 Tryz.underlying29 _)) (bN cn rfl rfl (nS ?_)))))))
  refine cd rfl ?_ ?_ <;> intro c <;> try simp only [qa, qaD] at c
  rotate_left
  ·omega
  refine az (au (ap (bf (sR (mV rfl (mV rfl (af (bn rfl rfl (slI r0 (by omega) (by omega))) (lR rfl rfl rfl ?_))))))))
  refine mV rfl (mV rfl (af (bn rfl rfl (slI r1 (by omega) (by omega))) (lR rfl rfl rfl (bN ks rfl rfl (nS ?_)))))
  refine bz hres rfl ?_ ?_ <;> clear hres <;> intro c hres <;> try simp only [qa, qaD] at c
  ·refine sR (mB rfl (nS ?_))
   exact rR hres rfl rfl rfl
  ·refine az (cy (au (aw (mV rfl (bN dp rfl rfl (mV rfl (br (cx ?_))))))))
   have hbd := dc r0
   have hinc : wr (a0 + 1) = a0 + 1 := cv (by omega) (by omega)
   erw [hinc]
   exact wC (ih   (by omega) (by omega) hres) rfl

theorem bo5 {x0 x1 : List Int} {v0 v1 : PV} (r0 : (tSl tI).R x0 v0) (r1 : (tSl tI).R x1 v1) : FnR Tryz.prog 15 [v0, v1] (vb (my x0 x1)) := by
 refine fnS (R := RF15) bv4 (fun _ h => h) rfl fun res hres => ?_
 unfold my at hres
 refine sR (mB rfl (nS (ap (sR (mV rfl (af (cq rfl (ci r0 Tryz.underlying29 _)) (mV rfl (af (cq rfl (ci r1 Tryz.underlying29 _)) ?_))))))))
 refine bN ks rfl rfl (nS ?_)
 refine bz hres rfl ?_ ?_ <;> clear hres <;> intro a0 hres <;> have a1 := a0 <;> try simp only [qa, qaD] at a1
 ·refine sR (mB rfl (nS ?_))
  exact rR hres rfl rfl rfl
 ·refine az (au (ap (sR (mI rfl (nS (bf ?_))))))
  refine wC (yp r0 r1 a0 ?_  rfl (by omega) hres) rfl
  ·intro  hres
   refine em (au (sR (mB rfl (nS ?_))))
   exact rR hres rfl rfl rfl

def RF39 (res : (List aa) × (List Int) × (List Int)) (r : PV) : Prop := ∃ c0, ∃ c1, ∃ c2, r = .tup [c0, c1, c2] ∧ (tSl aa.t).R res.1 c0 ∧ (tSl tI).R res.2.1 c1 ∧ (tSl tI).R res.2.2 c2
theorem vh {S : List Fr} {res : (List aa) × (List Int) × (List Int)} {x0 : ab} {x1 : Int} {a5 : (List aq)} {a1 : Int} {d5 d1 : List Int} {e4 : List aa} {c7 c6 : Bool} {v0 f7 : PV} {f0 : List PV} {e0 : PV} {d0 : List PV} {e5 : PV} {e6 : List PV} {d6 d4 : PV} {d7 : List PV} {g5 h2 : PV} {c8 c9 d2 d3 : Nat} (hs : SmH x0) (j0 : iz x0 x1 = a5) (i5 : BO x0 a5) (j3 : a5.length ≤ 12) (i6 : isL e0 = true) (h5 : Wri e0 f0) (h6 : d5.length ≤ 4611686018427387904) (i0 : isL e5 = true) (h1 : Wri e5 d0) (h4 : d1.length ≤ 4611686018427387904) (i9 : isL d6 = true) (h0 : Wri d6 e6) (g7 : e4.length ≤ 4611686018427387904) (j7 : 0 ≤ a1) (h8 : (e4.length : Int) ≤ 1001 * a1) (i4 : (d1.length : Int) ≤ 1001 * a1) (h9 : (d5.length : Int) ≤ 1001 * a1) (i3 : a1 ≤ (a5.length : Int)) (f9 : (decide (a1 < (a5.length : Int))) = true) (h7 : aq.t.R (ix a5 a1) d4) (j1 : c7 = (if (decide (((ix a5 a1).Kind) = 1)) = true then (decide (((ix a5 a1).Kind) = 1)) else (decide (((ix a5 a1).Kind) = 4)))) (f8 : c7 = false) (i2 : c6 = (if (decide (((ix a5 a1).Kind) = 2)) = true then (decide (((ix a5 a1).Kind) = 2)) else (decide (((ix a5 a1).Kind) = 3)))) (f4 : c6 = true) (i7 : All2 tI.R ([(ix a5 a1).Header] : List Int) d7) (i8 : Wri g5 (d0 ++ d7)) (j2 : (d1 ++ ([(ix a5 a1).Header] : List Int)).length ≤ 4611686018427387904) (j4 : isL g5 = true) (g8 : (tSl ay.t).R ((ix x0.Headers ((ix a5 a1).Header)).Fields) h2) {K3 : (List Int) → (List Int) → (List aa) → ((List aa) × (List Int) × (List Int))}
  (j6 : ∀ {b0 a9 : List Int} {a4 : List aa} {a7 : List PV} {a2 : PV} {a6 : List PV} {a3 : PV} {a0 : List PV} {a8 : PV} (c1 : All2 tI.R b0 a7) (c4 : isL a2 = true) (b4 : Wri a2 a7) (b3 : b0.length ≤ 4611686018427387904) (c2 : All2 tI.R a9 a6) (c3 : isL a3 = true) (b1 : Wri a3 a6) (b2 : a9.length ≤ 4611686018427387904) (b7 : All2 aa.t.R a4 a0) (b8 : isL a8 = true) (b5 : Wri a8 a0) (b9 : a4.length ≤ 4611686018427387904) (j8 : (a4.length : Int) ≤ 1001 * (a1 + 1) ∧ (a9.length : Int) ≤ 1001 * (a1 + 1) ∧ (b0.length : Int) ≤ 1001 * (a1 + 1)) {h : Heap} (M0 : Mem h [⟨.op d2 d3 0, 135, 7, [d4]⟩, ⟨a2, 3, 1, a7⟩, ⟨a3, 3, 1, a6⟩, ⟨a8, 87, 2, a0⟩, ⟨.op c8 c9 0, 157, 3, [.agg [a8, a3, a2]]⟩]), K3 b0 a9 a4 = res → PX Tryz.prog 3 S (QR Tryz.prog [(4, none), (5, none), (6, none)] (RF39 res)) [(2, .fp v0), (7, .op c8 c9 0), (13, f7), (14, vi (a5.length : Int)), (15, vi a1)] h) :
  ∀ {m : Nat} {b6 : Int} {b0 a9 : List Int} {a4 : List aa} {a7 : List PV} {a2 : PV} {a6 : List PV} {a3 : PV} {a0 : List PV} {a8 : PV} (c1 : All2 tI.R b0 a7) (c4 : isL a2 = true) (b4 : Wri a2 a7) (b3 : b0.length ≤ 4611686018427387904) (c2 : All2 tI.R a9 a6) (c3 : isL a3 = true) (b1 : Wri a3 a6) (b2 : a9.length ≤ 4611686018427387904) (b7 : All2 aa.t.R a4 a0) (b8 : isL a8 = true) (b5 : Wri a8 a0) (b9 : a4.length ≤ 4611686018427387904) (i1 : m = Int.toNat ((((ix x0.Headers ((ix a5 a1).Header)).Fields).length : Int) - b6)) (g2 : 0 ≤ b6) (d8 : (a4.length : Int) ≤ 1001 * a1 + b6) (e3 : (a9.length : Int) ≤ 1001 * a1 + 1) (e2 : (b0.length : Int) ≤ 1001 * a1) (d9 : b6 ≤ 1000) {h : Heap} (M0 : Mem h [⟨.op d2 d3 0, 135, 7, [d4]⟩, ⟨a2, 3, 1, a7⟩, ⟨a3, 3, 1, a6⟩, ⟨a8, 87, 2, a0⟩, ⟨.op c8 c9 0, 157, 3, [.agg [a8, a3, a2]]⟩]), gx a5 a1 K3 m b6 b0 a9 a4 = res → RC Tryz.prog (.loop cb8) S (QR Tryz.prog [(4, none), (5, none), (6, none)] (RF39 res)) [(49, vi b6), (48, vi (((ix x0.Headers ((ix a5 a1).Header)).Fields).length : Int)), (15, vi a1), (14, vi (a5.length : Int)), (13, f7), (9, .op d2 d3 0), (7, .op c8 c9 0), (2, .fp v0)] h := by
 have f2 := f9
 try simp only [qa, qaD] at f2
 have e9 := f8
 try simp only [qa, qaD] at e9
 have e8 := f4
 try simp only [qa, qaD] at e8
 intro m
 induction m with
 | zero =>
  intro b6 b0 a9 a4 a7 a2 a6 a3 a0 a8 c1 c4 b4 b3 c2 c3 b1 b2 b7 b8 b5 b9 i1 g2 d8 e3 e2 d9 h M0 hres
  rw [gx] at hres
  refine cj (sR (bN cn rfl rfl (nS (ap ?_))))
  refine cd rfl ?_ ?_ <;> intro c <;> try simp only [qa, qaD] at c
  ·omega
  refine dl (eh (de ?_))
  exact wP (j6 c1 c4 b4 b3 c2 c3 b1 b2 b7 b8 b5 b9 (by omega) (Mem.sub M0 (.cons_cons _ (.cons_cons _ (.cons_cons _ (.cons_cons _ (.cons_cons _ .slnil)))))) hres) rfl
 | succ m ih =>
  intro b6 b0 a9 a4 a7 a2 a6 a3 a0 a8 c1 c4 b4 b3 c2 c3 b1 b2 b7 b8 b5 b9 i1 g2 d8 e3 e2 d9 h M0 hres
  rw [gx] at hres
  refine cj (sR (bN cn rfl rfl (nS (ap ?_))))
  refine cd rfl ?_ ?_ <;> intro c <;> try simp only [qa, qaD] at c
  rotate_left
  ·omega
  refine az (au (ap (bf (sR (mV rfl (mV rfl (nS (aw ?_))))))))
  refine af (ba rfl) (af (bt (k := 4) M0 rfl rfl (mk1 (gj (k := 3) M0 rfl b8).2)) (af (ba rfl) (af (bt (k := 0) M0 rfl rfl (aq.g_Header h7)) (mV rfl (af (v := .agg [vi ((ix a5 a1).Header), vi b6]) (lr (cs := [vi ((ix a5 a1).Header), vi b6]) rfl rfl) (af (v := .fs true [.agg [vi ((ix a5 a1).Header), vi b6]]) (fk rfl (all_cons rfl iv)) ?_))))))
  have g9 : (tSl aa.t).R ([({ Header := (ix a5 a1).Header, Field := b6 } : aa)] : List aa) (.fs true [.agg [vi ((ix a5 a1).Header), vi b6]]) := nk ⟨rfl, trivial⟩ (by simp)
  obtain ⟨c5, g4, e1⟩ := lc (t := aa.t) (h := h) g9
  have g6 : fits (a0.length + c5.length) 16 = true := by rw [All2.length_eq b7, All2.length_eq e1]; (try simp only [List.length_cons, List.length_nil]); exact jb (by first | omega | (have hj := jot (by assumption) (by assumption); have hk := bo_h (l := a5) (k := a1) (by assumption) (by omega) (by omega) (by omega); have g3 := hs _ hk.1 hk.2; first | omega | (simp only [List.length_append, List.length_cons, List.length_nil]; omega))) (by first | omega | (have hj := jot (by assumption) (by assumption); have hk := bo_h (l := a5) (k := a1) (by assumption) (by omega) (by omega) (by omega); have g3 := hs _ hk.1 hk.2; first | omega | (simp only [List.length_append, List.length_cons, List.length_nil]; omega)))
  refine jd (k := 3) (es := a0) (news := c5) M0 rfl rfl rfl b8 b5 g4 g6 (fun e7 j5 f6 g0 f5 => ?_)
  have g1 : All2 aa.t.R (a4 ++ ([({ Header := (ix a5 a1).Header, Field := b6 } : aa)] : List aa)) (a0 ++ c5) := All2.app b7 e1
  have f3 : (a4 ++ ([({ Header := (ix a5 a1).Header, Field := b6 } : aa)] : List aa)).length ≤ 4611686018427387904 := by rw [← All2.length_eq g1, List.length_append]; exact gz g6
  refine af (ba rfl) ?_
  refine iq (k := 4) (v := e7) f5 rfl rfl rfl (gj (k := 3) f5 rfl f6).1 rfl (by first | decide | (simp only [List.length_cons, List.length_nil]; omega) | simp) (fun h3 f1 => ?_)
  replace f1 : Mem h3 [⟨.op d2 d3 0, 135, 7, [d4]⟩, ⟨a2, 3, 1, a7⟩, ⟨a3, 3, 1, a6⟩, ⟨e7, 87, 2, (a0 ++ c5)⟩, ⟨.op c8 c9 0, 157, 3, [.agg [e7, a3, a2]]⟩] := f1
  refine br (cy (au (aw (bN dp rfl rfl (mV rfl (br (cx ?_)))))))
  have hbd := dc g8
  have hinc : wr (b6 + 1) = b6 + 1 := cv (by omega) (by omega)
  erw [hinc]
  exact wC (ih  c1 c4 b4 b3 c2 c3 b1 b2 g1 f6 g0 f3 (by omega) (by omega) (by first | omega | (simp only [List.length_append, List.length_cons, List.length_nil]; omega) | (have hj := jot (by assumption) (by assumption); have hk := bo_h (l := a5) (k := a1) (by assumption) (by omega) (by omega) (by omega); have g3 := hs _ hk.1 hk.2; first | omega | (simp only [List.length_append, List.length_cons, List.length_nil]; omega))) (by first | omega | (simp only [List.length_append, List.length_cons, List.length_nil]; omega) | (have hj := jot (by assumption) (by assumption); have hk := bo_h (l := a5) (k := a1) (by assumption) (by omega) (by omega) (by omega); have g3 := hs _ hk.1 hk.2; first | omega | (simp only [List.length_append, List.length_cons, List.length_nil]; omega))) (by first | omega | (simp only [List.length_append, List.length_cons, List.length_nil]; omega) | (have hj := jot (by assumption) (by assumption); have hk := bo_h (l := a5) (k := a1) (by assumption) (by omega) (by omega) (by omega); have g3 := hs _ hk.1 hk.2; first | omega | (simp only [List.length_append, List.length_cons, List.length_nil]; omega))) (by first | omega | (simp only [List.length_append, List.length_cons, List.length_nil]; omega) | (have hj := jot (by assumption) (by assumption); have hk := bo_h (l := a5) (k := a1) (by assumption) (by omega) (by omega) (by omega); have g3 := hs _ hk.1 hk.2; first | omega | (simp only [List.length_append, List.length_cons, List.length_nil]; omega))) (Mem.sub f1 (.cons_cons _ (.cons_cons _ (.cons_cons _ (.cons_cons _ (.cons_cons _ .slnil)))))) hres) rfl

theorem uz {S : List Fr} {res : (List aa) × (List Int) × (List Int)} {x0 : ab} {x1 : Int} {a1 : (List aq)} {v0 g1 : PV} {c5 c6 : Nat} (r0 : ab.t.R x0 v0) (hs : SmH x0) (l3 : iz x0 x1 = a1) (f3 : (tSl aq.t).R a1 g1) (k3 : BO x0 a1) (l8 : a1.length ≤ 12) {K0 : (List Int) → (List Int) → (List aa) → ((List aa) × (List Int) × (List Int))}
  (o2 : ∀ {a8 a9 : List Int} {b0 : List aa} {a3 : List PV} {a6 : PV} {a4 : List PV} {a7 : PV} {a2 : List PV} {a5 : PV} (c3 : All2 tI.R a8 a3) (b9 : isL a6 = true) (b3 : Wri a6 a3) (b6 : a8.length ≤ 4611686018427387904) (c2 : All2 tI.R a9 a4) (b7 : isL a7 = true) (b2 : Wri a7 a4) (b5 : a9.length ≤ 4611686018427387904) (c4 : All2 aa.t.R b0 a2) (c1 : isL a5 = true) (b1 : Wri a5 a2) (b4 : b0.length ≤ 4611686018427387904) (o8 : b0.length ≤ 13000 ∧ a9.length ≤ 13000 ∧ a8.length ≤ 13000) {h : Heap} (M0 : Mem h [⟨a6, 3, 1, a3⟩, ⟨a7, 3, 1, a4⟩, ⟨a5, 87, 2, a2⟩, ⟨.op c5 c6 0, 157, 3, [.agg [a5, a7, a6]]⟩]), K0 a8 a9 b0 = res → PX Tryz.prog 0 S (QR Tryz.prog [(4, none), (5, none), (6, none)] (RF39 res)) [(7, .op c5 c6 0)] h) :
  ∀ {m : Nat} {a0 : Int} {a8 a9 : List Int} {b0 : List aa} {a3 : List PV} {a6 : PV} {a4 : List PV} {a7 : PV} {a2 : List PV} {a5 : PV} (c3 : All2 tI.R a8 a3) (b9 : isL a6 = true) (b3 : Wri a6 a3) (b6 : a8.length ≤ 4611686018427387904) (c2 : All2 tI.R a9 a4) (b7 : isL a7 = true) (b2 : Wri a7 a4) (b5 : a9.length ≤ 4611686018427387904) (c4 : All2 aa.t.R b0 a2) (c1 : isL a5 = true) (b1 : Wri a5 a2) (b4 : b0.length ≤ 4611686018427387904) (n8 : m = Int.toNat ((a1.length : Int) - a0)) (i4 : 0 ≤ a0) (e6 : (b0.length : Int) ≤ 1001 * a0) (f1 : (a9.length : Int) ≤ 1001 * a0) (e7 : (a8.length : Int) ≤ 1001 * a0) (f0 : a0 ≤ (a1.length : Int)) {h : Heap} (M0 : Mem h [⟨a6, 3, 1, a3⟩, ⟨a7, 3, 1, a4⟩, ⟨a5, 87, 2, a2⟩, ⟨.op c5 c6 0, 157, 3, [.agg [a5, a7, a6]]⟩]), dt x0 a1 K0 m a0 a8 a9 b0 = res → RC Tryz.prog (.loop ch0) S (QR Tryz.prog [(4, none), (5, none), (6, none)] (RF39 res)) [(15, vi a0), (14, vi (a1.length : Int)), (13, g1), (7, .op c5 c6 0), (2, .fp v0)] h := by
 intro m
 induction m with
 | zero =>
  intro a0 a8 a9 b0 a3 a6 a4 a7 a2 a5 c3 b9 b3 b6 c2 b7 b2 b5 c4 c1 b1 b4 n8 i4 e6 f1 e7 f0 h M0 hres
  rw [dt] at hres
  refine cj (sR (bN cn rfl rfl (nS (ap ?_))))
  refine cd rfl ?_ ?_ <;> intro c <;> try simp only [qa, qaD] at c
  ·omega
  refine dl (eh (de ?_))
  exact wP (o2 c3 b9 b3 b6 c2 b7 b2 b5 c4 c1 b1 b4 (by omega) (Mem.sub M0 (.cons_cons _ (.cons_cons _ (.cons_cons _ (.cons_cons _ .slnil))))) hres) rfl
 | succ m ih =>
  intro a0 a8 a9 b0 a3 a6 a4 a7 a2 a5 c3 b9 b3 b6 c2 b7 b2 b5 c4 c1 b1 b4 n8 i4 e6 f1 e7 f0 h M0 hres
  rw [dt] at hres
  refine cj (sR (bN cn rfl rfl (nS (ap ?_))))
  refine cd rfl (fun d8 => ?_) (fun d8 => ?_)
  ·have hgo := hres
   have i1 := d8
   try simp only [qa, qaD] at i1
   refine az (au (ap (bf (sR ?_))))
   obtain ⟨d4, n1, d3⟩ := dh (i := a0) f3 (by first | omega | (have hj := jot (by assumption) (by assumption); have hk := bo_h (l := a1) (k := a0) (by assumption) (by omega) (by omega) (by omega); omega)) (by first | omega | (have hj := jot (by assumption) (by assumption); have hk := bo_h (l := a1) (k := a0) (by assumption) (by omega) (by omega) (by omega); omega))
   refine af (bn rfl rfl n1) (lD d3 rfl rfl rfl ?_)
   refine ek (x := .agg [vi 0, vi 0, vi 0, vi 0, vi 0, nilS, nilS]) M0 rfl rfl (fun d0 d1 n9 n4 => ?_)
   refine dy (k := 0) (v := d4) n4 rfl rfl rfl (TR.cnt aq.t d3) (fun n2 f8 => ?_)
   replace f8 : Mem n2 [⟨.op d0 d1 0, 135, 7, [d4]⟩, ⟨a6, 3, 1, a3⟩, ⟨a7, 3, 1, a4⟩, ⟨a5, 87, 2, a2⟩, ⟨.op c5 c6 0, 157, 3, [.agg [a5, a7, a6]]⟩] := f8
   refine nR (af (ba rfl) (af (bt (k := 0) f8 rfl rfl (aq.g_Kind d3)) (nS (bf (ap (sR (bN dj rfl rfl (mV rfl ?_))))))))
   refine nS ?_
   obtain ⟨n6, j2, hres⟩ := bp hres
   refine lm (F := fun b S Q => ∀ (c8 : Bool) (h1 : c8 = (if (decide (((ix a1 a0).Kind) = 1)) = true then (decide (((ix a1 a0).Kind) = 1)) else (decide (((ix a1 a0).Kind) = 4)))) (d9 : Heap) (c9 : Mem d9 [⟨.op d0 d1 0, 135, 7, [d4]⟩, ⟨a6, 3, 1, a3⟩, ⟨a7, 3, 1, a4⟩, ⟨a5, 87, 2, a2⟩, ⟨.op c5 c6 0, 157, 3, [.agg [a5, a7, a6]]⟩]), n6 c8 = res → RC Tryz.prog b S Q [(21, vb c8), (20, vi ((ix a1 a0).Kind)), (15, vi a0), (14, vi (a1.length : Int)), (13, g1), (9, .op d0 d1 0), (7, .op c5 c6 0), (2, .fp v0)] d9) ?_ ?_
   ·intro c8 h1 d9 c9 hres
    rw [← j2] at hres
    refine bz hres rfl ?_ ?_ <;> clear hres <;> intro g7 hres <;> have h9 := g7 <;> try simp only [qa, qaD] at h9
    ·refine aw (af (ba rfl) (af (bt (k := 4) c9 rfl rfl (mk1 (gj (k := 3) c9 rfl c1).2)) (af (ba rfl) ?_)))
     obtain ⟨j7, n0, k0⟩ := aq.g_Dst d3
     refine af (bt (k := 0) c9 rfl rfl n0) (af (v := .fs true [j7]) (fk rfl (all_cons (TR.cnt aa.t k0) iv)) ?_)
     have m7 : (tSl aa.t).R ([(ix a1 a0).Dst] : List aa) (.fs true [j7]) := nk ⟨k0, trivial⟩ (by simp)
     obtain ⟨d5, l9, g4⟩ := lc (t := aa.t) (h := d9) m7
     have j6 : fits (a2.length + d5.length) 16 = true := by rw [All2.length_eq c4, All2.length_eq g4]; (try simp only [List.length_cons, List.length_nil]); exact jb (by first | omega | (have hj := jot (by assumption) (by assumption); have hk := bo_h (l := a1) (k := a0) (by assumption) (by omega) (by omega) (by omega); have k8 := hs _ hk.1 hk.2; first | omega | (simp only [List.length_append, List.length_cons, List.length_nil]; omega))) (by first | omega | (have hj := jot (by assumption) (by assumption); have hk := bo_h (l := a1) (k := a0) (by assumption) (by omega) (by omega) (by omega); have k8 := hs _ hk.1 hk.2; first | omega | (simp only [List.length_append, List.length_cons, List.length_nil]; omega)))
     refine jd (k := 3) (es := a2) (news := d5) c9 rfl rfl rfl c1 b1 l9 j6 (fun i0 o7 k5 i9 l1 => ?_)
     have j8 : All2 aa.t.R (b0 ++ ([(ix a1 a0).Dst] : List aa)) (a2 ++ d5) := All2.app c4 g4
     have k9 : (b0 ++ ([(ix a1 a0).Dst] : List aa)).length ≤ 4611686018427387904 := by rw [← All2.length_eq j8, List.length_append]; exact gz j6
     refine af (ba rfl) ?_
     refine iq (k := 4) (v := i0) l1 rfl rfl rfl (gj (k := 3) l1 rfl k5).1 rfl (by first | decide | (simp only [List.length_cons, List.length_nil]; omega) | simp) (fun m6 h5 => ?_)
     replace h5 : Mem m6 [⟨.op d0 d1 0, 135, 7, [d4]⟩, ⟨a6, 3, 1, a3⟩, ⟨a7, 3, 1, a4⟩, ⟨i0, 87, 2, (a2 ++ d5)⟩, ⟨.op c5 c6 0, 157, 3, [.agg [i0, a7, a6]]⟩] := h5
     refine br (cy (cy (au (aw (bN dp rfl rfl (mV rfl (br (cx ?_))))))))
     have hbd := dc f3
     have hinc : wr (a0 + 1) = a0 + 1 := cv (by omega) (by omega)
     erw [hinc]
     exact wC (ih  c3 b9 b3 b6 c2 b7 b2 b5 j8 k5 i9 k9 (by omega) (by omega) (by first | omega | (simp only [List.length_append, List.length_cons, List.length_nil]; omega)) (by first | omega | (simp only [List.length_append, List.length_cons, List.length_nil]; omega)) (by first | omega | (simp only [List.length_append, List.length_cons, List.length_nil]; omega)) (by first | omega | (simp only [List.length_append, List.length_cons, List.length_nil]; omega)) (Mem.sub h5 (.cons _ (.cons_cons _ (.cons_cons _ (.cons_cons _ (.cons_cons _ .slnil)))))) hres) rfl
    ·refine ap (sR (bN dj rfl rfl (mV rfl (nS ?_))))
     obtain ⟨m8, j5, hres⟩ := bp hres
     refine lm (F := fun b S Q => ∀ (c7 : Bool) (g6 : c7 = (if (decide (((ix a1 a0).Kind) = 2)) = true then (decide (((ix a1 a0).Kind) = 2)) else (decide (((ix a1 a0).Kind) = 3)))) (d2 : Heap) (b8 : Mem d2 [⟨.op d0 d1 0, 135, 7, [d4]⟩, ⟨a6, 3, 1, a3⟩, ⟨a7, 3, 1, a4⟩, ⟨a5, 87, 2, a2⟩, ⟨.op c5 c6 0, 157, 3, [.agg [a5, a7, a6]]⟩]), m8 c7 = res → RC Tryz.prog b S Q [(31, vb c7), (20, vi ((ix a1 a0).Kind)), (15, vi a0), (14, vi (a1.length : Int)), (13, g1), (9, .op d0 d1 0), (7, .op c5 c6 0), (2, .fp v0)] d2) ?_ ?_
     ·intro c7 g6 d2 b8 hres
      rw [← j5] at hres
      refine bz hres rfl ?_ ?_ <;> clear hres <;> intro g3 hres <;> have h7 := g3 <;> try simp only [qa, qaD] at h7
      ·refine sR (af (ba rfl) (af (bt (k := 4) b8 rfl rfl (mk1 (gj (k := 2) b8 rfl b7).2)) (af (ba rfl) (af (bt (k := 0) b8 rfl rfl (aq.g_Header d3)) (af (v := .fs true [vi ((ix a1 a0).Header)]) (fk rfl (all_cons rfl iv)) ?_)))))
       have n5 : (tSl tI).R ([(ix a1 a0).Header] : List Int) (.fs true [vi ((ix a1 a0).Header)]) := nk ⟨rfl, trivial⟩ (by simp)
       obtain ⟨d6, j9, f5⟩ := lc (t := tI) (h := d2) n5
       have m0 : fits (a4.length + d6.length) 8 = true := by rw [All2.length_eq c2, All2.length_eq f5]; (try simp only [List.length_cons, List.length_nil]); exact jb (by first | omega | (have hj := jot (by assumption) (by assumption); have hk := bo_h (l := a1) (k := a0) (by assumption) (by omega) (by omega) (by omega); have k8 := hs _ hk.1 hk.2; first | omega | (simp only [List.length_append, List.length_cons, List.length_nil]; omega))) (by first | omega | (have hj := jot (by assumption) (by assumption); have hk := bo_h (l := a1) (k := a0) (by assumption) (by omega) (by omega) (by omega); have k8 := hs _ hk.1 hk.2; first | omega | (simp only [List.length_append, List.length_cons, List.length_nil]; omega)))
       refine jd (k := 2) (es := a4) (news := d6) b8 rfl rfl rfl b7 b2 j9 m0 (fun i2 o4 h8 g8 l5 => ?_)
       have l2 : All2 tI.R (a9 ++ ([(ix a1 a0).Header] : List Int)) (a4 ++ d6) := All2.app c2 f5
       have h3 : (a9 ++ ([(ix a1 a0).Header] : List Int)).length ≤ 4611686018427387904 := by rw [← All2.length_eq l2, List.length_append]; exact gz m0
       refine af (ba rfl) ?_
       refine iq (k := 4) (v := i2) l5 rfl rfl rfl (gj (k := 2) l5 rfl h8).1 rfl (by first | decide | (simp only [List.length_cons, List.length_nil]; omega) | simp) (fun m9 g2 => ?_)
       replace g2 : Mem m9 [⟨.op d0 d1 0, 135, 7, [d4]⟩, ⟨a6, 3, 1, a3⟩, ⟨i2, 3, 1, (a4 ++ d6)⟩, ⟨a5, 87, 2, a2⟩, ⟨.op c5 c6 0, 157, 3, [.agg [a5, i2, a6]]⟩] := g2
       refine nR (gL (ab.g_Headers r0) rfl rfl rfl fun o1 m4 => (af (ba rfl) (af (bt (k := 0) g2 rfl rfl (aq.g_Header d3)) ?_)))
       obtain ⟨o6, n7, n3⟩ := dh (i := (ix a1 a0).Header) m4 (by first | omega | (have hj := jot (by assumption) (by assumption); have hk := bo_h (l := a1) (k := a0) (by assumption) (by omega) (by omega) (by omega); omega)) (by first | omega | (have hj := jot (by assumption) (by assumption); have hk := bo_h (l := a1) (k := a0) (by assumption) (by omega) (by omega) (by omega); omega))
       refine af (bn rfl rfl n7) (gL (bg.g_Fields n3) rfl rfl rfl fun o3 k4 => (af (cq rfl (ci k4 Tryz.underlying23 _)) (mI rfl (nS (bf ?_)))))
       refine wC (vh hs l3 k3 l8 b9 b3 b6 b7 b2 b5 c1 b1 b4 i4 e6 f1 e7 f0 d8 d3 h1 g7 g6 g3 f5 g8 h3 h8 k4 ?_  c3 b9 b3 b6 l2 h8 g8 h3 c4 c1 b1 b4 rfl (by omega) (by first | omega | ((try dsimp only); (try simp only [List.length_append, List.length_cons, List.length_nil]); omega) | simp) (by first | omega | ((try dsimp only); (try simp only [List.length_append, List.length_cons, List.length_nil]); omega) | simp) (by first | omega | ((try dsimp only); (try simp only [List.length_append, List.length_cons, List.length_nil]); omega) | simp) (by first | omega | ((try dsimp only); (try simp only [List.length_append, List.length_cons, List.length_nil]); omega) | simp) (Mem.sub g2 (.cons_cons _ (.cons_cons _ (.cons_cons _ (.cons_cons _ (.cons_cons _ .slnil)))))) hres) rfl
       ·intro g5 h0 h2 i7 l7 i6 l4 i8 j4 f6 f9 e2 e3 f4 g0 e5 e1 e9 f2 e0 e4 m1 o0 m5 hres
        refine em (cy (cy (au (aw (bN dp rfl rfl (mV rfl (br (cx ?_))))))))
        have hbd := dc f3
        have hinc : wr (a0 + 1) = a0 + 1 := cv (by omega) (by omega)
        erw [hinc]
        exact wC (ih  f6 f9 e2 e3 f4 g0 e5 e1 e9 f2 e0 e4 (by omega) (by omega) (by first | omega | (simp only [List.length_append, List.length_cons, List.length_nil]; omega)) (by first | omega | (simp only [List.length_append, List.length_cons, List.length_nil]; omega)) (by first | omega | (simp only [List.length_append, List.length_cons, List.length_nil]; omega)) (by first | omega | (simp only [List.length_append, List.length_cons, List.length_nil]; omega)) (Mem.sub m5 (.cons _ (.cons_cons _ (.cons_cons _ (.cons_cons _ (.cons_cons _ .slnil)))))) hres) rfl
      ·refine sR (bN dj rfl rfl (mV rfl (nS ?_)))
       refine bz hres rfl ?_ ?_ <;> clear hres <;> intro c hres <;> try simp only [qa, qaD] at c
       ·refine aw (af (ba rfl) (af (bt (k := 4) b8 rfl rfl (mk1 (gj (k := 1) b8 rfl b9).2)) (af (ba rfl) (af (bt (k := 0) b8 rfl rfl (aq.g_Register d3)) (af (v := .fs true [vi ((ix a1 a0).Register)]) (fk rfl (all_cons rfl iv)) ?_)))))
        have m2 : (tSl tI).R ([(ix a1 a0).Register] : List Int) (.fs true [vi ((ix a1 a0).Register)]) := nk ⟨rfl, trivial⟩ (by simp)
        obtain ⟨d7, l0, g9⟩ := lc (t := tI) (h := d2) m2
        have j1 : fits (a3.length + d7.length) 8 = true := by rw [All2.length_eq c3, All2.length_eq g9]; (try simp only [List.length_cons, List.length_nil]); exact jb (by first | omega | (have hj := jot (by assumption) (by assumption); have hk := bo_h (l := a1) (k := a0) (by assumption) (by omega) (by omega) (by omega); have k8 := hs _ hk.1 hk.2; first | omega | (simp only [List.length_append, List.length_cons, List.length_nil]; omega))) (by first | omega | (have hj := jot (by assumption) (by assumption); have hk := bo_h (l := a1) (k := a0) (by assumption) (by omega) (by omega) (by omega); have k8 := hs _ hk.1 hk.2; first | omega | (simp only [List.length_append, List.length_cons, List.length_nil]; omega)))
        refine jd (k := 1) (es := a3) (news := d7) b8 rfl rfl rfl b9 b3 l0 j1 (fun h4 o5 k7 j0 k6 => ?_)
        have l6 : All2 tI.R (a8 ++ ([(ix a1 a0).Register] : List Int)) (a3 ++ d7) := All2.app c3 g9
        have j3 : (a8 ++ ([(ix a1 a0).Register] : List Int)).length ≤ 4611686018427387904 := by rw [← All2.length_eq l6, List.length_append]; exact gz j1
        refine af (ba rfl) ?_
        refine iq (k := 4) (v := h4) k6 rfl rfl rfl (gj (k := 1) k6 rfl k7).1 rfl (by first | decide | (simp only [List.length_cons, List.length_nil]; omega) | simp) (fun m3 h6 => ?_)
        replace h6 : Mem m3 [⟨.op d0 d1 0, 135, 7, [d4]⟩, ⟨h4, 3, 1, (a3 ++ d7)⟩, ⟨a7, 3, 1, a4⟩, ⟨a5, 87, 2, a2⟩, ⟨.op c5 c6 0, 157, 3, [.agg [a5, a7, h4]]⟩] := h6
        refine br (cy (cy (au (aw (bN dp rfl rfl (mV rfl (br (cx ?_))))))))
        have hbd := dc f3
        have hinc : wr (a0 + 1) = a0 + 1 := cv (by omega) (by omega)
        erw [hinc]
        exact wC (ih  l6 k7 j0 j3 c2 b7 b2 b5 c4 c1 b1 b4 (by omega) (by omega) (by first | omega | (simp only [List.length_append, List.length_cons, List.length_nil]; omega)) (by first | omega | (simp only [List.length_append, List.length_cons, List.length_nil]; omega)) (by first | omega | (simp only [List.length_append, List.length_cons, List.length_nil]; omega)) (by first | omega | (simp only [List.length_append, List.length_cons, List.length_nil]; omega)) (Mem.sub h6 (.cons _ (.cons_cons _ (.cons_cons _ (.cons_cons _ (.cons_cons _ .slnil)))))) hres) rfl
       ·refine az (cy (cy (au (aw (bN dp rfl rfl (mV rfl (br (cx ?_))))))))
        have hbd := dc f3
        have hinc : wr (a0 + 1) = a0 + 1 := cv (by omega) (by omega)
        erw [hinc]
        exact wC (ih  c3 b9 b3 b6 c2 b7 b2 b5 c4 c1 b1 b4 (by omega) (by omega) (by first | omega | (simp only [List.length_append, List.length_cons, List.length_nil]; omega)) (by first | omega | (simp only [List.length_append, List.length_cons, List.length_nil]; omega)) (by first | omega | (simp only [List.length_append, List.length_cons, List.length_nil]; omega)) (by first | omega | (simp only [List.length_append, List.length_cons, List.length_nil]; omega)) (Mem.sub b8 (.cons _ (.cons_cons _ (.cons_cons _ (.cons_cons _ (.cons_cons _ .slnil)))))) hres) rfl
     ·intro J
      refine bz hres rfl ?_ ?_ <;> clear hres <;> intro f7 hres <;> have i3 := f7 <;> try simp only [qa, qaD] at i3
      ·refine az ?_
       refine au (wC (J _ (ai3 f7).symm _ (Mem.sub c9 (.cons_cons _ (.cons_cons _ (.cons_cons _ (.cons_cons _ (.cons_cons _ .slnil)))))) hres) rfl)
      ·refine aw (bN dj rfl rfl (mV rfl (br ?_)))
       refine au (wC (J _ (ai8 f7).symm _ (Mem.sub c9 (.cons_cons _ (.cons_cons _ (.cons_cons _ (.cons_cons _ (.cons_cons _ .slnil)))))) hres) rfl)
   ·intro J
    refine bz hres rfl ?_ ?_ <;> clear hres <;> intro e8 hres <;> have i5 := e8 <;> try simp only [qa, qaD] at i5
    ·refine az ?_
     refine au (wC (J _ (ai3 e8).symm _ (Mem.sub f8 (.cons_cons _ (.cons_cons _ (.cons_cons _ (.cons_cons _ (.cons_cons _ .slnil)))))) hres) rfl)
    ·refine aw (bN dj rfl rfl (mV rfl (br ?_)))
     refine au (wC (J _ (ai8 e8).symm _ (Mem.sub f8 (.cons_cons _ (.cons_cons _ (.cons_cons _ (.cons_cons _ (.cons_cons _ .slnil)))))) hres) rfl)
  ·exfalso
   try simp only [qa, qaD] at d8
   omega

theorem cu5 {x0 : ab} {x1 : Int} {v0 : PV} (r0 : ab.t.R x0 v0) (hs : SmH x0) : ∃ c0, ∃ c1, ∃ c2, FnR Tryz.prog 39 [v0, vi x1] (.tup [c0, c1, c2]) ∧ (tSl aa.t).R (fu x0 x1).1 c0 ∧ (tSl tI).R (fu x0 x1).2.1 c1 ∧ (tSl tI).R (fu x0 x1).2.2 c2 := by
 obtain ⟨res, hres⟩ : ∃ res, fu x0 x1 = res := ⟨_, rfl⟩
 suffices H : RC Tryz.prog cb5 [] (QR Tryz.prog [(4, none), (5, none), (6, none)] (RF39 res)) (argE 0 [v0, vi x1]) ⟨0, []⟩ by
  rw [hres]
  obtain ⟨r, h1, c0, c1, c2, rfl, h9, h7, h5⟩ := fnE bu0 (by simp) H
  exact ⟨c0, c1, c2, h1, h9, h7, h5⟩
 unfold fu at hres
 refine sR (af (dn rfl (TR.cnt ab.t r0)) (af (v := nilS) (ax rfl) (af (v := nilS) (ax rfl) (af (v := nilS) (ax rfl) (nR ?_)))))
 refine ek (x := .agg [nilS, nilS, nilS]) (Mem.nil ⟨0, []⟩) rfl rfl (fun f7 g3 i0 g6 => ?_)
 refine nS (ap (sR (lD r0 rfl rfl rfl (mV rfl ?_))))
 obtain ⟨d8, a3, hres⟩ := bp hres
 obtain ⟨h4, g4, d6⟩ := ba3 (x1 := x1) r0 
 rw [a3] at d6
 have d9 : BO x0 d8 := ti a3
 have e3 : d8.length ≤ 12 := (ti a3).1
 refine cL g4 rfl rfl (ak (TR.clo ab.t r0) (ak rfl bd)) (af (cq rfl (ci d6 Tryz.underlying95 _)) (mI rfl (nS (bf ?_))))
 have g0 := nz (sz := 2) (es := []) g6 87 (.inl ⟨none, rfl, rfl⟩) (by simp)
 have f8 := nz (sz := 1) (es := []) g0 3 (.inl ⟨none, rfl, rfl⟩) (by simp)
 have g1 := nz (sz := 1) (es := []) f8 3 (.inl ⟨none, rfl, rfl⟩) (by simp)
 refine wC (uz r0 hs a3 d6 d9 e3 ?_  aL rfl (.inl rfl) (by first | decide | simp) aL rfl (.inl rfl) (by first | decide | simp) aL rfl (.inl rfl) (by first | decide | simp) rfl (by omega) (by first | omega | ((try dsimp only); (try simp only [List.length_append, List.length_cons, List.length_nil]); omega) | simp) (by first | omega | ((try dsimp only); (try simp only [List.length_append, List.length_cons, List.length_nil]); omega) | simp) (by first | omega | ((try dsimp only); (try simp only [List.length_append, List.length_cons, List.length_nil]); omega) | simp) (by first | omega | ((try dsimp only); (try simp only [List.length_append, List.length_cons, List.length_nil]); omega) | simp) (Mem.sub g1 (.cons_cons _ (.cons_cons _ (.cons_cons _ (.cons_cons _ .slnil))))) hres) rfl
 ·intro b2 a9 b1 b0 a0 b5 a2 a7 a1 c4 c5 a6 a8 b9 b6 b3 b4 c3 b8 a5 a4 f2 g5 f9 hres
  refine em (au (ap (ep ?_)))
  have f6 : Mem g5 [⟨.op f7 g3 0, 157, 3, [.agg [a1, a2, a0]]⟩, ⟨a1, 87, 2, a7⟩, ⟨a2, 3, 1, b5⟩, ⟨a0, 3, 1, b0⟩] := (Mem.front (k := 3) (Mem.front (k := 2) (Mem.front (k := 1) (Mem.front (k := 0) f9 rfl) rfl) rfl) rfl)
  obtain ⟨h8, e0, hres⟩ := bp hres
  obtain ⟨h3, h6, e2, d5⟩ := be0 (x0 := ({ fields := b1, headers := a9, registers := b2 } : bq)) c3 b8 a4 a5 b9 b6 b4 b3 c4 c5 a8 a6 f6 (by first | omega | ((try dsimp only); (try simp only [List.length_append, List.length_cons, List.length_nil]); omega) | simp)
  rw [e0] at d5
  obtain ⟨e8, e9, f3, e6, f4, f5, d7, c8, d2, d4, f1, d3, c9, d1, f0, d0, c6, c7, e7, b7⟩ := d5
  replace b7 := b7.symm; subst b7
  refine fx rfl rfl e2 (co (xT rfl rfl (cp (co (xT rfl rfl (cp (co (xT rfl rfl ?_))))))))
  refine cp (co (mV rfl (cp (co (mV rfl (cp (co (mV rfl ?_))))))))
  refine cp (ju (au ?_))
  obtain ⟨g7, e4, h2⟩ := ov (P := Tryz.prog) (k := 0) (t := aa.t) d7 rfl d2 c8 (Nat.le_trans d4 (by decide))
  obtain ⟨h0, e5, g8⟩ := ov (P := Tryz.prog) (k := 1) (t := tI) d7 rfl c9 d3 (Nat.le_trans d1 (by decide))
  obtain ⟨g9, e1, g2⟩ := ov (P := Tryz.prog) (k := 2) (t := tI) d7 rfl c6 d0 (Nat.le_trans c7 (by decide))
  subst hres
  exact fw (.tmp rfl (.tmp rfl (.tmp rfl .nil))) (ar1 (rj e4 (rj e5 (rj e1 aw1))) (ak e4.1 (ak e5.1 (ak e1.1 bd)))) ⟨g7, h0, g9, rfl, h2, g8, g2⟩

def RF18 (res : (List Int)) (r : PV) : Prop := (tSl tI).R res r
theorem vc {S : List Fr} {res : (List Int)} {x0 : ab} {x1 : ct} {e0 : bh × Bool} {e7 e8 e6 e9 e5 e4 e3 e2 g9 : PV} {f5 f0 : Nat} (hA : AB x0) (i4 : fy x0 x1 = e0) (i1 : e0.1.Keys.length ≤ 24 ∧ e0.1.Actions.length ≤ 24) (h5 : (!e0.2) = false) (g8 : (tSl tI).R e0.1.Actions g9) (g7 : ab.t.R x0 (.agg [vs x0.Name, e7, e8, e6, e9, e5, e4, e3, e2])) {K0 : ai → (List Int)}
  (i8 : ∀ {zE109 : ai} {a4 a2 a0 a5 a6 a7 a3 a1 b4 : PV} {b7 : List PV} (b2 : (tSl bg.t).R zE109.p.Headers a4) (b0 : (tSl ay.t).R zE109.p.Metadata a2) (a8 : (tSl cg.t).R zE109.p.Registers a0) (b1 : (tSl bc.t).R zE109.p.Actions a5) (b6 : (tSl bh.t).R zE109.p.Tables a6) (b5 : (tSl bm.t).R zE109.p.States a7) (b3 : (tSl aj.t).R zE109.p.Control a3) (a9 : (tSl tI).R zE109.p.Deparser a1) (c1 : All2 tI.R zE109.cells b7) (b8 : isL b4 = true) (c2 : zE109.cells.length ≤ 4611686018427387904) (b9 : Wri b4 b7) (j0 : zE109.cells.length ≤ 960000) {h : Heap} (M0 : Mem h [⟨b4, 3, 1, b7⟩, ⟨.op f5 f0 0, 118, 10, [.agg [vs zE109.p.Name, a4, a2, a0, a5, a6, a7, a3, a1, b4]]⟩]), K0 zE109 = res → PX Tryz.prog 0 S (QR Tryz.prog [(4, none)] (RF18 res)) [(7, .op f5 f0 0)] h) :
  ∀ {m : Nat} {d9 : Int} {zE109 : ai} {a4 a2 a0 a5 a6 a7 a3 a1 b4 : PV} {b7 : List PV} (b2 : (tSl bg.t).R zE109.p.Headers a4) (b0 : (tSl ay.t).R zE109.p.Metadata a2) (a8 : (tSl cg.t).R zE109.p.Registers a0) (b1 : (tSl bc.t).R zE109.p.Actions a5) (b6 : (tSl bh.t).R zE109.p.Tables a6) (b5 : (tSl bm.t).R zE109.p.States a7) (b3 : (tSl aj.t).R zE109.p.Control a3) (a9 : (tSl tI).R zE109.p.Deparser a1) (c1 : All2 tI.R zE109.cells b7) (b8 : isL b4 = true) (c2 : zE109.cells.length ≤ 4611686018427387904) (b9 : Wri b4 b7) (i5 : m = Int.toNat ((e0.1.Actions.length : Int) - d9)) (h4 : 0 ≤ d9) (f9 : (zE109.cells.length : Int) ≤ 39000 * d9) (g2 : d9 ≤ 24) {h : Heap} (M0 : Mem h [⟨b4, 3, 1, b7⟩, ⟨.op f5 f0 0, 118, 10, [.agg [vs zE109.p.Name, a4, a2, a0, a5, a6, a7, a3, a1, b4]]⟩]), jo x0 e0 K0 m d9 zE109 = res → RC Tryz.prog (.loop cb2) S (QR Tryz.prog [(4, none)] (RF18 res)) [(24, vi d9), (23, vi (e0.1.Actions.length : Int)), (22, g9), (7, .op f5 f0 0), (2, .fp (.agg [vs x0.Name, e7, e8, e6, e9, e5, e4, e3, e2]))] h := by
 have g5 := h5
 try simp only [qa, qaD] at g5
 intro m
 induction m with
 | zero =>
  intro d9 zE109 a4 a2 a0 a5 a6 a7 a3 a1 b4 b7 b2 b0 a8 b1 b6 b5 b3 a9 c1 b8 c2 b9 i5 h4 f9 g2 h M0 hres
  rw [jo] at hres
  refine cj (sR (bN cn rfl rfl (nS (ap ?_))))
  refine cd rfl ?_ ?_ <;> intro c <;> try simp only [qa, qaD] at c
  ·omega
  refine dl (eh (de ?_))
  exact wP (i8 (zE109 := ({ p := zE109.p, cells := zE109.cells } : ai)) b2 b0 a8 b1 b6 b5 b3 a9 c1 b8 c2 b9 (by omega) (Mem.sub M0 (.cons_cons _ (.cons_cons _ .slnil))) hres) rfl
 | succ m ih =>
  intro d9 zE109 a4 a2 a0 a5 a6 a7 a3 a1 b4 b7 b2 b0 a8 b1 b6 b5 b3 a9 c1 b8 c2 b9 i5 h4 f9 g2 h M0 hres
  rw [jo] at hres
  refine cj (sR (bN cn rfl rfl (nS (ap ?_))))
  refine cd rfl ?_ ?_ <;> intro c <;> try simp only [qa, qaD] at c
  rotate_left
  ·omega
  refine az (au (ap (bf (sR (af (bn rfl rfl (slI g8 (by omega) (by omega))) (lR rfl rfl rfl (mV rfl (nS ?_))))))))
  refine ep (co (mV rfl (cp (co (lD g7 rfl rfl rfl (cp (co (mV rfl ?_))))))))
  refine cp (co ?_)
  obtain ⟨f2, g0, hres⟩ := bp hres
  obtain ⟨i6, i9, i7, i0, h0, h1, h6⟩ := cu5 (x1 := (ix e0.1.Actions d9)) g7 (by exact hA.1)
  rw [g0] at h0 h1 h6
  have i2 : f2.1.length ≤ 13000 ∧ f2.2.1.length ≤ 13000 ∧ f2.2.2.length ≤ 13000 := uh hA.1 g0
  refine cL i0 rfl rfl (ak (TR.clo ab.t g7) (ak rfl bd)) (cp (co (xT rfl rfl (cp (co (xT rfl rfl (cp (co ?_))))))))
  refine xT rfl rfl (cp ?_)
  have h7 : Mem h [⟨.op f5 f0 0, 118, 10, [.agg [vs zE109.p.Name, a4, a2, a0, a5, a6, a7, a3, a1, b4]]⟩, ⟨b4, 3, 1, b7⟩] := (Mem.front (k := 1) (Mem.front (k := 0) M0 rfl) rfl)
  obtain ⟨g6, g1, hres⟩ := bp hres
  obtain ⟨i3, h9, h2, g4⟩ := ao8 (x0 := ({ p := zE109.p, cells := zE109.cells } : ai)) (x1 := f2.1) (x2 := f2.2.1) (x3 := f2.2.2) h0 h1 h6 b2 b0 a8 b1 b6 b5 b3 a9 c1 b8 c2 b9 h7 (by first | omega | ((try dsimp only); (try simp only [List.length_append, List.length_cons, List.length_nil]); omega) | simp)
  rw [g1] at g4
  obtain ⟨d5, c8, c6, d2, d8, d7, d3, c9, e1, f3, h8, d0, c5, c3, c7, d4, d6, d1, c4, f6, f7, f4, f1, f8⟩ := g4
  replace f8 := f8.symm; subst f8
  refine fx rfl rfl h2 ?_
  have g3 := ac0 g1; try simp only [List.length_cons, List.length_nil] at g3; try dsimp only at g3
  refine ju (cy (au (aw (bN dp rfl rfl (mV rfl (br ?_))))))
  have h3 : Mem h9 [⟨e1, 3, 1, f3⟩, ⟨.op f5 f0 0, 118, 10, [.agg [vs g6.p.Name, d5, c8, c6, d2, d8, d7, d3, c9, e1]]⟩] := (Mem.front (k := 1) (Mem.front (k := 0) h8 rfl) rfl)
  refine cx ?_
  have hbd := dc g8
  have hinc : wr (d9 + 1) = d9 + 1 := cv (by omega) (by omega)
  erw [hinc]
  exact wC (ih (zE109 := ({ p := g6.p, cells := g6.cells } : ai)) d0 c5 c3 c7 d4 d6 d1 c4 f6 f7 f4 f1 (by omega) (by omega) (by first | omega | ((try dsimp only); (try simp only [List.length_append, List.length_cons, List.length_nil]); omega) | simp) (by first | omega | ((try dsimp only); (try simp only [List.length_append, List.length_cons, List.length_nil]); omega) | simp) (Mem.sub h3 (.cons_cons _ (.cons_cons _ .slnil))) hres) rfl

theorem da5 {x0 : ab} {x1 : ct} {v0 v1 : PV} (r0 : ab.t.R x0 v0) (r1 : ct.t.R x1 v1) (hA : AB x0) : ∃ r, FnR Tryz.prog 18 [v0, v1] r ∧ (tSl tI).R (md x0 x1) r := by
 refine fnT (R := RF18) bm7 rfl fun res hres => ?_
 unfold md at hres
 refine sR (af (dn rfl (TR.cnt ab.t r0)) (af (dn rfl (TR.cnt ct.t r1)) (af (v := nilS) (ax rfl) (nR (lD r0 rfl rfl rfl (lD r1 rfl rfl rfl ?_))))))
 obtain ⟨f3, e1, hres⟩ := bp hres
 obtain ⟨f4, f6, e8⟩ := bt6  r0 r1 
 rw [e1] at f6 e8
 have f0 : f3.1.Keys.length ≤ 24 ∧ f3.1.Actions.length ≤ 24 := aa2 e1 hA
 refine cL f6 rfl rfl (ak (TR.clo ab.t r0) (ak (TR.clo ct.t r1) bd)) (mV rfl (xT rfl rfl (xT rfl rfl ?_)))
 refine ek (x := .agg [vs [], nilS, nilS, vi 0, nilS, vi 0]) (Mem.nil ⟨0, []⟩) rfl rfl (fun g7 h2 h9 h6 => ?_)
 refine dy (k := 0) (v := f4) h6 rfl rfl rfl (TR.cnt bh.t e8) (fun g5 e7 => ?_)
 replace e7 : Mem g5 [⟨.op g7 h2 0, 59, 6, [f4]⟩] := e7
 refine mV rfl (nS (ap (sR (mV rfl (af (kp rfl) (nS ?_))))))
 refine bz hres rfl ?_ ?_ <;> clear hres <;> intro e5 hres <;> have e9 := e5 <;> try simp only [qa, qaD] at e9
 ·refine sR (af (v := nilS) (ax rfl) (nS ?_))
  exact rR hres rfl (TR.clo (tSl tI) fj) fj
 ·refine az (au (sR (lD r0 rfl rfl rfl ?_)))
  obtain ⟨c2, c3, c1, c4, b9, b8, b7, b6, g6, d3, d4, d9, d2, d6, d8, d7, d5⟩ := r0
  subst g6
  refine af (v := .agg [vs x0.Name, c2, c3, c1, c4, b9, b8, b7, b6, nilS]) (lr (cs := [vs x0.Name, c2, c3, c1, c4, b9, b8, b7, b6, nilS]) rfl rfl) ?_
  refine ak8 (x := .agg [vs x0.Name, c2, c3, c1, c4, b9, b8, b7, b6, nilS]) e7 rfl rfl (fun h1 g2 i1 f7 => ?_)
  refine mV rfl (nS (ap (sR (af (ba rfl) ?_))))
  obtain ⟨i0, g3, f1⟩ := bh.g_Actions e8
  refine af (bt (k := 1) f7 rfl rfl g3) (af (cq rfl (ci f1 Tryz.underlying29 _)) (mI rfl (nS (bf ?_))))
  have g8 := nz (sz := 1) (es := []) f7 3 (.inl ⟨none, rfl, rfl⟩) (by simp)
  have h7 : ab.t.R x0 (.agg [vs x0.Name, c2, c3, c1, c4, b9, b8, b7, b6]) := ⟨c2, c3, c1, c4, b9, b8, b7, b6, rfl, d3, d4, d9, d2, d6, d8, d7, d5⟩
  refine wC (vc hA e1 f0 e5 f1 h7 ?_  (zE109 := ({ p := x0, cells := ([] : List Int) } : ai)) d3 d4 d9 d2 d6 d8 d7 d5 aL rfl (by first | decide | simp) (.inl rfl) rfl (by omega) (by first | omega | ((try dsimp only); (try simp only [List.length_append, List.length_cons, List.length_nil]); omega) | simp) (by first | omega | ((try dsimp only); (try simp only [List.length_append, List.length_cons, List.length_nil]); omega) | simp) (Mem.sub g8 (.cons_cons _ (.cons_cons _ (.cons _ .slnil)))) hres) rfl
  ·intro c5 b0 a8 a3 a9 b4 b5 b3 a5 c6 c9 a6 a1 a0 a7 b1 b2 a4 a2 c7 d1 c8 d0 g1 h0 g4 hres
   refine em (au (ap (ep (co (mV rfl (cp ?_))))))
   have h5 : Mem h0 [⟨.op h1 g2 0, 118, 10, [.agg [vs c5.p.Name, b0, a8, a3, a9, b4, b5, b3, a5, c6]]⟩, ⟨c6, 3, 1, c9⟩] := (Mem.front (k := 1) (Mem.front (k := 0) g4 rfl) rfl)
   obtain ⟨i4, f5, hres⟩ := bp hres
   obtain ⟨h8, i3, f2, e6⟩ := aw3 (x0 := ({ p := c5.p, cells := c5.cells } : ai)) a6 a1 a0 a7 b1 b2 a4 a2 c7 d1 c8 d0 h5 (by first | omega | ((try dsimp only); (try simp only [List.length_append, List.length_cons, List.length_nil]); omega) | simp)
   rw [f5] at e6
   obtain ⟨g0, f8, h4, e4, e2, e3, f9, e0⟩ := e6
   replace e0 := e0.symm; subst e0
   refine fx rfl rfl f2 (co (mV rfl (cp (ju (au ?_)))))
   obtain ⟨i2, h3, g9⟩ := ov (P := Tryz.prog) (k := 0) (t := tI) h4 rfl e2 e4 (Nat.le_trans e3 (by decide))
   subst hres
   exact fw (.tmp rfl .nil) h3 g9

def RF40 (res : (List aa) × (List Int) × (List Int)) (r : PV) : Prop := ∃ c0, ∃ c1, ∃ c2, r = .tup [c0, c1, c2] ∧ (tSl aa.t).R res.1 c0 ∧ (tSl tI).R res.2.1 c1 ∧ (tSl tI).R res.2.2 c2
theorem wx {S : List Fr} {res : (List aa) × (List Int) × (List Int)} {x0 : ab} {x1 : Int} {d5 : Int × Int} {a0 : Int} {b1 : am} {a8 a7 : Bool} {v0 d9 b6 : PV} {a9 b2 b3 b0 : Nat} (r0 : ab.t.R x0 v0) (hs : SmH x0) (g2 : li x0 x1 = d5) (d7 : (!decide (d5.2 = 0)) = false) (g9 : 0 ≤ a0) (f7 : (b1.Fields.length : Int) ≤ 1001 * a0) (g1 : (b1.Headers.length : Int) ≤ 1001 * a0) (f8 : (b1.Registers.length : Int) ≤ 1001 * a0) (e0 : (decide (a0 < (((ix x0.Actions x1).Body).length : Int))) = true) (d1 : aq.t.R (ix ((ix x0.Actions x1).Body) a0) b6) (g3 : a8 = (if (decide (((ix ((ix x0.Actions x1).Body) a0).Kind) = 1)) = true then (decide (((ix ((ix x0.Actions x1).Body) a0).Kind) = 1)) else (decide (((ix ((ix x0.Actions x1).Body) a0).Kind) = 4)))) (e1 : a8 = false) (g0 : a7 = (if (decide (((ix ((ix x0.Actions x1).Body) a0).Kind) = 2)) = true then (decide (((ix ((ix x0.Actions x1).Body) a0).Kind) = 2)) else (decide (((ix ((ix x0.Actions x1).Body) a0).Kind) = 3)))) (d2 : a7 = true) {K3 : am → ((List aa) × (List Int) × (List Int))}
  (g8 : ∀ {a1 : am} {a2 : PV} (a3 : am.t.R a1 a2) (h3 : (a1.Fields.length : Int) ≤ 1001 * a0 + 1000 ∧ (a1.Headers.length : Int) ≤ 1001 * a0 ∧ (a1.Registers.length : Int) ≤ 1001 * a0) {h : Heap} (M0 : Mem h [⟨.op b3 b0 0, 135, 7, [b6]⟩, ⟨.op a9 b2 0, 162, 3, [a2]⟩]), K3 a1 = res → PX Tryz.prog 3 S (QR Tryz.prog [(4, none), (5, none), (6, none)] (RF40 res)) [(2, .fp v0), (9, .op a9 b2 0), (10, d9), (11, vi a0), (12, .op b3 b0 0)] h) :
  ∀ {m : Nat} {a4 : Int} {a1 : am} {a2 : PV} (a3 : am.t.R a1 a2) (f9 : m = Int.toNat ((((ix x0.Headers ((ix ((ix x0.Actions x1).Body) a0).Header)).Fields).length : Int) - a4)) (d8 : 0 ≤ a4) (c1 : (a1.Fields.length : Int) ≤ 1001 * a0 + a4) (c5 : (a1.Headers.length : Int) ≤ 1001 * a0) (c3 : (a1.Registers.length : Int) ≤ 1001 * a0) (c2 : a4 ≤ 1000) (b9 : a0 ≤ 12) {h : Heap} (M0 : Mem h [⟨.op b3 b0 0, 135, 7, [b6]⟩, ⟨.op a9 b2 0, 162, 3, [a2]⟩]), kd x0 x1 a0 K3 m a4 a1 = res → RC Tryz.prog (.loop bz7) S (QR Tryz.prog [(4, none), (5, none), (6, none)] (RF40 res)) [(13, vi a4), (12, .op b3 b0 0), (11, vi a0), (10, d9), (9, .op a9 b2 0), (2, .fp v0)] h := by
 have d0 := d7
 try simp only [qa, qaD] at d0
 have c8 := e0
 try simp only [qa, qaD] at c8
 have c6 := e1
 try simp only [qa, qaD] at c6
 have c9 := d2
 try simp only [qa, qaD] at c9
 intro m
 induction m with
 | zero =>
  intro a4 a1 a2 a3 f9 d8 c1 c5 c3 c2 b9 h M0 hres
  rw [kd] at hres
  refine cj (ap (sR (mV rfl (gL (ab.g_Headers r0) rfl rfl rfl fun g7 f2 => (af (ba rfl) (af (bt (k := 0) M0 rfl rfl (aq.g_Header d1)) ?_))))))
  obtain ⟨h2, e9, f5⟩ := dh (i := (ix ((ix x0.Actions x1).Body) a0).Header) f2 (by first | omega | (have hk := ck (by assumption) (by assumption); have hl := hk.2.1; omega) | (have hj := jot (by assumption) (by assumption); have hk := ck (by assumption) (by assumption); have hl := hk.2.1; have hh := bo_h hk.2 (k := a0) (by omega) (by omega) (by omega); omega)) (by first | omega | (have hk := ck (by assumption) (by assumption); have hl := hk.2.1; omega) | (have hj := jot (by assumption) (by assumption); have hk := ck (by assumption) (by assumption); have hl := hk.2.1; have hh := bo_h hk.2 (k := a0) (by omega) (by omega) (by omega); omega))
  refine af (bn rfl rfl e9) (gL (bg.g_Fields f5) rfl rfl rfl fun g5 e5 => (af (cq rfl (ci e5 Tryz.underlying23 _)) (bN cn rfl rfl (nS ?_))))
  refine cd rfl ?_ ?_ <;> intro c <;> try simp only [qa, qaD] at c
  ·omega
  refine dl (eh (de ?_))
  exact wP (g8 a3 (by omega) (Mem.sub M0 (.cons_cons _ (.cons_cons _ .slnil))) hres) rfl
 | succ m ih =>
  intro a4 a1 a2 a3 f9 d8 c1 c5 c3 c2 b9 h M0 hres
  rw [kd] at hres
  refine cj (ap (sR (mV rfl (gL (ab.g_Headers r0) rfl rfl rfl fun h0 f1 => (af (ba rfl) (af (bt (k := 0) M0 rfl rfl (aq.g_Header d1)) ?_))))))
  obtain ⟨g6, e8, f0⟩ := dh (i := (ix ((ix x0.Actions x1).Body) a0).Header) f1 (by first | omega | (have hk := ck (by assumption) (by assumption); have hl := hk.2.1; omega) | (have hj := jot (by assumption) (by assumption); have hk := ck (by assumption) (by assumption); have hl := hk.2.1; have hh := bo_h hk.2 (k := a0) (by omega) (by omega) (by omega); omega)) (by first | omega | (have hk := ck (by assumption) (by assumption); have hl := hk.2.1; omega) | (have hj := jot (by assumption) (by assumption); have hk := ck (by assumption) (by assumption); have hl := hk.2.1; have hh := bo_h hk.2 (k := a0) (by omega) (by omega) (by omega); omega))
  refine af (bn rfl rfl e8) (gL (bg.g_Fields f0) rfl rfl rfl fun h1 d4 => (af (cq rfl (ci d4 Tryz.underlying23 _)) (bN cn rfl rfl (nS ?_))))
  refine cd rfl ?_ ?_ <;> intro c <;> try simp only [qa, qaD] at c
  rotate_left
  ·omega
  refine az (au (ap (bf (aw (af (ba rfl) ?_)))))
  obtain ⟨g4, f3, d6⟩ := am.g_Fields a3
  refine af (bt (k := 1) M0 rfl rfl f3) (af (ba rfl) (af (bt (k := 0) M0 rfl rfl (aq.g_Header d1)) (mV rfl (af (v := .agg [vi ((ix ((ix x0.Actions x1).Body) a0).Header), vi a4]) (lr (cs := [vi ((ix ((ix x0.Actions x1).Body) a0).Header), vi a4]) rfl rfl) ?_))))
  obtain ⟨e6, c4, hres⟩ := bp hres
  obtain ⟨b7, f6, b5⟩ := ac2  d6 (show aa.t.R ({ Header := (ix ((ix x0.Actions x1).Body) a0).Header, Field := a4 } : aa) (.agg [vi ((ix ((ix x0.Actions x1).Body) a0).Header), vi a4]) from rfl) (by first | omega | (have hk := ck (by assumption) (by assumption); have hl := hk.2.1; omega) | ((try dsimp only); omega))
  rw [c4] at b5
  have d3 := AddField_len c4; try dsimp only at d3
  refine cL f6 rfl rfl (ak (TR.clo (tSl aa.t) d6) (ak (TR.clo aa.t (show aa.t.R ({ Header := (ix ((ix x0.Actions x1).Body) a0).Header, Field := a4 } : aa) (.agg [vi ((ix ((ix x0.Actions x1).Body) a0).Header), vi a4]) from rfl)) bd)) (af (ba rfl) ?_)
  obtain ⟨e4, a5, a6, f4, e2, b4, b8⟩ := a3
  subst f4
  refine iq (k := 1) (v := b7) M0 rfl rfl rfl (nj (TR.cnt (tSl aa.t) b5) (TR.agg (tSl aa.t) b5)) rfl (by first | decide | (simp only [List.length_cons, List.length_nil]; omega) | simp) (fun e7 c7 => ?_)
  replace c7 : Mem e7 [⟨.op b3 b0 0, 135, 7, [b6]⟩, ⟨.op a9 b2 0, 162, 3, [.agg [b7, a5, a6]]⟩] := c7
  refine br (cy (au (aw (mV rfl (bN dp rfl rfl (mV rfl (br (cx ?_))))))))
  have hbd := dc d4
  have hinc : wr (a4 + 1) = a4 + 1 := cv (by omega) (by omega)
  erw [hinc]
  exact wC (ih  (show am.t.R ({ Fields := e6, Headers := a1.Headers, Registers := a1.Registers } : am) (.agg [b7, a5, a6]) from ⟨b7, a5, a6, rfl, b5, b4, b8⟩) (by omega) (by omega) (by first | omega | ((try dsimp only); first | omega | (have hj := jot (by assumption) (by assumption); have hk := ck (by assumption) (by assumption); have hl := hk.2.1; have hh := bo_h hk.2 (k := a0) (by omega) (by omega) (by omega); have e3 := hs _ hh.1 hh.2; omega))) (by first | omega | ((try dsimp only); first | omega | (have hj := jot (by assumption) (by assumption); have hk := ck (by assumption) (by assumption); have hl := hk.2.1; have hh := bo_h hk.2 (k := a0) (by omega) (by omega) (by omega); have e3 := hs _ hh.1 hh.2; omega))) (by first | omega | ((try dsimp only); first | omega | (have hj := jot (by assumption) (by assumption); have hk := ck (by assumption) (by assumption); have hl := hk.2.1; have hh := bo_h hk.2 (k := a0) (by omega) (by omega) (by omega); have e3 := hs _ hh.1 hh.2; omega))) (by first | omega | ((try dsimp only); first | omega | (have hj := jot (by assumption) (by assumption); have hk := ck (by assumption) (by assumption); have hl := hk.2.1; have hh := bo_h hk.2 (k := a0) (by omega) (by omega) (by omega); have e3 := hs _ hh.1 hh.2; omega))) (by first | omega | ((try dsimp only); first | omega | (have hj := jot (by assumption) (by assumption); have hk := ck (by assumption) (by assumption); have hl := hk.2.1; have hh := bo_h hk.2 (k := a0) (by omega) (by omega) (by omega); have e3 := hs _ hh.1 hh.2; omega))) (Mem.sub c7 (.cons_cons _ (.cons_cons _ .slnil))) hres) rfl

theorem wl {S : List Fr} {res : (List aa) × (List Int) × (List Int)} {x0 : ab} {x1 : Int} {h1 : Int × Int} {v0 e4 : PV} {a5 a6 : Nat} (r0 : ab.t.R x0 v0) (hs : SmH x0) (g9 : li x0 x1 = h1) (e9 : (!decide (h1.2 = 0)) = false) (c4 : (tSl aq.t).R ((ix x0.Actions x1).Body) e4) {K0 : am → ((List aa) × (List Int) × (List Int))}
  (l1 : ∀ {a1 : am} {a2 : PV} (a3 : am.t.R a1 a2) {h : Heap} (M0 : Mem h [⟨.op a5 a6 0, 162, 3, [a2]⟩]), K0 a1 = res → PX Tryz.prog 0 S (QR Tryz.prog [(4, none), (5, none), (6, none)] (RF40 res)) [(9, .op a5 a6 0)] h) :
  ∀ {m : Nat} {a0 : Int} {a1 : am} {a2 : PV} (a3 : am.t.R a1 a2) (k7 : m = Int.toNat ((((ix x0.Actions x1).Body).length : Int) - a0)) (g3 : 0 ≤ a0) (c5 : (a1.Fields.length : Int) ≤ 1001 * a0) (c8 : (a1.Headers.length : Int) ≤ 1001 * a0) (c6 : (a1.Registers.length : Int) ≤ 1001 * a0) {h : Heap} (M0 : Mem h [⟨.op a5 a6 0, 162, 3, [a2]⟩]), gu x0 x1 K0 m a0 a1 = res → RC Tryz.prog (.loop cj8) S (QR Tryz.prog [(4, none), (5, none), (6, none)] (RF40 res)) [(11, vi a0), (10, e4), (9, .op a5 a6 0), (2, .fp v0)] h := by
 have g1 := e9
 try simp only [qa, qaD] at g1
 intro m
 induction m with
 | zero =>
  intro a0 a1 a2 a3 k7 g3 c5 c8 c6 h M0 hres
  rw [gu] at hres
  refine cj (ap (sR (mV rfl (mV rfl (af (cq rfl (ci c4 Tryz.underlying95 _)) (bN cn rfl rfl (nS ?_)))))))
  refine cd rfl ?_ ?_ <;> intro c <;> try simp only [qa, qaD] at c
  ·omega
  refine dl (eh (de ?_))
  exact wP (l1 a3 (Mem.sub M0 (.cons_cons _ .slnil)) hres) rfl
 | succ m ih =>
  intro a0 a1 a2 a3 k7 g3 c5 c8 c6 h M0 hres
  rw [gu] at hres
  refine cj (ap (sR (mV rfl (mV rfl (af (cq rfl (ci c4 Tryz.underlying95 _)) (bN cn rfl rfl (nS ?_)))))))
  refine cd rfl (fun c3 => ?_) (fun c3 => ?_)
  ·have hgo := hres
   have f8 := c3
   try simp only [qa, qaD] at f8
   refine az (au (ap (bf (sR (mV rfl (mV rfl ?_))))))
   obtain ⟨c2, j7, c1⟩ := dh (i := a0) c4 (by first | omega | (have hk := ck (by assumption) (by assumption); have hl := hk.2.1; omega) | (have hj := jot (by assumption) (by assumption); have hk := ck (by assumption) (by assumption); have hl := hk.2.1; have hh := bo_h hk.2 (k := a0) (by omega) (by omega) (by omega); omega)) (by first | omega | (have hk := ck (by assumption) (by assumption); have hl := hk.2.1; omega) | (have hj := jot (by assumption) (by assumption); have hk := ck (by assumption) (by assumption); have hl := hk.2.1; have hh := bo_h hk.2 (k := a0) (by omega) (by omega) (by omega); omega))
   refine af (bn rfl rfl j7) (lD c1 rfl rfl rfl ?_)
   refine ek (x := .agg [vi 0, vi 0, vi 0, vi 0, vi 0, nilS, nilS]) M0 rfl rfl (fun b9 b8 l4 i4 => ?_)
   refine dy (k := 0) (v := c2) i4 rfl rfl rfl (TR.cnt aq.t c1) (fun i5 d0 => ?_)
   replace d0 : Mem i5 [⟨.op b9 b8 0, 135, 7, [c2]⟩, ⟨.op a5 a6 0, 162, 3, [a2]⟩] := d0
   refine nR (af (ba rfl) (af (bt (k := 0) d0 rfl rfl (aq.g_Kind c1)) (nS (bf (ap (sR (bN dj rfl rfl (mV rfl ?_))))))))
   refine nS ?_
   obtain ⟨k0, h3, hres⟩ := bp hres
   refine lm (F := fun b S Q => ∀ (a8 : Bool) (f3 : a8 = (if (decide (((ix ((ix x0.Actions x1).Body) a0).Kind) = 1)) = true then (decide (((ix ((ix x0.Actions x1).Body) a0).Kind) = 1)) else (decide (((ix ((ix x0.Actions x1).Body) a0).Kind) = 4)))) (d2 : Heap) (a9 : Mem d2 [⟨.op b9 b8 0, 135, 7, [c2]⟩, ⟨.op a5 a6 0, 162, 3, [a2]⟩]), k0 a8 = res → RC Tryz.prog b S Q [(47, vb a8), (40, vi ((ix ((ix x0.Actions x1).Body) a0).Kind)), (12, .op b9 b8 0), (11, vi a0), (10, e4), (9, .op a5 a6 0), (2, .fp v0)] d2) ?_ ?_
   ·intro a8 f3 d2 a9 hres
    rw [← h3] at hres
    refine bz hres rfl ?_ ?_ <;> clear hres <;> intro f0 hres <;> have f4 := f0 <;> try simp only [qa, qaD] at f4
    ·refine aw (af (ba rfl) ?_)
     obtain ⟨k9, j6, h4⟩ := am.g_Fields a3
     refine af (bt (k := 1) a9 rfl rfl j6) (af (ba rfl) ?_)
     obtain ⟨k8, k4, h5⟩ := aq.g_Dst c1
     refine af (bt (k := 0) a9 rfl rfl k4) ?_
     obtain ⟨i8, e7, hres⟩ := bp hres
     obtain ⟨d3, k5, d5⟩ := ac2  h4 h5 (by first | omega | (have hk := ck (by assumption) (by assumption); have hl := hk.2.1; omega) | ((try dsimp only); omega))
     rw [e7] at d5
     have g5 := AddField_len e7; try dsimp only at g5
     refine cL k5 rfl rfl (ak (TR.clo (tSl aa.t) h4) (ak (TR.clo aa.t h5) bd)) (af (ba rfl) ?_)
     obtain ⟨i0, b0, b5, j9, i2, e2, e3⟩ := a3
     subst j9
     refine iq (k := 1) (v := d3) a9 rfl rfl rfl (nj (TR.cnt (tSl aa.t) d5) (TR.agg (tSl aa.t) d5)) rfl (by first | decide | (simp only [List.length_cons, List.length_nil]; omega) | simp) (fun k6 g2 => ?_)
     replace g2 : Mem k6 [⟨.op b9 b8 0, 135, 7, [c2]⟩, ⟨.op a5 a6 0, 162, 3, [.agg [d3, b0, b5]]⟩] := g2
     refine br (cy (cy (au (aw (mV rfl (bN dp rfl rfl (mV rfl (br ?_))))))))
     refine cx ?_
     have hbd := dc c4
     have hinc : wr (a0 + 1) = a0 + 1 := cv (by omega) (by omega)
     erw [hinc]
     exact wC (ih  (show am.t.R ({ Fields := i8, Headers := a1.Headers, Registers := a1.Registers } : am) (.agg [d3, b0, b5]) from ⟨d3, b0, b5, rfl, d5, e2, e3⟩) (by omega) (by omega) (by first | omega | ((try dsimp only); omega)) (by first | omega | ((try dsimp only); omega)) (by first | omega | ((try dsimp only); omega)) (Mem.sub g2 (.cons _ (.cons_cons _ .slnil))) hres) rfl
    ·refine ap (sR (bN dj rfl rfl (mV rfl (nS ?_))))
     obtain ⟨j4, g8, hres⟩ := bp hres
     refine lm (F := fun b S Q => ∀ (a7 : Bool) (e8 : a7 = (if (decide (((ix ((ix x0.Actions x1).Body) a0).Kind) = 2)) = true then (decide (((ix ((ix x0.Actions x1).Body) a0).Kind) = 2)) else (decide (((ix ((ix x0.Actions x1).Body) a0).Kind) = 3)))) (d1 : Heap) (b7 : Mem d1 [⟨.op b9 b8 0, 135, 7, [c2]⟩, ⟨.op a5 a6 0, 162, 3, [a2]⟩]), j4 a7 = res → RC Tryz.prog b S Q [(56, vb a7), (12, .op b9 b8 0), (11, vi a0), (10, e4), (9, .op a5 a6 0), (2, .fp v0)] d1) ?_ ?_
     ·intro a7 e8 d1 b7 hres
      rw [← g8] at hres
      refine bz hres rfl ?_ ?_ <;> clear hres <;> intro e6 hres <;> have f9 := e6 <;> try simp only [qa, qaD] at f9
      ·refine ap (sR (mI rfl (nS (bf ?_))))
       refine wC (wx r0 hs g9 e9 g3 c5 c8 c6 c3 c1 f3 f0 e8 e6 ?_  a3 rfl (by omega) (by first | omega | (have hk := ck (by assumption) (by assumption); have hl := hk.2.1; omega) | ((try dsimp only); omega)) (by first | omega | (have hk := ck (by assumption) (by assumption); have hl := hk.2.1; omega) | ((try dsimp only); omega)) (by first | omega | (have hk := ck (by assumption) (by assumption); have hl := hk.2.1; omega) | ((try dsimp only); omega)) (by first | omega | (have hk := ck (by assumption) (by assumption); have hl := hk.2.1; omega) | ((try dsimp only); omega)) (by first | omega | (have hk := ck (by assumption) (by assumption); have hl := hk.2.1; omega) | ((try dsimp only); omega)) (Mem.sub b7 (.cons_cons _ (.cons_cons _ .slnil))) hres) rfl
       ·intro a4 h0 b6 h8 l3 g0 hres
        refine em (au (aw (af (ba rfl) ?_)))
        obtain ⟨l2, j1, h2⟩ := am.g_Headers b6
        refine af (bt (k := 1) g0 rfl rfl j1) (af (ba rfl) (af (bt (k := 0) g0 rfl rfl (aq.g_Header c1)) ?_))
        obtain ⟨j3, f2, hres⟩ := bp hres
        obtain ⟨d7, j8, d8⟩ := sr (x1 := (ix ((ix x0.Actions x1).Body) a0).Header) h2 (by first | omega | (have hk := ck (by assumption) (by assumption); have hl := hk.2.1; omega))
        rw [f2] at d8
        have h6 := AddInt_len f2; try dsimp only at h6
        refine cL j8 rfl rfl (ak (TR.clo (tSl tI) h2) (ak rfl bd)) (af (ba rfl) ?_)
        obtain ⟨b1, i3, b4, i6, e5, i1, e0⟩ := b6
        subst i6
        refine iq (k := 1) (v := d7) g0 rfl rfl rfl (nj (TR.cnt (tSl tI) d8) (TR.agg (tSl tI) d8)) rfl (by first | decide | (simp only [List.length_cons, List.length_nil]; omega) | simp) (fun i9 f5 => ?_)
        replace f5 : Mem i9 [⟨.op b9 b8 0, 135, 7, [c2]⟩, ⟨.op a5 a6 0, 162, 3, [.agg [b1, d7, b4]]⟩] := f5
        refine br (cy (cy (au (aw (mV rfl (bN dp rfl rfl (mV rfl (br ?_))))))))
        refine cx ?_
        have hbd := dc c4
        have hinc : wr (a0 + 1) = a0 + 1 := cv (by omega) (by omega)
        erw [hinc]
        exact wC (ih  (show am.t.R ({ Fields := a4.Fields, Headers := j3, Registers := a4.Registers } : am) (.agg [b1, d7, b4]) from ⟨b1, d7, b4, rfl, e5, d8, e0⟩) (by omega) (by omega) (by first | omega | ((try dsimp only); omega)) (by first | omega | ((try dsimp only); omega)) (by first | omega | ((try dsimp only); omega)) (Mem.sub f5 (.cons _ (.cons_cons _ .slnil))) hres) rfl
      ·refine aw (af (ba rfl) ?_)
       obtain ⟨l0, j5, g6⟩ := am.g_Registers a3
       refine af (bt (k := 1) b7 rfl rfl j5) (af (ba rfl) (af (bt (k := 0) b7 rfl rfl (aq.g_Register c1)) ?_))
       obtain ⟨j0, f1, hres⟩ := bp hres
       obtain ⟨e1, k3, d9⟩ := sr (x1 := (ix ((ix x0.Actions x1).Body) a0).Register) g6 (by first | omega | (have hk := ck (by assumption) (by assumption); have hl := hk.2.1; omega))
       rw [f1] at d9
       have g7 := AddInt_len f1; try dsimp only at g7
       refine cL k3 rfl rfl (ak (TR.clo (tSl tI) g6) (ak rfl bd)) (af (ba rfl) ?_)
       obtain ⟨b3, b2, h7, i7, d6, d4, h9⟩ := a3
       subst i7
       refine iq (k := 1) (v := e1) b7 rfl rfl rfl (nj (TR.cnt (tSl tI) d9) (TR.agg (tSl tI) d9)) rfl (by first | decide | (simp only [List.length_cons, List.length_nil]; omega) | simp) (fun j2 f6 => ?_)
       replace f6 : Mem j2 [⟨.op b9 b8 0, 135, 7, [c2]⟩, ⟨.op a5 a6 0, 162, 3, [.agg [b3, b2, e1]]⟩] := f6
       refine br (cy (cy (au (aw (mV rfl (bN dp rfl rfl (mV rfl (br ?_))))))))
       refine cx ?_
       have hbd := dc c4
       have hinc : wr (a0 + 1) = a0 + 1 := cv (by omega) (by omega)
       erw [hinc]
       exact wC (ih  (show am.t.R ({ Fields := a1.Fields, Headers := a1.Headers, Registers := j0 } : am) (.agg [b3, b2, e1]) from ⟨b3, b2, e1, rfl, d6, d4, d9⟩) (by omega) (by omega) (by first | omega | ((try dsimp only); omega)) (by first | omega | ((try dsimp only); omega)) (by first | omega | ((try dsimp only); omega)) (Mem.sub f6 (.cons _ (.cons_cons _ .slnil))) hres) rfl
     ·intro J
      refine bz hres rfl ?_ ?_ <;> clear hres <;> intro c9 hres <;> have g4 := c9 <;> try simp only [qa, qaD] at g4
      ·refine az ?_
       refine au (wC (J _ (ai3 c9).symm _ (Mem.sub a9 (.cons_cons _ (.cons_cons _ .slnil))) hres) rfl)
      ·refine aw (bN dj rfl rfl (mV rfl (br ?_)))
       refine au (wC (J _ (ai8 c9).symm _ (Mem.sub a9 (.cons_cons _ (.cons_cons _ .slnil))) hres) rfl)
   ·intro J
    refine bz hres rfl ?_ ?_ <;> clear hres <;> intro c7 hres <;> have f7 := c7 <;> try simp only [qa, qaD] at f7
    ·refine az ?_
     refine au (wC (J _ (ai3 c7).symm _ (Mem.sub d0 (.cons_cons _ (.cons_cons _ .slnil))) hres) rfl)
    ·refine aw (bN dj rfl rfl (mV rfl (br ?_)))
     refine au (wC (J _ (ai8 c7).symm _ (Mem.sub d0 (.cons_cons _ (.cons_cons _ .slnil))) hres) rfl)
  ·exfalso
   try simp only [qa, qaD] at c3
   omega

theorem db2 {x0 : ab} {x1 : Int} {v0 : PV} (r0 : ab.t.R x0 v0) (hs : SmH x0) : ∃ c0, ∃ c1, ∃ c2, FnR Tryz.prog 40 [v0, vi x1] (.tup [c0, c1, c2]) ∧ (tSl aa.t).R (ly x0 x1).1 c0 ∧ (tSl tI).R (ly x0 x1).2.1 c1 ∧ (tSl tI).R (ly x0 x1).2.2 c2 := by
 obtain ⟨res, hres⟩ : ∃ res, ly x0 x1 = res := ⟨_, rfl⟩
 suffices H : RC Tryz.prog cp4 [] (QR Tryz.prog [(4, none), (5, none), (6, none)] (RF40 res)) (argE 0 [v0, vi x1]) ⟨0, []⟩ by
  rw [hres]
  obtain ⟨r, h1, c0, c1, c2, rfl, d2, d3, d1⟩ := fnE cz5 (by simp) H
  exact ⟨c0, c1, c2, h1, d2, d3, d1⟩
 unfold ly at hres
 refine sR (af (dn rfl (TR.cnt ab.t r0)) (af (v := nilS) (ax rfl) (af (v := nilS) (ax rfl) (af (v := nilS) (ax rfl) (nR (lD r0 rfl rfl rfl (mV rfl ?_)))))))
 obtain ⟨d4, a2, hres⟩ := bp hres
 have b0 := bw3 (x1 := x1) r0 
 rw [a2] at b0
 refine cL b0 rfl rfl (ak (TR.clo ab.t r0) (ak rfl bd)) (mV rfl (xT rfl rfl (xT rfl rfl (mV rfl (mV rfl (nS (ap (sR ?_))))))))
 refine mV rfl (bN ks rfl rfl (nS ?_))
 refine bz hres rfl ?_ ?_ <;> clear hres <;> intro a1 hres <;> have a3 := a1 <;> try simp only [qa, qaD] at a3
 ·refine sR (af (v := nilS) (ax rfl) (af (v := nilS) (ax rfl) (af (v := nilS) (ax rfl) (nS ?_))))
  subst hres
  exact fw (.tmp rfl (.tmp rfl (.tmp rfl .nil))) (dq (show closed (.tup _) = true from (ak (TR.clo (tSl aa.t) fj) (ak (TR.clo (tSl tI) fj) (ak (TR.clo (tSl tI) fj) bd))))) ⟨nilS, nilS, nilS, rfl, fj, fj, fj⟩
 ·refine az (au (sR (af (v := .agg [nilS, nilS, nilS]) (lr (cs := [nilS, nilS, nilS]) rfl rfl) ?_)))
  refine ek (x := .agg [nilS, nilS, nilS]) (Mem.nil ⟨0, []⟩) rfl rfl (fun b3 b9 c9 c3 => ?_)
  refine dy (k := 0) (v := .agg [nilS, nilS, nilS]) c3 rfl rfl rfl rfl (fun c8 a4 => ?_)
  replace a4 : Mem c8 [⟨.op b3 b9 0, 162, 3, [.agg [nilS, nilS, nilS]]⟩] := a4
  refine nR (gL (ab.g_Actions r0) rfl rfl rfl fun d5 b6 => (mV rfl ?_))
  obtain ⟨d0, c4, b2⟩ := dh (i := x1) b6 (by first | omega | (have hk := ck (by assumption) (by assumption); have hl := hk.2.1; omega) | (have hj := jot (by assumption) (by assumption); have hk := ck (by assumption) (by assumption); have hl := hk.2.1; have hh := bo_h hk.2 (k := x11_) (by omega) (by omega) (by omega); omega)) (by first | omega | (have hk := ck (by assumption) (by assumption); have hl := hk.2.1; omega) | (have hj := jot (by assumption) (by assumption); have hk := ck (by assumption) (by assumption); have hl := hk.2.1; have hh := bo_h hk.2 (k := x11_) (by omega) (by omega) (by omega); omega))
  refine af (bn rfl rfl c4) (gL (bc.g_Body b2) rfl rfl rfl fun d6 b7 => (mV rfl (nS (ap (sR (mI rfl (nS (bf ?_))))))))
  refine wC (wl r0 hs a2 a1 b7 ?_  (show am.t.R ({ Fields := ([] : List aa), Headers := ([] : List Int), Registers := ([] : List Int) } : am) (.agg [nilS, nilS, nilS]) from ⟨nilS, nilS, nilS, rfl, fj, fj, fj⟩) rfl (by omega) (by first | omega | ((try dsimp only); (try simp only [List.length_append, List.length_cons, List.length_nil]); omega) | simp) (by first | omega | ((try dsimp only); (try simp only [List.length_append, List.length_cons, List.length_nil]); omega) | simp) (by first | omega | ((try dsimp only); (try simp only [List.length_append, List.length_cons, List.length_nil]); omega) | simp) (Mem.sub a4 (.cons_cons _ .slnil)) hres) rfl
  ·intro a6 a7 a0 d7 a5 hres
   refine em (au (sR (af (ba rfl) ?_)))
   obtain ⟨c5, c6, a9⟩ := am.g_Fields a0
   refine af (bt (k := 0) a5 rfl rfl c6) (af (ba rfl) ?_)
   obtain ⟨b8, c7, b1⟩ := am.g_Headers a0
   refine af (bt (k := 0) a5 rfl rfl c7) (af (ba rfl) ?_)
   obtain ⟨b4, b5, a8⟩ := am.g_Registers a0
   refine af (bt (k := 0) a5 rfl rfl b5) (mV rfl (mV rfl (mV rfl (nS ?_))))
   subst hres
   exact fw (.tmp rfl (.tmp rfl (.tmp rfl .nil))) (dq (show closed (.tup _) = true from (ak (TR.clo (tSl aa.t) a9) (ak (TR.clo (tSl tI) b1) (ak (TR.clo (tSl tI) a8) bd))))) ⟨c5, b8, b4, rfl, a9, b1, a8⟩

end Go.Proofs.YtmonnlkagniolaaGreat
