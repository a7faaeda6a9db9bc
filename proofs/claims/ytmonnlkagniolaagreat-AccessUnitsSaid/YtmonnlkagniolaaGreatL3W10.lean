/-
 The code of each function does what its plain program says.
-/
import Derived.Test.YtmonnlkagniolaaGreatL3W9
set_option linter.unusedVariables false
set_option linter.unusedSimpArgs false
set_option maxRecDepth 100000
namespace Go.Proofs.YtmonnlkagniolaaGreat
open Go Go.Pb Go.RowKit
def RF19 (res : (List Int)) (r : PV) : Prop := (tSl tI).R res r
theorem vq {S : List Fr} {res : (List Int)} {x0 : ab} {x1 : ct} {v0 b5 : PV} {a9 b2 : Nat} (r0 : ab.t.R x0 v0) (hs : x0.Headers.length ≤ 1000) (hA : AB x0) (c1 : ((decide (x1.Table < 0)) || (decide ((x0.Tables.length : Int) ≤ x1.Table))) = false) (a8 : bh.t.R (ix x0.Tables x1.Table) b5) {K0 : (List Int) → (List Int)}
  (d5 : ∀ {a5 : List Int} {b3 : PV} (b6 : (tSl tI).R a5 b3) {h : Heap} (M0 : Mem h [⟨.op a9 b2 0, 59, 6, [b5]⟩]), K0 a5 = res → PX Tryz.prog 0 S (QR Tryz.prog [(4, none)] (RF19 res)) [(5, b3)] h) :
  ∀ {m : Nat} {a5 : List Int} {a0 : Int} {b3 : PV} (b6 : (tSl tI).R a5 b3) (d1 : m = Int.toNat ((((ix x0.Tables x1.Table).Actions).length : Int) - a0)) (b7 : 0 ≤ a0) (a1 : (a5.length : Int) ≤ 39000 * a0) (a2 : a0 ≤ 24) {h : Heap} (M0 : Mem h [⟨.op a9 b2 0, 59, 6, [b5]⟩]), kn x0 x1 K0 m a5 a0 = res → RC Tryz.prog (.loop cf2) S (QR Tryz.prog [(4, none)] (RF19 res)) [(7, vi a0), (6, .op a9 b2 0), (5, b3), (2, .fp v0)] h := by
 have a6 := c1
 try simp only [qa, qaD] at a6
 intro m
 induction m with
 | zero =>
  intro a5 a0 b3 b6 d1 b7 a1 a2 h M0 hres
  rw [kn] at hres
  refine cj (ap (sR (mV rfl (af (ba rfl) ?_))))
  obtain ⟨e0, c8, c2⟩ := bh.g_Actions a8
  refine af (bt (k := 0) M0 rfl rfl c8) (af (cq rfl (ci c2 Tryz.underlying29 _)) (bN cn rfl rfl (nS ?_)))
  refine cd rfl ?_ ?_ <;> intro c <;> try simp only [qa, qaD] at c
  ·omega
  refine dl (eh (de ?_))
  exact wP (d5 b6 (Mem.sub M0 (.cons_cons _ .slnil)) hres) rfl
 | succ m ih =>
  intro a5 a0 b3 b6 d1 b7 a1 a2 h M0 hres
  rw [kn] at hres
  refine cj (ap (sR (mV rfl (af (ba rfl) ?_))))
  obtain ⟨d9, c5, b9⟩ := bh.g_Actions a8
  refine af (bt (k := 0) M0 rfl rfl c5) (af (cq rfl (ci b9 Tryz.underlying29 _)) (bN cn rfl rfl (nS ?_)))
  refine cd rfl ?_ ?_ <;> intro c <;> try simp only [qa, qaD] at c
  rotate_left
  ·omega
  refine az (au (ap (bf (sR (lD r0 rfl rfl rfl (af (ba rfl) ?_))))))
  obtain ⟨d8, c6, c7⟩ := bh.g_Actions a8
  refine af (bt (k := 0) M0 rfl rfl c6) (mV rfl (af (bn rfl rfl (slI c7 (by omega) (by omega))) (lR rfl rfl rfl ?_)))
  obtain ⟨b0, a4, hres⟩ := bp hres
  obtain ⟨d3, d4, d6, c3, a7, b1, b4⟩ := db2 (x1 := (ix ((ix x0.Tables x1.Table).Actions) a0)) r0 (by exact hA.1)
  rw [a4] at a7 b1 b4
  have c9 : b0.1.length ≤ 13000 ∧ b0.2.1.length ≤ 13000 ∧ b0.2.2.length ≤ 13000 := aq0 hA.1 a4
  refine cL c3 rfl rfl (ak (TR.clo ab.t r0) (ak rfl bd)) (mV rfl (xT rfl rfl (xT rfl rfl (xT rfl rfl (mV rfl (mV rfl (mV rfl (nS ?_))))))))
  refine aw (lD r0 rfl rfl rfl (mV rfl (mV rfl (mV rfl (mV rfl ?_)))))
  obtain ⟨d7, a3, hres⟩ := bp hres
  obtain ⟨d2, c4, b8⟩ := ay9  r0 b6 a7 b1 b4 (by first | omega | ((try dsimp only); (try simp only [List.length_append, List.length_cons, List.length_nil]); omega) | simp) (by first | omega | ((try dsimp only); (try simp only [List.length_append, List.length_cons, List.length_nil]); omega) | simp)
  rw [a3] at b8
  have d0 := wm a3 (by first | omega | (simp only [List.length_nil]; omega))
  refine cL c4 rfl rfl (ak (TR.clo ab.t r0) (ak (TR.clo (tSl tI) b6) (ak (TR.clo (tSl aa.t) a7) (ak (TR.clo (tSl tI) b1) (ak (TR.clo (tSl tI) b4) bd))))) (mV rfl (br (cy (au (aw (mV rfl (bN dp rfl rfl (mV rfl ?_))))))))
  refine br (cx ?_)
  have hbd := dc b9
  have hinc : wr (a0 + 1) = a0 + 1 := cv (by omega) (by omega)
  erw [hinc]
  exact wC (ih  b8 (by omega) (by omega) (by first | omega | (have hT := hA.2 x1.Table (by omega) (by omega); omega)) (by first | omega | (have hT := hA.2 x1.Table (by omega) (by omega); omega)) (Mem.sub M0 (.cons_cons _ .slnil)) hres) rfl

theorem dc1 {x0 : ab} {x1 : ct} {v0 v1 : PV} (r0 : ab.t.R x0 v0) (r1 : ct.t.R x1 v1) (hs : x0.Headers.length ≤ 1000) (hA : AB x0) : ∃ r, FnR Tryz.prog 19 [v0, v1] r ∧ (tSl tI).R (mo x0 x1) r := by
 refine fnT (R := RF19) dc6 rfl fun res hres => ?_
 unfold mo at hres
 refine sR (af (dn rfl (TR.cnt ab.t r0)) (af (dn rfl (TR.cnt ct.t r1)) (af (v := nilS) (ax rfl) (nS (ap (sR (fL rfl (ct.g_Table r1) rfl rfl (bN cn rfl rfl ?_))))))))
 refine mV rfl ?_
 refine ca 7 (d := 21) (v := vb ((decide (x1.Table < 0)) || (decide ((x0.Tables.length : Int) ≤ x1.Table)))) ?_ ?_
 ·intro S Q r
  cases a7 : (decide (x1.Table < 0))
  ·intro k
   have a5 := a7
   try simp only [qa, qaD] at a5
   refine ah rfl rfl (bw rfl (ct.g_Table r1)) (ah rfl rfl (bv rfl rfl rfl) ?_)
   obtain ⟨b9, a9, a4⟩ := ab.g_Tables r0
   refine ah rfl rfl (bw rfl a9) (ah rfl rfl (bv rfl (TR.cnt (tSl bh.t) a4) (TR.agg (tSl bh.t) a4)) (ah rfl rfl (cq rfl (ci a4 Tryz.underlying26 _)) (ah rfl rfl (cb rfl rfl kt) ?_)))
   exact gK rfl rfl rfl rfl rfl k
  ·exact gN 6 rfl rfl rfl rfl rfl rfl
 refine nS ?_
 refine bz hres rfl ?_ ?_ <;> clear hres <;> intro a1 hres <;> have a2 := a1 <;> try simp only [qa, qaD] at a2
 ·refine sR (af (v := nilS) (ax rfl) (nS ?_))
  exact rR hres rfl (TR.clo (tSl tI) fj) fj
 ·refine az (au (sR (af (v := nilS) (ax rfl) (nR (gL (ab.g_Tables r0) rfl rfl rfl fun c3 b6 => (fL rfl (ct.g_Table r1) rfl rfl ?_))))))
  obtain ⟨a8, b7, a3⟩ := dh (i := x1.Table) b6 (by omega) (by omega)
  refine af (bn rfl rfl b7) (lD a3 rfl rfl rfl ?_)
  refine ek (x := .agg [vs [], nilS, nilS, vi 0, nilS, vi 0]) (Mem.nil ⟨0, []⟩) rfl rfl (fun b0 b5 c2 b2 => ?_)
  refine dy (k := 0) (v := a8) b2 rfl rfl rfl (TR.cnt bh.t a3) (fun b1 a6 => ?_)
  replace a6 : Mem b1 [⟨.op b0 b5 0, 59, 6, [a8]⟩] := a6
  refine nS (ap (sR (mI rfl (nS (bf ?_)))))
  refine wC (vq r0 hs hA a1 a3 ?_  fj rfl (by omega) (by first | omega | ((try dsimp only); (try simp only [List.length_append, List.length_cons, List.length_nil]); omega) | simp) (by first | omega | ((try dsimp only); (try simp only [List.length_append, List.length_cons, List.length_nil]); omega) | simp) (Mem.sub a6 (.cons_cons _ .slnil)) hres) rfl
  ·intro b4 b3 a0 c1 b8 hres
   refine em (au (sR (mV rfl (mV rfl (nS ?_)))))
   exact rR hres rfl (TR.clo (tSl tI) a0) a0

def RF3 (res : Bool) (r : PV) : Prop := r = vb res
theorem dk3 {x0 : ab} {x1 : ct} {v0 v1 : PV} (r0 : ab.t.R x0 v0) (r1 : ct.t.R x1 v1) : FnR Tryz.prog 3 [v0, v1] (vb (mv x0 x1)) := by
 refine fnS (R := RF3) dn7 (fun _ h => h) rfl fun res hres => ?_
 unfold mv at hres
 refine sR (af (dn rfl (TR.cnt ab.t r0)) (af (dn rfl (TR.cnt ct.t r1)) (mB rfl (nS (ap (sR (lD r0 rfl rfl rfl ?_)))))))
 obtain ⟨b6, b2, hres⟩ := bp hres
 have b4 := db7  r0 
 rw [b2] at b4
 refine cL b4 rfl rfl (ak (TR.clo ab.t r0) bd) (mV rfl ?_)
 refine ca 5 (d := 12) (v := vb (b6 || (decide (60 < (x1.Cond.length : Int))))) ?_ ?_
 ·intro S Q r
  cases b5 : b6
  ·intro k
   have a5 := b5
   try simp only [qa, qaD] at a5
   obtain ⟨d3, c2, a6⟩ := ct.g_Cond r1
   refine ah rfl rfl (bw rfl c2) (ah rfl rfl (bv rfl (TR.cnt (tSl ae.t) a6) (TR.agg (tSl ae.t) a6)) (ah rfl rfl (cq rfl (ci a6 Tryz.underlying32 _)) (ah rfl rfl (cb rfl rfl iu) ?_)))
   exact gK rfl rfl rfl rfl rfl k
  ·exact gN 4 rfl rfl rfl rfl rfl rfl
 refine nS ?_
 refine bz hres rfl ?_ ?_ <;> clear hres <;> intro c hres <;> try simp only [qa, qaD] at c
 ·refine sR ?_
  obtain ⟨d2, c1, hres⟩ := bp hres
  have b3 := bx4   
  rw [c1] at b3
  refine cL b3 rfl rfl bd (mV rfl (nS ?_))
  exact rR hres rfl rfl rfl
 ·refine az (au (sR (lD r0 rfl rfl rfl (lD r1 rfl rfl rfl ?_))))
  obtain ⟨d5, a9, hres⟩ := bp hres
  obtain ⟨c9, c3, a1⟩ := da9  r0 r1 (by first | exact tlAB (by assumption) (by assumption) | exact tlAB (by assumption) (And.left (by assumption)) | omega | (have hk := tl (by assumption) (by assumption); omega) | (have hk := tl (by assumption) (And.left (by assumption)); omega)) (by first | exact tlAB (by assumption) (by assumption) | exact tlAB (by assumption) (And.left (by assumption)) | omega | (have hk := tl (by assumption) (by assumption); omega) | (have hk := tl (by assumption) (And.left (by assumption)); omega))
  rw [a9] at a1
  refine cL c3 rfl rfl (ak (TR.clo ab.t r0) (ak (TR.clo ct.t r1) bd)) (lD r0 rfl rfl rfl (lD r1 rfl rfl rfl ?_))
  obtain ⟨d1, b7, hres⟩ := bp hres
  obtain ⟨d6, c4, a3⟩ := cu0  r0 r1 (by first | exact tlAB (by assumption) (by assumption) | exact tlAB (by assumption) (And.left (by assumption)) | omega | (have hk := tl (by assumption) (by assumption); omega) | (have hk := tl (by assumption) (And.left (by assumption)); omega)) (by first | exact tlAB (by assumption) (by assumption) | exact tlAB (by assumption) (And.left (by assumption)) | omega | (have hk := tl (by assumption) (by assumption); omega) | (have hk := tl (by assumption) (And.left (by assumption)); omega)) (by first | exact tlAB (by assumption) (by assumption) | exact tlAB (by assumption) (And.left (by assumption)) | omega | (have hk := tl (by assumption) (by assumption); omega) | (have hk := tl (by assumption) (And.left (by assumption)); omega))
  rw [b7] at a3
  refine cL c4 rfl rfl (ak (TR.clo ab.t r0) (ak (TR.clo ct.t r1) bd)) ?_
  obtain ⟨a0, b0, hres⟩ := bp hres
  have b8 := bo5  a1 a3 
  rw [b0] at b8
  refine cL b8 rfl rfl (ak (TR.clo (tSl tI) a1) (ak (TR.clo (tSl tI) a3) bd)) (mV rfl ?_)
  refine ca 8 (d := 29) (v := vb (a0 && (my (md x0 x1) (mo x0 x1)))) ?_ ?_
  ·intro S Q r
   cases a8 : a0
   ·exact gN 7 rfl rfl rfl rfl rfl rfl
   ·intro k
    have a2 := a8
    try simp only [qa, qaD] at a2
    refine ah rfl rfl (bv rfl (TR.cnt ab.t r0) (TR.agg ab.t r0)) (ah rfl rfl (bv rfl (TR.cnt ct.t r1) (TR.agg ct.t r1)) ?_)
    obtain ⟨d4, c8, b9⟩ := da5  r0 r1 (by first | exact tlAB (by assumption) (by assumption) | exact tlAB (by assumption) (And.left (by assumption)) | omega | (have hk := tl (by assumption) (by assumption); omega) | (have hk := tl (by assumption) (And.left (by assumption)); omega))
    refine mn rfl rfl (rp rfl rfl (ak (TR.clo ab.t r0) (ak (TR.clo ct.t r1) bd)) c8) (ah rfl rfl (bv rfl (TR.cnt ab.t r0) (TR.agg ab.t r0)) (ah rfl rfl (bv rfl (TR.cnt ct.t r1) (TR.agg ct.t r1)) ?_))
    obtain ⟨d0, c6, a7⟩ := dc1  r0 r1 (by first | exact tlAB (by assumption) (by assumption) | exact tlAB (by assumption) (And.left (by assumption)) | omega | (have hk := tl (by assumption) (by assumption); omega) | (have hk := tl (by assumption) (And.left (by assumption)); omega)) (by first | exact tlAB (by assumption) (by assumption) | exact tlAB (by assumption) (And.left (by assumption)) | omega | (have hk := tl (by assumption) (by assumption); omega) | (have hk := tl (by assumption) (And.left (by assumption)); omega))
    refine mn rfl rfl (rp rfl rfl (ak (TR.clo ab.t r0) (ak (TR.clo ct.t r1) bd)) c6) ?_
    have c5 := bo5  b9 a7 
    refine mn rfl rfl (rp rfl rfl (ak (TR.clo (tSl tI) b9) (ak (TR.clo (tSl tI) a7) bd)) c5) ?_
    exact gK rfl rfl rfl rfl rfl k
  refine mV rfl ?_
  refine ca 2 (d := 32) (v := vb ((a0 && (my (md x0 x1) (mo x0 x1))) && (ri))) ?_ ?_
  ·intro S Q r
   cases b1 : (a0 && (my (md x0 x1) (mo x0 x1)))
   ·exact gN 1 rfl rfl rfl rfl rfl rfl
   ·intro k
    have a4 := b1
    try simp only [qa, qaD] at a4
    have c7 := bx4   
    refine mn rfl rfl (rp rfl rfl bd c7) ?_
    exact gK rfl rfl rfl rfl rfl k
  refine mV rfl (nS ?_)
  exact rR hres rfl rfl rfl

end Go.Proofs.YtmonnlkagniolaaGreat
