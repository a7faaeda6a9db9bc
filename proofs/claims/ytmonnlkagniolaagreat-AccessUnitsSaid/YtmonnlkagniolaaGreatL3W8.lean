/-
 The code of each function does what its plain program says.
-/
import Derived.Test.YtmonnlkagniolaaGreatL3W7
set_option linter.unusedVariables false
set_option linter.unusedSimpArgs false
set_option maxRecDepth 100000
namespace Go.Proofs.YtmonnlkagniolaaGreat
open Go Go.Pb Go.RowKit
def RF156 (res : Int × Int) (r : PV) : Prop := r = .tup [vi res.1, vi res.2]
theorem am0 {x0 : List ae} {x1 : av} {v0 v1 : PV} (r0 : (tSl ae.t).R x0 v0) (r1 : av.t.R x1 v1) : FnR Tryz.prog 156 [v0, v1] (.tup [vi ((nl x0 x1).1), vi ((nl x0 x1).2)]) := by
 refine fnS (R := RF156) ci7 (fun _ h => h) rfl fun res hres => ?_
 unfold nl at hres
 refine sR (af (dn rfl (TR.cnt av.t r1)) (mI rfl (mI rfl (nS (ap (sR (mV rfl (af (cq rfl (ci r0 Tryz.underlying32 _)) ?_))))))))
 refine bN iu rfl rfl (nS ?_)
 refine bz hres rfl ?_ ?_ <;> clear hres <;> intro c hres <;> try simp only [qa, qaD] at c
 ·refine sR (mI rfl (mI rfl (nS ?_)))
  exact rT hres rfl rfl rfl rfl rfl
 ·refine az (au (sR (mV rfl (lD r1 rfl rfl rfl ?_))))
  obtain ⟨a2, a1, hres⟩ := bp hres
  have a0 := ck5 (x1 := 0) r0 r1 (by first | assumption | omega | (rw [cv (by omega) (by omega)]; omega)) (by first | assumption | omega | (rw [cv (by omega) (by omega)]; omega))
  rw [a1] at a0
  refine cL a0 rfl rfl (ak (TR.clo (tSl ae.t) r0) (ak rfl (ak (TR.clo av.t r1) bd))) (mV rfl (xT rfl rfl (xT rfl rfl (xT rfl rfl (mV rfl (mV rfl (mV rfl (nS ?_))))))))
  refine ap (bf (sR (mV rfl (bN ks rfl rfl (mV rfl (nS ?_))))))
  refine bz hres rfl ?_ ?_ <;> clear hres <;> intro c hres <;> try simp only [qa, qaD] at c
  ·refine sR (mV rfl (mI rfl (mV rfl (nS ?_))))
   exact rT hres rfl rfl rfl rfl rfl
  ·refine sR (mV rfl (mV rfl (af (cq rfl (ci r0 Tryz.underlying32 _)) (bN cn rfl rfl (mV rfl (nS ?_))))))
   refine bz hres rfl ?_ ?_ <;> clear hres <;> intro c hres <;> try simp only [qa, qaD] at c
   ·refine sR (mI rfl (mI rfl (nS ?_)))
    exact rT hres rfl rfl rfl rfl rfl
   ·refine az (cy (au (sR (mV rfl (mV rfl (mI rfl (nS ?_)))))))
    exact rT hres rfl rfl rfl rfl rfl

def RF178 (res : Int) (r : PV) : Prop := r = vi res
theorem az9 {x0 : List ae} {x1 : av} {x2 : Int} {v0 v1 : PV} (r0 : (tSl ae.t).R x0 v0) (r1 : av.t.R x1 v1) : FnR Tryz.prog 178 [v0, v1, vi x2] (vi (pm x0 x1 x2)) := by
 refine fnS (R := RF178) bz8 (fun _ h => h) rfl fun res hres => ?_
 unfold pm at hres
 refine sR (af (dn rfl (TR.cnt av.t r1)) (mI rfl (nR (mV rfl (lD r1 rfl rfl rfl ?_)))))
 obtain ⟨a0, a2, hres⟩ := bp hres
 have a3 := am0  r0 r1 
 rw [a2] at a3
 refine cL a3 rfl rfl (ak (TR.clo (tSl ae.t) r0) (ak (TR.clo av.t r1) bd)) (mV rfl (xT rfl rfl (xT rfl rfl (mV rfl (mV rfl (nS (ap (sR ?_))))))))
 refine mV rfl (bN dj rfl rfl (mV rfl ?_))
 refine ca 4 (d := 21) (v := vb ((decide (a0.2 = 0)) && (!decide (a0.1 = x2)))) ?_ ?_
 ·intro S Q r
  cases a4 : (decide (a0.2 = 0))
  ·exact gN 3 rfl rfl rfl rfl rfl rfl
  ·intro k
   have a1 := a4
   try simp only [qa, qaD] at a1
   refine ah rfl rfl (ax rfl) (ah rfl rfl (ax rfl) (ah rfl rfl (cb rfl rfl ks) ?_))
   exact gK rfl rfl rfl rfl rfl k
 refine nS ?_
 refine bz hres rfl ?_ ?_ <;> clear hres <;> intro c hres <;> try simp only [qa, qaD] at c
 ·refine sR (mI rfl (nS ?_))
  exact rR hres rfl rfl rfl
 ·refine az (au (sR (mV rfl (mV rfl (nS ?_)))))
  exact rR hres rfl rfl rfl

def RF107 (res : Int) (r : PV) : Prop := r = vi res
theorem cb6 {x0 : ab} {x1 : aq} {x2 : av} {v0 v1 v2 : PV} (r0 : ab.t.R x0 v0) (r1 : aq.t.R x1 v1) (r2 : av.t.R x2 v2) : FnR Tryz.prog 107 [v0, v1, v2] (vi (ob x0 x1 x2)) := by
 refine fnS (R := RF107) co7 (fun _ h => h) rfl fun res hres => ?_
 unfold ob at hres
 refine sR (af (dn rfl (TR.cnt ab.t r0)) (af (dn rfl (TR.cnt aq.t r1)) (af (dn rfl (TR.cnt av.t r2)) (mI rfl (nR (lD r0 rfl rfl rfl (gL (aq.g_Dst r1) rfl rfl rfl fun e8 b0 => ?_)))))))
 obtain ⟨a1, b7, hres⟩ := bp hres
 have c2 := bg2  r0 b0 
 rw [b7] at c2
 refine cL c2 rfl rfl (ak (TR.clo ab.t r0) (ak (TR.clo aa.t b0) bd)) (mV rfl (xT rfl rfl (xT rfl rfl (mV rfl (mV rfl (nR (fL rfl (aq.g_Register r1) rfl rfl (bN kt rfl rfl ?_))))))))
 refine mV rfl ?_
 refine ca 7 (d := 31) (v := vb ((decide (0 ≤ x1.Register)) && (decide (x1.Register < (x0.Registers.length : Int))))) ?_ ?_
 ·intro S Q r
  cases b2 : (decide (0 ≤ x1.Register))
  ·exact gN 6 rfl rfl rfl rfl rfl rfl
  ·intro k
   have a8 := b2
   try simp only [qa, qaD] at a8
   refine ah rfl rfl (bw rfl (aq.g_Register r1)) (ah rfl rfl (bv rfl rfl rfl) ?_)
   obtain ⟨f0, d5, a9⟩ := ab.g_Registers r0
   refine ah rfl rfl (bw rfl d5) (ah rfl rfl (bv rfl (TR.cnt (tSl cg.t) a9) (TR.agg (tSl cg.t) a9)) (ah rfl rfl (cq rfl (ci a9 Tryz.underlying24 _)) (ah rfl rfl (cb rfl rfl cn) ?_)))
   exact gK rfl rfl rfl rfl rfl k
 refine mV rfl (nS (ap (sR (fL rfl (aq.g_Kind r1) rfl rfl (nS (bf (sR (bN dj rfl rfl ?_))))))))
 refine mV rfl (nS ?_)
 refine bz hres rfl ?_ ?_ <;> clear hres <;> intro c hres <;> try simp only [qa, qaD] at c
 ·refine ap (sR (mV rfl (af (kp rfl) (nS ?_))))
  refine bz hres rfl ?_ ?_ <;> clear hres <;> intro c hres <;> try simp only [qa, qaD] at c
  ·refine sR (mI rfl (nS ?_))
   exact rR hres rfl rfl rfl
  ·refine az (au (sR (gL (aq.g_Value r1) rfl rfl rfl fun e2 b1 => (lD r2 rfl rfl rfl (mV rfl ?_)))))
   obtain ⟨e3, c5, hres⟩ := bp hres
   have b5 := az9 (x2 := a1.1) b1 r2 
   rw [c5] at b5
   refine cL b5 rfl rfl (ak (TR.clo (tSl ae.t) b1) (ak (TR.clo av.t r2) (ak rfl bd))) (mV rfl (nS ?_))
   exact rR hres rfl rfl rfl
 ·refine ap (sR (bN dj rfl rfl (mV rfl (nS ?_))))
  obtain ⟨d9, b8, hres⟩ := bp hres
  refine lm (F := fun b S Q => ∀ (a0 : Bool), d9 a0 = res → RC Tryz.prog b S Q [(43, vb a0), (33, vi x1.Kind), (9, vb ((decide (0 ≤ x1.Register)) && (decide (x1.Register < (x0.Registers.length : Int))))), (8, vb a1.2), (7, vi a1.1), (5, .fp v2), (4, .fp v1), (3, .fp v0)] ⟨0, []⟩) ?_ ?_
  ·intro a0  hres
   rw [← b8] at hres
   refine bz hres rfl ?_ ?_ <;> clear hres <;> intro c hres <;> try simp only [qa, qaD] at c
   ·refine ap (sR (fL rfl (aq.g_Header r1) rfl rfl (bN cn rfl rfl (mV rfl ?_))))
    refine ca 7 (d := 56) (v := vb ((decide (x1.Header < 0)) || (decide ((x0.Headers.length : Int) ≤ x1.Header)))) ?_ ?_
    ·intro S Q r
     cases c1 : (decide (x1.Header < 0))
     ·intro k
      have a5 := c1
      try simp only [qa, qaD] at a5
      refine ah rfl rfl (bw rfl (aq.g_Header r1)) (ah rfl rfl (bv rfl rfl rfl) ?_)
      obtain ⟨f2, d7, a7⟩ := ab.g_Headers r0
      refine ah rfl rfl (bw rfl d7) (ah rfl rfl (bv rfl (TR.cnt (tSl bg.t) a7) (TR.agg (tSl bg.t) a7)) (ah rfl rfl (cq rfl (ci a7 Tryz.underlying22 _)) (ah rfl rfl (cb rfl rfl kt) ?_)))
      exact gK rfl rfl rfl rfl rfl k
     ·exact gN 6 rfl rfl rfl rfl rfl rfl
    refine nS ?_
    refine bz hres rfl ?_ ?_ <;> clear hres <;> intro c hres <;> try simp only [qa, qaD] at c
    ·refine sR (mI rfl (nS ?_))
     exact rR hres rfl rfl rfl
    ·refine az (au (sR (mI rfl (nS ?_))))
     exact rR hres rfl rfl rfl
   ·refine sR (bN dj rfl rfl (mV rfl (nS ?_)))
    refine bz hres rfl ?_ ?_ <;> clear hres <;> intro c hres <;> try simp only [qa, qaD] at c
    ·refine ap (sR (mV rfl (af (kp rfl) (mV rfl ?_))))
     refine ca 3 (d := 64) (v := vb ((!a1.2) || (!((decide (0 ≤ x1.Register)) && (decide (x1.Register < (x0.Registers.length : Int))))))) ?_ ?_
     ·intro S Q r
      cases c8 : (!a1.2)
      ·intro k
       have a2 := c8
       try simp only [qa, qaD] at a2
       refine ah rfl rfl (ax rfl) (ah rfl rfl (kp rfl) ?_)
       exact gK rfl rfl rfl rfl rfl k
      ·exact gN 2 rfl rfl rfl rfl rfl rfl
     refine nS ?_
     refine bz hres rfl ?_ ?_ <;> clear hres <;> intro c hres <;> try simp only [qa, qaD] at c
     ·refine sR (mI rfl (nS ?_))
      exact rR hres rfl rfl rfl
     ·refine az (au (sR ?_))
      obtain ⟨f3, d6, a6⟩ := aq.g_Index r1
      refine fA rfl d6 (lD a6 rfl rfl rfl (lD r2 rfl rfl rfl ?_))
      obtain ⟨b3, b9, hres⟩ := bp hres
      have c4 := am0  a6 r2 
      rw [b9] at c4
      refine cL c4 rfl rfl (ak (TR.clo (tSl ae.t) a6) (ak (TR.clo av.t r2) bd)) (mV rfl (xT rfl rfl (xT rfl rfl (mV rfl (mV rfl (nS (ap (sR ?_))))))))
      refine mV rfl (bN dj rfl rfl (mV rfl ?_))
      refine ca 10 (d := 84) (v := vb ((decide (b3.2 = 0)) && (!decide (a1.1 = ((ix x0.Registers x1.Register).Width))))) ?_ ?_
      ·intro S Q r
       cases b6 : (decide (b3.2 = 0))
       ·exact gN 9 rfl rfl rfl rfl rfl rfl
       ·intro k
        have a3 := b6
        try simp only [qa, qaD] at a3
        refine ah rfl rfl (ax rfl) ?_
        obtain ⟨e7, d8, a4⟩ := ab.g_Registers r0
        refine ah rfl rfl (bw rfl d8) (ah rfl rfl (bv rfl (TR.cnt (tSl cg.t) a4) (TR.agg (tSl cg.t) a4)) (ah rfl rfl (bw rfl (aq.g_Register r1)) (ah rfl rfl (bv rfl rfl rfl) ?_)))
        obtain ⟨e5, d1, d2⟩ := dh (i := x1.Register) a4 (by omega) (by omega)
        refine ah rfl rfl (bn rfl rfl d1) (ah rfl rfl (bw rfl (cg.g_Width d2)) (ah rfl rfl (bv rfl rfl rfl) (ah rfl rfl (cb rfl rfl ks) ?_)))
        exact gK rfl rfl rfl rfl rfl k
      refine nS ?_
      refine bz hres rfl ?_ ?_ <;> clear hres <;> intro c hres <;> try simp only [qa, qaD] at c
      ·refine sR (mI rfl (nS ?_))
       exact rR hres rfl rfl rfl
      ·refine az (au (sR (mV rfl (mV rfl (nS ?_)))))
       exact rR hres rfl rfl rfl
    ·refine sR (bN dj rfl rfl (mV rfl (nS ?_)))
     refine bz hres rfl ?_ ?_ <;> clear hres <;> intro c hres <;> try simp only [qa, qaD] at c
     ·refine ap (sR (mV rfl (af (kp rfl) (nS ?_))))
      refine bz hres rfl ?_ ?_ <;> clear hres <;> intro c hres <;> try simp only [qa, qaD] at c
      ·refine sR (mI rfl (nS ?_))
       exact rR hres rfl rfl rfl
      ·refine az (au (sR (gL (aq.g_Index r1) rfl rfl rfl fun e1 c3 => (lD r2 rfl rfl rfl ?_))))
       obtain ⟨f4, c9, hres⟩ := bp hres
       have c7 := am0  c3 r2 
       rw [c9] at c7
       refine cL c7 rfl rfl (ak (TR.clo (tSl ae.t) c3) (ak (TR.clo av.t r2) bd)) (mV rfl (xT rfl rfl (xT rfl rfl (mV rfl (mV rfl (nS (ap (sR ?_))))))))
       refine mV rfl (bN ks rfl rfl (nS ?_))
       refine bz hres rfl ?_ ?_ <;> clear hres <;> intro c hres <;> try simp only [qa, qaD] at c
       ·refine sR (mV rfl (mV rfl (nS ?_)))
        exact rR hres rfl rfl rfl
       ·refine az (au (sR (gL (aq.g_Value r1) rfl rfl rfl fun e9 c6 => (lD r2 rfl rfl rfl (gL (ab.g_Registers r0) rfl rfl rfl fun f1 d4 => (fL rfl (aq.g_Register r1) rfl rfl ?_))))))
        obtain ⟨e6, d3, e0⟩ := dh (i := x1.Register) d4 (by omega) (by omega)
        refine af (bn rfl rfl d3) (fL rfl (cg.g_Width e0) rfl rfl ?_)
        obtain ⟨e4, d0, hres⟩ := bp hres
        have b4 := az9 (x2 := (ix x0.Registers x1.Register).Width) c6 r2 
        rw [d0] at b4
        refine cL b4 rfl rfl (ak (TR.clo (tSl ae.t) c6) (ak (TR.clo av.t r2) (ak rfl bd))) (mV rfl (nS ?_))
        exact rR hres rfl rfl rfl
     ·refine az (cy (au (sR (mI rfl (nS ?_)))))
      exact rR hres rfl rfl rfl
  ·intro J
   refine bz hres rfl ?_ ?_ <;> clear hres <;> intro c hres <;> try simp only [qa, qaD] at c
   ·refine az ?_
    refine au (wC (J _  hres) rfl)
   ·refine aw (bN dj rfl rfl (mV rfl (br ?_)))
    refine au (wC (J _  hres) rfl)

def RF36 (res : Int × Int) (r : PV) : Prop := r = .tup [vi res.1, vi res.2]
theorem xg {S : List Fr} {res : Int × Int} {x0 : ab} {x1 : Int} {b6 : Bool} {b7 : Int} {v0 b0 : PV} {a7 a9 : Nat} (r0 : ab.t.R x0 v0) (c2 : ((decide (x1 < 0)) || (decide ((x0.Actions.length : Int) ≤ x1))) = false) (a5 : bc.t.R (ix x0.Actions x1) b0) (d0 : ir ((ix x0.Actions x1).Name) = b6) (b1 : (!b6) = false) (b2 : ((decide (4 < (((ix x0.Actions x1).Params).length : Int))) || (decide (12 < (((ix x0.Actions x1).Body).length : Int)))) = false) (d1 : pb ((ix x0.Actions x1).Params) = b7) (b4 : (!decide (b7 = 0)) = false) {K1 : Unit → (Int × Int)}
  (d3 : ∀ {h : Heap} (M0 : Mem h [⟨.op a7 a9 0, 97, 3, [b0]⟩]), K1 () = res → PX Tryz.prog 1 S (QR Tryz.prog [(4, none), (5, none)] (RF36 res)) [] h) :
  ∀ {m : Nat} {a0 : Int} (d2 : m = Int.toNat ((((ix x0.Actions x1).Body).length : Int) - a0)) (b5 : 0 ≤ a0) {h : Heap} (M0 : Mem h [⟨.op a7 a9 0, 97, 3, [b0]⟩]), mj x0 x1 K1 m a0 = res → RC Tryz.prog (.loop cl1) S (QR Tryz.prog [(4, none), (5, none)] (RF36 res)) [(7, vi a0), (6, .op a7 a9 0), (2, .fp v0), (1, vi x1)] h := by
 have a1 := c2
 try simp only [qa, qaD] at a1
 have a2 := b1
 try simp only [qa, qaD] at a2
 have a8 := b2
 try simp only [qa, qaD] at a8
 have a4 := b4
 try simp only [qa, qaD] at a4
 intro m
 induction m with
 | zero =>
  intro a0 d2 b5 h M0 hres
  rw [mj] at hres
  refine cj (ap (sR (mV rfl (af (ba rfl) ?_))))
  obtain ⟨d4, c6, c4⟩ := bc.g_Body a5
  refine af (bt (k := 0) M0 rfl rfl c6) (af (cq rfl (ci c4 Tryz.underlying95 _)) (bN cn rfl rfl (nS ?_)))
  refine cd rfl ?_ ?_ <;> intro c <;> try simp only [qa, qaD] at c
  ·omega
  refine dl (eh (de ?_))
  exact wP (d3 (Mem.sub M0 (.cons_cons _ .slnil)) hres) rfl
 | succ m ih =>
  intro a0 d2 b5 h M0 hres
  rw [mj] at hres
  refine cj (ap (sR (mV rfl (af (ba rfl) ?_))))
  obtain ⟨d5, c3, b3⟩ := bc.g_Body a5
  refine af (bt (k := 0) M0 rfl rfl c3) (af (cq rfl (ci b3 Tryz.underlying95 _)) (bN cn rfl rfl (nS ?_)))
  refine cd rfl ?_ ?_ <;> intro c <;> try simp only [qa, qaD] at c
  rotate_left
  ·omega
  refine az (au (ap (bf (sR (lD r0 rfl rfl rfl (af (ba rfl) ?_))))))
  obtain ⟨d7, c7, c9⟩ := bc.g_Body a5
  refine af (bt (k := 0) M0 rfl rfl c7) (mV rfl ?_)
  obtain ⟨d6, c5, a6⟩ := dh (i := a0) c9 (by omega) (by omega)
  refine af (bn rfl rfl c5) (lD a6 rfl rfl rfl (lD r0 rfl rfl rfl (mV rfl ?_)))
  obtain ⟨e0, b9, hres⟩ := bp hres
  obtain ⟨d8, c8, a3⟩ := dd5 (x1 := x1) r0 (by first | assumption | omega | (rw [cv (by omega) (by omega)]; omega))
  rw [b9] at a3
  refine cL c8 rfl rfl (ak (TR.clo ab.t r0) (ak rfl bd)) ?_
  obtain ⟨d9, b8, hres⟩ := bp hres
  have c1 := cb6  r0 a6 a3 
  rw [b8] at c1
  refine cL c1 rfl rfl (ak (TR.clo ab.t r0) (ak (TR.clo aq.t a6) (ak (TR.clo av.t a3) bd))) (mV rfl (nR (mV rfl (bN ks rfl rfl (nS ?_)))))
  refine bz hres rfl ?_ ?_ <;> clear hres <;> intro c hres <;> try simp only [qa, qaD] at c
  ·refine sR (mV rfl (mV rfl (mV rfl (mV rfl (nS ?_)))))
   exact rT hres rfl rfl rfl rfl rfl
  ·refine az (cy (au (aw (mV rfl (bN dp rfl rfl (mV rfl (br (cx ?_))))))))
   have hbd := dc b3
   have hinc : wr (a0 + 1) = a0 + 1 := cv (by omega) (by omega)
   erw [hinc]
   exact wC (ih   (by omega) (by omega) (Mem.sub M0 (.cons_cons _ .slnil)) hres) rfl

theorem bw3 {x0 : ab} {x1 : Int} {v0 : PV} (r0 : ab.t.R x0 v0) : FnR Tryz.prog 36 [v0, vi x1] (.tup [vi ((li x0 x1).1), vi ((li x0 x1).2)]) := by
 refine fnS (R := RF36) de0 (fun _ h => h) rfl fun res hres => ?_
 unfold li at hres
 refine sR (af (dn rfl (TR.cnt ab.t r0)) (mI rfl (mI rfl (nS (ap (sR (mV rfl (bN cn rfl rfl ?_))))))))
 refine mV rfl ?_
 refine ca 6 (d := 17) (v := vb ((decide (x1 < 0)) || (decide ((x0.Actions.length : Int) ≤ x1)))) ?_ ?_
 ·intro S Q r
  cases c4 : (decide (x1 < 0))
  ·intro k
   have b3 := c4
   try simp only [qa, qaD] at b3
   refine ah rfl rfl (ax rfl) ?_
   obtain ⟨e0, c5, b2⟩ := ab.g_Actions r0
   refine ah rfl rfl (bw rfl c5) (ah rfl rfl (bv rfl (TR.cnt (tSl bc.t) b2) (TR.agg (tSl bc.t) b2)) (ah rfl rfl (cq rfl (ci b2 Tryz.underlying25 _)) (ah rfl rfl (cb rfl rfl kt) ?_)))
   exact gK rfl rfl rfl rfl rfl k
  ·exact gN 5 rfl rfl rfl rfl rfl rfl
 refine nS ?_
 refine bz hres rfl ?_ ?_ <;> clear hres <;> intro a7 hres <;> have a8 := a7 <;> try simp only [qa, qaD] at a8
 ·refine sR (mI rfl (mI rfl (nS ?_)))
  exact rT hres rfl rfl rfl rfl rfl
 ·refine az (au (sR (gL (ab.g_Actions r0) rfl rfl rfl fun e6 d6 => (mV rfl ?_))))
  obtain ⟨b6, d7, a0⟩ := dh (i := x1) d6 (by omega) (by omega)
  refine af (bn rfl rfl d7) (lD a0 rfl rfl rfl ?_)
  refine ek (x := .agg [vs [], nilS, nilS]) (Mem.nil ⟨0, []⟩) rfl rfl (fun c6 d4 e4 c8 => ?_)
  refine dy (k := 0) (v := b6) c8 rfl rfl rfl (TR.cnt bc.t a0) (fun c7 a1 => ?_)
  replace a1 : Mem c7 [⟨.op c6 d4 0, 97, 3, [b6]⟩] := a1
  refine nS (ap (bf (sR (af (ba rfl) (af (bt (k := 0) a1 rfl rfl (bc.g_Name a0)) ?_)))))
  obtain ⟨e2, a4, hres⟩ := bp hres
  have b7 := bd7 (x0 := (ix x0.Actions x1).Name)  
  rw [a4] at b7
  refine cL b7 rfl rfl (ak rfl bd) (af (kp rfl) (mV rfl (nS ?_)))
  refine bz hres rfl ?_ ?_ <;> clear hres <;> intro a2 hres <;> have a9 := a2 <;> try simp only [qa, qaD] at a9
  ·refine sR (mI rfl (mI rfl (nS ?_)))
   exact rT hres rfl rfl rfl rfl rfl
  ·refine sR (af (ba rfl) ?_)
   obtain ⟨e9, d1, d3⟩ := bc.g_Params a0
   refine af (bt (k := 0) a1 rfl rfl d1) (af (cq rfl (ci d3 Tryz.underlying23 _)) (bN iu rfl rfl (mV rfl ?_)))
   refine ca 5 (d := 38) (v := vb ((decide (4 < (((ix x0.Actions x1).Params).length : Int))) || (decide (12 < (((ix x0.Actions x1).Body).length : Int))))) ?_ ?_
   ·intro S Q r
    cases c2 : (decide (4 < (((ix x0.Actions x1).Params).length : Int)))
    ·intro k
     have b1 := c2
     try simp only [qa, qaD] at b1
     refine ah rfl rfl (ba rfl) ?_
     obtain ⟨e8, d2, d5⟩ := bc.g_Body a0
     refine ah rfl rfl (bt (k := 0) a1 rfl rfl d2) (ah rfl rfl (cq rfl (ci d5 Tryz.underlying95 _)) (ah rfl rfl (cb rfl rfl iu) ?_))
     exact gK rfl rfl rfl rfl rfl k
    ·exact gN 4 rfl rfl rfl rfl rfl rfl
   refine mV rfl (nS ?_)
   refine bz hres rfl ?_ ?_ <;> clear hres <;> intro a3 hres <;> have b4 := a3 <;> try simp only [qa, qaD] at b4
   ·refine sR (mI rfl (mI rfl (nS ?_)))
    exact rT hres rfl rfl rfl rfl rfl
   ·refine sR (af (ba rfl) ?_)
    obtain ⟨e1, c9, b5⟩ := bc.g_Params a0
    refine af (bt (k := 0) a1 rfl rfl c9) ?_
    obtain ⟨e3, a6, hres⟩ := bp hres
    have b9 := bb6  b5 
    rw [a6] at b9
    refine cL b9 rfl rfl (ak (TR.clo (tSl ay.t) b5) bd) (bN ks rfl rfl (mV rfl (nS ?_)))
    refine bz hres rfl ?_ ?_ <;> clear hres <;> intro a5 hres <;> have b0 := a5 <;> try simp only [qa, qaD] at b0
    ·refine sR (af (ba rfl) ?_)
     obtain ⟨e7, d0, b8⟩ := bc.g_Params a0
     refine af (bt (k := 0) a1 rfl rfl d0) ?_
     obtain ⟨d9, c1, hres⟩ := bp hres
     have c3 := bb6  b8 
     rw [c1] at c3
     refine cL c3 rfl rfl (ak (TR.clo (tSl ay.t) b8) bd) (mI rfl (mV rfl (nS ?_)))
     exact rT hres rfl rfl rfl rfl rfl
    ·refine az (cy (au (ap (sR (mI rfl (nS (bf ?_)))))))
     refine wC (xg r0 a7 a0 a4 a2 a3 a6 a5 ?_  rfl (by omega) (Mem.sub a1 (.cons_cons _ .slnil)) hres) rfl
     ·intro e5 d8 hres
      refine em (au (sR (mI rfl (mI rfl (nS ?_)))))
      exact rT hres rfl rfl rfl rfl rfl

def RF111 (res : am) (r : PV) : Prop := am.t.R res r
theorem vf {S : List Fr} {res : am} {x0 : am} {x1 : List ae} {a4 : (List aa)} {c6 : (List Int)} {c4 c5 : PV} {a6 a9 a5 a7 : Nat} (hb : x1.length ≤ 1000 ∧ x0.Fields.length ≤ 50000 ∧ x0.Headers.length ≤ 50000) (d9 : lw x1 = a4) (b3 : (tSl aa.t).R a4 c4) (d6 : a4.length ≤ x1.length) (d5 : kv x1 = c6) (d8 : c6.length ≤ x1.length) {K0 : am → am}
  (e1 : ∀ {zE102 : am} {a0 : PV} (a1 : am.t.R zE102 a0) (e4 : zE102.Headers.length ≤ 50000) {h : Heap} (M0 : Mem h [⟨.op a5 a7 0, 162, 3, [.agg [nilS, nilS, nilS]]⟩, ⟨.op a6 a9 0, 162, 3, [a0]⟩]), K0 zE102 = res → PX Tryz.prog 0 S (QR Tryz.prog [(4, some (3, true))] (RF111 res)) [(2, .op a6 a9 0), (4, .op a5 a7 0), (6, c5)] h) :
  ∀ {m : Nat} {a8 : Int} {zE102 : am} {a0 : PV} (a1 : am.t.R zE102 a0) (e0 : m = Int.toNat ((a4.length : Int) - a8)) (c2 : 0 ≤ a8) (b5 : (zE102.Fields.length : Int) ≤ (x0.Fields.length : Int) + a8) (b6 : (zE102.Headers.length : Int) ≤ (x0.Headers.length : Int)) (b7 : a8 ≤ (a4.length : Int)) {h : Heap} (M0 : Mem h [⟨.op a5 a7 0, 162, 3, [.agg [nilS, nilS, nilS]]⟩, ⟨.op a6 a9 0, 162, 3, [a0]⟩]), jr a4 K0 m a8 zE102 = res → RC Tryz.prog (.loop bp7) S (QR Tryz.prog [(4, some (3, true))] (RF111 res)) [(7, vi a8), (6, c5), (5, c4), (4, .op a5 a7 0), (2, .op a6 a9 0)] h := by
 have hb' := hb
 try simp only [qa, qaD] at hb'
 intro m
 induction m with
 | zero =>
  intro a8 zE102 a0 a1 e0 c2 b5 b6 b7 h M0 hres
  rw [jr] at hres
  refine cj (ap (sR (mV rfl (mV rfl (af (cq rfl (ci b3 Tryz.underlying75 _)) (bN cn rfl rfl (nS ?_)))))))
  refine cd rfl ?_ ?_ <;> intro c <;> try simp only [qa, qaD] at c
  ·omega
  refine dl (eh (de ?_))
  exact wP (e1 a1 (by first | omega | ((try dsimp only); (try simp only [List.length_append, List.length_cons, List.length_nil]); omega) | simp) (Mem.sub M0 (.cons_cons _ (.cons_cons _ .slnil))) hres) rfl
 | succ m ih =>
  intro a8 zE102 a0 a1 e0 c2 b5 b6 b7 h M0 hres
  rw [jr] at hres
  refine cj (ap (sR (mV rfl (mV rfl (af (cq rfl (ci b3 Tryz.underlying75 _)) (bN cn rfl rfl (nS ?_)))))))
  refine cd rfl ?_ ?_ <;> intro c <;> try simp only [qa, qaD] at c
  rotate_left
  ·omega
  refine az (au (ap (bf (aw (af (ba rfl) ?_)))))
  obtain ⟨e3, d1, c3⟩ := am.g_Fields a1
  refine af (bt (k := 1) M0 rfl rfl d1) (mV rfl (mV rfl ?_))
  obtain ⟨e2, d3, b9⟩ := dh (i := a8) b3 (by omega) (by omega)
  refine af (bn rfl rfl d3) (lD b9 rfl rfl rfl ?_)
  obtain ⟨d0, b8, hres⟩ := bp hres
  obtain ⟨b2, d2, b1⟩ := ac2  c3 b9 (by first | assumption | omega | (rw [cv (by omega) (by omega)]; omega))
  rw [b8] at b1
  have d7 := AddField_len b8
  refine cL d2 rfl rfl (ak (TR.clo (tSl aa.t) c3) (ak (TR.clo aa.t b9) bd)) (af (ba rfl) ?_)
  obtain ⟨c7, a2, a3, c9, c8, b4, b0⟩ := a1
  subst c9
  refine iq (k := 1) (v := b2) M0 rfl rfl rfl (nj (TR.cnt (tSl aa.t) b1) (TR.agg (tSl aa.t) b1)) rfl (by first | decide | (simp only [List.length_cons, List.length_nil]; omega) | simp) (fun d4 c1 => ?_)
  replace c1 : Mem d4 [⟨.op a5 a7 0, 162, 3, [.agg [nilS, nilS, nilS]]⟩, ⟨.op a6 a9 0, 162, 3, [.agg [b2, a2, a3]]⟩] := c1
  refine br (cy (au (aw (mV rfl (bN dp rfl rfl (mV rfl (br (cx ?_))))))))
  have hbd := dc b3
  have hinc : wr (a8 + 1) = a8 + 1 := cv (by omega) (by omega)
  erw [hinc]
  exact wC (ih  (show am.t.R ({ Fields := d0, Headers := zE102.Headers, Registers := zE102.Registers } : am) (.agg [b2, a2, a3]) from ⟨b2, a2, a3, rfl, b1, b4, b0⟩) (by omega) (by omega) (by first | omega | ((try dsimp only); (try simp only [List.length_append, List.length_cons, List.length_nil]); omega) | simp) (by first | omega | ((try dsimp only); (try simp only [List.length_append, List.length_cons, List.length_nil]); omega) | simp) (by first | omega | ((try dsimp only); (try simp only [List.length_append, List.length_cons, List.length_nil]); omega) | simp) (Mem.sub c1 (.cons_cons _ (.cons_cons _ .slnil))) hres) rfl

theorem ve {S : List Fr} {res : am} {x0 : am} {x1 : List ae} {c2 : (List aa)} {a4 : (List Int)} {a5 : am} {c4 : PV} {a8 b0 a6 a9 : Nat} (hb : x1.length ≤ 1000 ∧ x0.Fields.length ≤ 50000 ∧ x0.Headers.length ≤ 50000) (d7 : lw x1 = c2) (d4 : c2.length ≤ x1.length) (d3 : kv x1 = a4) (b2 : (tSl tI).R a4 c4) (d6 : a4.length ≤ x1.length) (c5 : a5.Headers.length ≤ 50000) {K2 : am → am}
  (e0 : ∀ {zE102 : am} {a0 : PV} (a1 : am.t.R zE102 a0) {h : Heap} (M0 : Mem h [⟨.op a6 a9 0, 162, 3, [.agg [nilS, nilS, nilS]]⟩, ⟨.op a8 b0 0, 162, 3, [a0]⟩]), K2 zE102 = res → PX Tryz.prog 2 S (QR Tryz.prog [(4, some (3, true))] (RF111 res)) [(2, .op a8 b0 0), (4, .op a6 a9 0)] h) :
  ∀ {m : Nat} {a7 : Int} {zE102 : am} {a0 : PV} (a1 : am.t.R zE102 a0) (d5 : m = Int.toNat ((a4.length : Int) - a7)) (c3 : 0 ≤ a7) (b7 : (zE102.Headers.length : Int) ≤ 50000 + a7) (b8 : a7 ≤ (a4.length : Int)) {h : Heap} (M0 : Mem h [⟨.op a6 a9 0, 162, 3, [.agg [nilS, nilS, nilS]]⟩, ⟨.op a8 b0 0, 162, 3, [a0]⟩]), jq a4 K2 m a7 zE102 = res → RC Tryz.prog (.loop bn1) S (QR Tryz.prog [(4, some (3, true))] (RF111 res)) [(8, vi a7), (6, c4), (4, .op a6 a9 0), (2, .op a8 b0 0)] h := by
 have hb' := hb
 try simp only [qa, qaD] at hb'
 intro m
 induction m with
 | zero =>
  intro a7 zE102 a0 a1 d5 c3 b7 b8 h M0 hres
  rw [jq] at hres
  refine cj (ap (sR (mV rfl (mV rfl (af (cq rfl (ci b2 Tryz.underlying29 _)) (bN cn rfl rfl (nS ?_)))))))
  refine cd rfl ?_ ?_ <;> intro c <;> try simp only [qa, qaD] at c
  ·omega
  refine dl (eh (de ?_))
  exact wP (e0 a1 (Mem.sub M0 (.cons_cons _ (.cons_cons _ .slnil))) hres) rfl
 | succ m ih =>
  intro a7 zE102 a0 a1 d5 c3 b7 b8 h M0 hres
  rw [jq] at hres
  refine cj (ap (sR (mV rfl (mV rfl (af (cq rfl (ci b2 Tryz.underlying29 _)) (bN cn rfl rfl (nS ?_)))))))
  refine cd rfl ?_ ?_ <;> intro c <;> try simp only [qa, qaD] at c
  rotate_left
  ·omega
  refine az (au (ap (bf (aw (af (ba rfl) ?_)))))
  obtain ⟨d9, d1, c1⟩ := am.g_Headers a1
  refine af (bt (k := 1) M0 rfl rfl d1) (mV rfl (mV rfl (af (bn rfl rfl (slI b2 (by omega) (by omega))) (lR rfl rfl rfl ?_))))
  obtain ⟨d2, b6, hres⟩ := bp hres
  obtain ⟨b1, c8, b5⟩ := sr (x1 := (ix a4 a7)) c1 (by first | assumption | omega | (rw [cv (by omega) (by omega)]; omega))
  rw [b6] at b5
  have d8 := AddInt_len b6
  refine cL c8 rfl rfl (ak (TR.clo (tSl tI) c1) (ak rfl bd)) (af (ba rfl) ?_)
  obtain ⟨a3, c7, a2, d0, b4, c6, b3⟩ := a1
  subst d0
  refine iq (k := 1) (v := b1) M0 rfl rfl rfl (nj (TR.cnt (tSl tI) b5) (TR.agg (tSl tI) b5)) rfl (by first | decide | (simp only [List.length_cons, List.length_nil]; omega) | simp) (fun c9 b9 => ?_)
  replace b9 : Mem c9 [⟨.op a6 a9 0, 162, 3, [.agg [nilS, nilS, nilS]]⟩, ⟨.op a8 b0 0, 162, 3, [.agg [a3, b1, a2]]⟩] := b9
  refine br (cy (au (aw (mV rfl (bN dp rfl rfl (mV rfl (br (cx ?_))))))))
  have hbd := dc b2
  have hinc : wr (a7 + 1) = a7 + 1 := cv (by omega) (by omega)
  erw [hinc]
  exact wC (ih  (show am.t.R ({ Fields := zE102.Fields, Headers := d2, Registers := zE102.Registers } : am) (.agg [a3, b1, a2]) from ⟨a3, b1, a2, rfl, b4, b5, b3⟩) (by omega) (by omega) (by first | omega | ((try dsimp only); (try simp only [List.length_append, List.length_cons, List.length_nil]); omega) | simp) (by first | omega | ((try dsimp only); (try simp only [List.length_append, List.length_cons, List.length_nil]); omega) | simp) (Mem.sub b9 (.cons_cons _ (.cons_cons _ .slnil))) hres) rfl

theorem bf4 {x0 : am} {x1 : List ae} {v0 v1 : PV} (r0 : am.t.R x0 v0) (r1 : (tSl ae.t).R x1 v1) (hb : x1.length ≤ 1000 ∧ x0.Fields.length ≤ 50000 ∧ x0.Headers.length ≤ 50000) : ∃ r, FnR Tryz.prog 111 [v0, v1] r ∧ am.t.R (me x0 x1) r := by
 refine fnT (R := RF111) cg4 rfl fun res hres => ?_
 unfold me at hres
 refine sR ?_
 refine ak8 (x := v0) (Mem.nil ⟨0, []⟩) rfl (TR.cnt am.t r0) (fun b9 c5 d1 b7 => ?_)
 refine ek (x := .agg [nilS, nilS, nilS]) b7 rfl rfl (fun b5 c2 c9 c4 => ?_)
 refine nR (mV rfl ?_)
 obtain ⟨c1, a3, hres⟩ := bp hres
 obtain ⟨d2, b8, b1⟩ := bx7  r1 (by first | assumption | omega | (rw [cv (by omega) (by omega)]; omega))
 rw [a3] at b1
 have a6 : c1.length ≤ x1.length := zm a3
 refine cL b8 rfl rfl (ak (TR.clo (tSl ae.t) r1) bd) (mV rfl ?_)
 obtain ⟨c6, a2, hres⟩ := bp hres
 obtain ⟨d3, c7, b2⟩ := bt3  r1 (by first | assumption | omega | (rw [cv (by omega) (by omega)]; omega))
 rw [a2] at b2
 have a7 : c6.length ≤ x1.length := xk a2
 refine cL c7 rfl rfl (ak (TR.clo (tSl ae.t) r1) bd) (mV rfl (mV rfl (nS (ap (sR (mI rfl (nS (bf ?_))))))))
 have d0 : am.t.R ({ Fields := ([] : List aa), Headers := ([] : List Int), Registers := ([] : List Int) } : am) (.agg [nilS, nilS, nilS]) := ⟨nilS, nilS, nilS, rfl, fj, fj, fj⟩
 refine wC (vf hb a3 b1 a6 a2 a7 ?_  r0 rfl (by omega) (by first | omega | ((try dsimp only); (try simp only [List.length_append, List.length_cons, List.length_nil]); omega) | simp) (by first | omega | ((try dsimp only); (try simp only [List.length_append, List.length_cons, List.length_nil]); omega) | simp) (by first | omega | ((try dsimp only); (try simp only [List.length_append, List.length_cons, List.length_nil]); omega) | simp) (Mem.sub c4 (.cons_cons _ (.cons_cons _ .slnil))) hres) rfl
 ·intro b0 b3 a4 a5 c8 c3 hres
  refine em (au (ap (sR (mI rfl (nS (bf ?_))))))
  refine wC (ve hb a3 a6 a2 b2 a7 a5 ?_  a4 rfl (by omega) (by first | omega | ((try dsimp only); (try simp only [List.length_append, List.length_cons, List.length_nil]); omega) | simp) (by first | omega | ((try dsimp only); (try simp only [List.length_append, List.length_cons, List.length_nil]); omega) | simp) (Mem.sub c3 (.cons_cons _ (.cons_cons _ .slnil))) hres) rfl
  ·intro a9 a1 a0 d4 b4 hres
   refine em (au (sR (af (pf (k := 1) b4 rfl rfl (TR.agg am.t a0)) ?_)))
   refine dy (k := 0) (v := a1) b4 rfl rfl rfl (TR.cnt am.t a0) (fun b6 a8 => ?_)
   replace a8 : Mem b6 [⟨.op b5 c2 0, 162, 3, [a1]⟩, ⟨.op b9 c5 0, 162, 3, [a1]⟩] := a8
   refine nS ?_
   subst hres
   exact fw (.cell rfl (nt (k := 0) a8 rfl (TR.agg am.t a0)) .nil) (dq (TR.clo am.t a0)) a0

def RF38 (res : (List aa) × (List Int) × (List Int)) (r : PV) : Prop := ∃ c0, ∃ c1, ∃ c2, r = .tup [c0, c1, c2] ∧ (tSl aa.t).R res.1 c0 ∧ (tSl tI).R res.2.1 c1 ∧ (tSl tI).R res.2.2 c2
theorem yq {S : List Fr} {res : (List aa) × (List Int) × (List Int)} {x0 : ab} {x1 : Int} {i7 : Int × Int} {d8 : PV} {a7 a8 : Nat} (o1 : li x0 x1 = i7) (j4 : (!decide (i7.2 = 0)) = false) (d9 : (tSl aq.t).R ((ix x0.Actions x1).Body) d8) {K0 : am → ((List aa) × (List Int) × (List Int))}
  (o7 : ∀ {a5 : am} {b6 : PV} (c2 : am.t.R a5 b6) {h : Heap} (M0 : Mem h [⟨.op a7 a8 0, 162, 3, [b6]⟩]), K0 a5 = res → PX Tryz.prog 0 S (QR Tryz.prog [(4, none), (5, none), (6, none)] (RF38 res)) [(9, .op a7 a8 0)] h) :
  ∀ {m : Nat} {a0 : Int} {a5 : am} {b6 : PV} (c2 : am.t.R a5 b6) (o2 : m = Int.toNat ((((ix x0.Actions x1).Body).length : Int) - a0)) (k0 : 0 ≤ a0) (f6 : (a5.Fields.length : Int) ≤ 100 * a0) (f9 : (a5.Headers.length : Int) ≤ 100 * a0) (f7 : (a5.Registers.length : Int) ≤ 100 * a0) {h : Heap} (M0 : Mem h [⟨.op a7 a8 0, 162, 3, [b6]⟩]), jw x0 x1 K0 m a0 a5 = res → RC Tryz.prog (.loop cf9) S (QR Tryz.prog [(4, none), (5, none), (6, none)] (RF38 res)) [(11, vi a0), (10, d8), (9, .op a7 a8 0)] h := by
 have h2 := j4
 try simp only [qa, qaD] at h2
 intro m
 induction m with
 | zero =>
  intro a0 a5 b6 c2 o2 k0 f6 f9 f7 h M0 hres
  rw [jw] at hres
  refine cj (ap (sR (mV rfl (mV rfl (af (cq rfl (ci d9 Tryz.underlying95 _)) (bN cn rfl rfl (nS ?_)))))))
  refine cd rfl ?_ ?_ <;> intro c <;> try simp only [qa, qaD] at c
  ·omega
  refine dl (eh (de ?_))
  exact wP (o7 c2 (Mem.sub M0 (.cons_cons _ .slnil)) hres) rfl
 | succ m ih =>
  intro a0 a5 b6 c2 o2 k0 f6 f9 f7 h M0 hres
  rw [jw] at hres
  refine cj (ap (sR (mV rfl (mV rfl (af (cq rfl (ci d9 Tryz.underlying95 _)) (bN cn rfl rfl (nS ?_)))))))
  refine cd rfl ?_ ?_ <;> intro c <;> try simp only [qa, qaD] at c
  rotate_left
  ·omega
  refine az (au (ap (bf (sR (mV rfl (mV rfl ?_))))))
  obtain ⟨c4, m4, b5⟩ := dh (i := a0) d9 (by first | omega | (have hk := ck (by assumption) (by assumption); have hl := hk.2.1; omega)) (by first | omega | (have hk := ck (by assumption) (by assumption); have hl := hk.2.1; omega))
  refine af (bn rfl rfl m4) (lD b5 rfl rfl rfl ?_)
  refine ek (x := .agg [vi 0, vi 0, vi 0, vi 0, vi 0, nilS, nilS]) M0 rfl rfl (fun b8 b7 o8 l4 => ?_)
  refine dy (k := 0) (v := c4) l4 rfl rfl rfl (TR.cnt aq.t b5) (fun l5 d3 => ?_)
  replace d3 : Mem l5 [⟨.op b8 b7 0, 135, 7, [c4]⟩, ⟨.op a7 a8 0, 162, 3, [b6]⟩] := d3
  refine nS (ap (sR (af (ba rfl) (af (bt (k := 0) d3 rfl rfl (aq.g_Kind b5)) (bN dj rfl rfl (mV rfl ?_))))))
  refine ca 4 (d := 45) (v := vb ((decide (((ix ((ix x0.Actions x1).Body) a0).Kind) = 4)) || (decide (((ix ((ix x0.Actions x1).Body) a0).Kind) = 5)))) ?_ ?_
  ·intro S Q r
   cases j8 : (decide (((ix ((ix x0.Actions x1).Body) a0).Kind) = 4))
   ·intro k
    have h7 := j8
    try simp only [qa, qaD] at h7
    refine ah rfl rfl (ba rfl) (ah rfl rfl (bt (k := 0) d3 rfl rfl (aq.g_Kind b5)) (ah rfl rfl (cb rfl rfl dj) ?_))
    exact gK rfl rfl rfl rfl rfl k
   ·exact gN 3 rfl rfl rfl rfl rfl rfl
  refine nS ?_
  obtain ⟨l8, j7, hres⟩ := bp hres
  refine lm (F := fun b S Q => ∀ (a3 : am) (b1 : PV) (a6 : am.t.R a3 b1) (d4 : (a3.Fields.length : Int) ≤ a5.Fields.length + 24 ∧ (a3.Headers.length : Int) ≤ a5.Headers.length + 24 ∧ (a3.Registers.length : Int) ≤ a5.Registers.length + 24) (e0 : Heap) (c3 : Mem e0 [⟨.op b8 b7 0, 135, 7, [c4]⟩, ⟨.op a7 a8 0, 162, 3, [b1]⟩]), l8 a3 = res → RC Tryz.prog b S Q [(12, .op b8 b7 0), (11, vi a0), (10, d8), (9, .op a7 a8 0)] e0) ?_ ?_
  ·intro a3 b1 a6 d4 e0 c3 hres
   rw [← j7] at hres
   refine ap (sR (af (ba rfl) (af (bt (k := 0) c3 rfl rfl (aq.g_Kind b5)) (bN dj rfl rfl (mV rfl ?_)))))
   refine ca 4 (d := 57) (v := vb ((decide (((ix ((ix x0.Actions x1).Body) a0).Kind) = 1)) || (decide (((ix ((ix x0.Actions x1).Body) a0).Kind) = 5)))) ?_ ?_
   ·intro S Q r
    cases j2 : (decide (((ix ((ix x0.Actions x1).Body) a0).Kind) = 1))
    ·intro k
     have h5 := j2
     try simp only [qa, qaD] at h5
     refine ah rfl rfl (ba rfl) (ah rfl rfl (bt (k := 0) c3 rfl rfl (aq.g_Kind b5)) (ah rfl rfl (cb rfl rfl dj) ?_))
     exact gK rfl rfl rfl rfl rfl k
    ·exact gN 3 rfl rfl rfl rfl rfl rfl
   refine nS ?_
   obtain ⟨n1, i1, hres⟩ := bp hres
   refine lm (F := fun b S Q => ∀ (a1 : am) (b2 : PV) (a9 : am.t.R a1 b2) (d6 : (a1.Fields.length : Int) ≤ a3.Fields.length + 24 ∧ (a1.Headers.length : Int) ≤ a3.Headers.length + 24 ∧ (a1.Registers.length : Int) ≤ a3.Registers.length + 24) (e3 : Heap) (c1 : Mem e3 [⟨.op b8 b7 0, 135, 7, [c4]⟩, ⟨.op a7 a8 0, 162, 3, [b2]⟩]), n1 a1 = res → RC Tryz.prog b S Q [(12, .op b8 b7 0), (11, vi a0), (10, d8), (9, .op a7 a8 0)] e3) ?_ ?_
   ·intro a1 b2 a9 d6 e3 c1 hres
    rw [← i1] at hres
    refine ap (sR (af (ba rfl) (af (bt (k := 0) c1 rfl rfl (aq.g_Kind b5)) (bN dj rfl rfl (mV rfl ?_)))))
    refine ca 4 (d := 69) (v := vb ((decide (((ix ((ix x0.Actions x1).Body) a0).Kind) = 1)) || (decide (((ix ((ix x0.Actions x1).Body) a0).Kind) = 4)))) ?_ ?_
    ·intro S Q r
     cases h9 : (decide (((ix ((ix x0.Actions x1).Body) a0).Kind) = 1))
     ·intro k
      have g7 := h9
      try simp only [qa, qaD] at g7
      refine ah rfl rfl (ba rfl) (ah rfl rfl (bt (k := 0) c1 rfl rfl (aq.g_Kind b5)) (ah rfl rfl (cb rfl rfl dj) ?_))
      exact gK rfl rfl rfl rfl rfl k
     ·exact gN 3 rfl rfl rfl rfl rfl rfl
    refine mV rfl ?_
    refine ca 5 (d := 75) (v := vb (((decide (((ix ((ix x0.Actions x1).Body) a0).Kind) = 1)) || (decide (((ix ((ix x0.Actions x1).Body) a0).Kind) = 4))) && (!decide ((((ix ((ix x0.Actions x1).Body) a0).Dst).Header) = (-1))))) ?_ ?_
    ·intro S Q r
     cases i4 : ((decide (((ix ((ix x0.Actions x1).Body) a0).Kind) = 1)) || (decide (((ix ((ix x0.Actions x1).Body) a0).Kind) = 4)))
     ·exact gN 4 rfl rfl rfl rfl rfl rfl
     ·intro k
      have h1 := i4
      try simp only [qa, qaD] at h1
      refine ah rfl rfl (ba rfl) (ah rfl rfl (ba rfl) ?_)
      obtain ⟨p0, n5, m7⟩ := aq.g_Dst b5
      refine ah rfl rfl (bt (k := 0) c1 rfl rfl (rv n5 (aa.g_Header m7))) (ah rfl rfl (cb rfl rfl (ks (b := -1))) ?_)
      exact gK rfl rfl rfl rfl rfl k
    refine nS ?_
    obtain ⟨m9, k4, hres⟩ := bp hres
    refine lm (F := fun b S Q => ∀ (a2 : am) (b3 : PV) (b0 : am.t.R a2 b3) (d5 : (a2.Fields.length : Int) ≤ a1.Fields.length + 24 ∧ (a2.Headers.length : Int) ≤ a1.Headers.length + 24 ∧ (a2.Registers.length : Int) ≤ a1.Registers.length + 24) (e1 : Heap) (c6 : Mem e1 [⟨.op b8 b7 0, 135, 7, [c4]⟩, ⟨.op a7 a8 0, 162, 3, [b3]⟩]), m9 a2 = res → RC Tryz.prog b S Q [(12, .op b8 b7 0), (11, vi a0), (10, d8), (9, .op a7 a8 0)] e1) ?_ ?_
    ·intro a2 b3 b0 d5 e1 c6 hres
     rw [← k4] at hres
     refine ap (sR (af (ba rfl) (af (bt (k := 0) c6 rfl rfl (aq.g_Kind b5)) (bN dj rfl rfl (nS ?_)))))
     obtain ⟨n2, i3, hres⟩ := bp hres
     refine lm (F := fun b S Q => ∀ (a4 : am) (b9 : PV) (b4 : am.t.R a4 b9) (d7 : (a4.Fields.length : Int) ≤ a2.Fields.length + 24 ∧ (a4.Headers.length : Int) ≤ a2.Headers.length + 24 ∧ (a4.Registers.length : Int) ≤ a2.Registers.length + 24) (e2 : Heap) (c5 : Mem e2 [⟨.op b8 b7 0, 135, 7, [c4]⟩, ⟨.op a7 a8 0, 162, 3, [b9]⟩]), n2 a4 = res → RC Tryz.prog b S Q [(12, .op b8 b7 0), (11, vi a0), (10, d8), (9, .op a7 a8 0)] e2) ?_ ?_
     ·intro a4 b9 b4 d7 e2 c5 hres
      rw [← i3] at hres
      refine sR (af (ba rfl) (af (bt (k := 0) c5 rfl rfl (aq.g_Kind b5)) (bN dj rfl rfl (nS ?_))))
      refine bz hres rfl ?_ ?_ <;> clear hres <;> intro c hres <;> try simp only [qa, qaD] at c
      ·refine aw (af (ba rfl) ?_)
       obtain ⟨o4, l1, j0⟩ := am.g_Registers b4
       refine af (bt (k := 1) c5 rfl rfl l1) (af (ba rfl) (af (bt (k := 0) c5 rfl rfl (aq.g_Register b5)) ?_))
       obtain ⟨l7, f8, hres⟩ := bp hres
       obtain ⟨e6, n3, f4⟩ := sr (x1 := (ix ((ix x0.Actions x1).Body) a0).Register) j0 (by first | omega | (have hk := ck (by assumption) (by assumption); have hl := hk.2.1; omega) | (have hk := ck (by assumption) (by assumption); have hl := hk.2.1; have hv := bo_v hk.2 (k := a0) (by omega) (by omega) (by omega); omega) | (have hk := ck (by assumption) (by assumption); have hl := hk.2.1; have hv := bo_i hk.2 (k := a0) (by omega) (by omega) (by omega); omega) | (have hk := ck (by assumption) (by assumption); have hl := hk.2.1; have hv := bo_v hk.2 (k := a0) (by omega) (by omega) (by omega); have hi := bo_i hk.2 (k := a0) (by omega) (by omega) (by omega); omega))
       rw [f8] at f4
       have i2 := AddInt_len f8; try dsimp only at i2
       refine cL n3 rfl rfl (ak (TR.clo (tSl tI) j0) (ak rfl bd)) (af (ba rfl) ?_)
       obtain ⟨d0, c8, k5, m2, e9, f0, k8⟩ := b4
       subst m2
       refine iq (k := 1) (v := e6) c5 rfl rfl rfl (nj (TR.cnt (tSl tI) f4) (TR.agg (tSl tI) f4)) rfl (by first | decide | (simp only [List.length_cons, List.length_nil]; omega) | simp) (fun n9 h0 => ?_)
       replace h0 : Mem n9 [⟨.op b8 b7 0, 135, 7, [c4]⟩, ⟨.op a7 a8 0, 162, 3, [.agg [d0, c8, e6]]⟩] := h0
       refine br (cy (au (aw (mV rfl (bN dp rfl rfl (mV rfl (br (cx ?_))))))))
       have hbd := dc d9
       have hinc : wr (a0 + 1) = a0 + 1 := cv (by omega) (by omega)
       erw [hinc]
       exact wC (ih  (show am.t.R ({ Fields := a4.Fields, Headers := a4.Headers, Registers := l7 } : am) (.agg [d0, c8, e6]) from ⟨d0, c8, e6, rfl, e9, f0, f4⟩) (by omega) (by omega) (by first | omega | ((try dsimp only); first | omega | (have hk := ck (by assumption) (by assumption); have hl := hk.2.1; omega))) (by first | omega | ((try dsimp only); first | omega | (have hk := ck (by assumption) (by assumption); have hl := hk.2.1; omega))) (by first | omega | ((try dsimp only); first | omega | (have hk := ck (by assumption) (by assumption); have hl := hk.2.1; omega))) (Mem.sub h0 (.cons _ (.cons_cons _ .slnil))) hres) rfl
      ·refine az (cy (au (aw (mV rfl (bN dp rfl rfl (mV rfl (br (cx ?_))))))))
       have hbd := dc d9
       have hinc : wr (a0 + 1) = a0 + 1 := cv (by omega) (by omega)
       erw [hinc]
       exact wC (ih  b4 (by omega) (by omega) (by first | omega | ((try dsimp only); first | omega | (have hk := ck (by assumption) (by assumption); have hl := hk.2.1; omega))) (by first | omega | ((try dsimp only); first | omega | (have hk := ck (by assumption) (by assumption); have hl := hk.2.1; omega))) (by first | omega | ((try dsimp only); first | omega | (have hk := ck (by assumption) (by assumption); have hl := hk.2.1; omega))) (Mem.sub c5 (.cons _ (.cons_cons _ .slnil))) hres) rfl
     ·intro J
      refine bz hres rfl ?_ ?_ <;> clear hres <;> intro c hres <;> try simp only [qa, qaD] at c
      ·refine aw (af (ba rfl) ?_)
       obtain ⟨p1, m5, i6⟩ := am.g_Headers b0
       refine af (bt (k := 1) c6 rfl rfl m5) (af (ba rfl) (af (bt (k := 0) c6 rfl rfl (aq.g_Header b5)) ?_))
       obtain ⟨j6, g0, hres⟩ := bp hres
       obtain ⟨e8, l2, e4⟩ := sr (x1 := (ix ((ix x0.Actions x1).Body) a0).Header) i6 (by first | omega | (have hk := ck (by assumption) (by assumption); have hl := hk.2.1; omega) | (have hk := ck (by assumption) (by assumption); have hl := hk.2.1; have hv := bo_v hk.2 (k := a0) (by omega) (by omega) (by omega); omega) | (have hk := ck (by assumption) (by assumption); have hl := hk.2.1; have hv := bo_i hk.2 (k := a0) (by omega) (by omega) (by omega); omega) | (have hk := ck (by assumption) (by assumption); have hl := hk.2.1; have hv := bo_v hk.2 (k := a0) (by omega) (by omega) (by omega); have hi := bo_i hk.2 (k := a0) (by omega) (by omega) (by omega); omega))
       rw [g0] at e4
       have k3 := AddInt_len g0; try dsimp only at k3
       refine cL l2 rfl rfl (ak (TR.clo (tSl tI) i6) (ak rfl bd)) (af (ba rfl) ?_)
       obtain ⟨d1, k9, c7, l6, f5, k7, e7⟩ := b0
       subst l6
       refine iq (k := 1) (v := e8) c6 rfl rfl rfl (nj (TR.cnt (tSl tI) e4) (TR.agg (tSl tI) e4)) rfl (by first | decide | (simp only [List.length_cons, List.length_nil]; omega) | simp) (fun m3 g8 => ?_)
       replace g8 : Mem m3 [⟨.op b8 b7 0, 135, 7, [c4]⟩, ⟨.op a7 a8 0, 162, 3, [.agg [d1, e8, c7]]⟩] := g8
       refine br ?_
       refine au (wC (J ({ Fields := a2.Fields, Headers := j6, Registers := a2.Registers } : am) _ (show am.t.R ({ Fields := a2.Fields, Headers := j6, Registers := a2.Registers } : am) (.agg [d1, e8, c7]) from ⟨d1, e8, c7, rfl, f5, e4, e7⟩) (by first | omega | ((try dsimp only); first | omega | (have hk := ck (by assumption) (by assumption); have hl := hk.2.1; omega) | (have hk := ck (by assumption) (by assumption); have hl := hk.2.1; have hv := bo_v hk.2 (k := a0) (by omega) (by omega) (by omega); omega) | (have hk := ck (by assumption) (by assumption); have hl := hk.2.1; have hv := bo_i hk.2 (k := a0) (by omega) (by omega) (by omega); omega) | (have hk := ck (by assumption) (by assumption); have hl := hk.2.1; have hv := bo_v hk.2 (k := a0) (by omega) (by omega) (by omega); have hi := bo_i hk.2 (k := a0) (by omega) (by omega) (by omega); omega))) _ (Mem.sub g8 (.cons_cons _ (.cons_cons _ .slnil))) hres) rfl)
      ·refine az ?_
       refine au (wC (J a2 _ (show am.t.R a2 b3 from b0) (by first | omega | ((try dsimp only); first | omega | (have hk := ck (by assumption) (by assumption); have hl := hk.2.1; omega) | (have hk := ck (by assumption) (by assumption); have hl := hk.2.1; have hv := bo_v hk.2 (k := a0) (by omega) (by omega) (by omega); omega) | (have hk := ck (by assumption) (by assumption); have hl := hk.2.1; have hv := bo_i hk.2 (k := a0) (by omega) (by omega) (by omega); omega) | (have hk := ck (by assumption) (by assumption); have hl := hk.2.1; have hv := bo_v hk.2 (k := a0) (by omega) (by omega) (by omega); have hi := bo_i hk.2 (k := a0) (by omega) (by omega) (by omega); omega))) _ (Mem.sub c6 (.cons_cons _ (.cons_cons _ .slnil))) hres) rfl)
    ·intro J
     refine bz hres rfl ?_ ?_ <;> clear hres <;> intro c hres <;> try simp only [qa, qaD] at c
     ·refine aw (af (ba rfl) ?_)
      obtain ⟨o9, l3, h8⟩ := am.g_Headers a9
      refine af (bt (k := 1) c1 rfl rfl l3) (af (ba rfl) (af (ba rfl) ?_))
      obtain ⟨o5, m8, m1⟩ := aq.g_Dst b5
      refine af (bt (k := 0) c1 rfl rfl (rv m8 (aa.g_Header m1))) ?_
      obtain ⟨i0, g1, hres⟩ := bp hres
      obtain ⟨f1, n4, f3⟩ := sr (x1 := ((ix ((ix x0.Actions x1).Body) a0).Dst).Header) h8 (by first | omega | (have hk := ck (by assumption) (by assumption); have hl := hk.2.1; omega) | (have hk := ck (by assumption) (by assumption); have hl := hk.2.1; have hv := bo_v hk.2 (k := a0) (by omega) (by omega) (by omega); omega) | (have hk := ck (by assumption) (by assumption); have hl := hk.2.1; have hv := bo_i hk.2 (k := a0) (by omega) (by omega) (by omega); omega) | (have hk := ck (by assumption) (by assumption); have hl := hk.2.1; have hv := bo_v hk.2 (k := a0) (by omega) (by omega) (by omega); have hi := bo_i hk.2 (k := a0) (by omega) (by omega) (by omega); omega))
      rw [g1] at f3
      have i9 := AddInt_len g1; try dsimp only at i9
      refine cL n4 rfl rfl (ak (TR.clo (tSl tI) h8) (ak rfl bd)) (af (ba rfl) ?_)
      obtain ⟨d2, l0, c9, n0, f2, k6, e5⟩ := a9
      subst n0
      refine iq (k := 1) (v := f1) c1 rfl rfl rfl (nj (TR.cnt (tSl tI) f3) (TR.agg (tSl tI) f3)) rfl (by first | decide | (simp only [List.length_cons, List.length_nil]; omega) | simp) (fun m0 h6 => ?_)
      replace h6 : Mem m0 [⟨.op b8 b7 0, 135, 7, [c4]⟩, ⟨.op a7 a8 0, 162, 3, [.agg [d2, f1, c9]]⟩] := h6
      refine br ?_
      refine au (wC (J ({ Fields := a1.Fields, Headers := i0, Registers := a1.Registers } : am) _ (show am.t.R ({ Fields := a1.Fields, Headers := i0, Registers := a1.Registers } : am) (.agg [d2, f1, c9]) from ⟨d2, f1, c9, rfl, f2, f3, e5⟩) (by first | omega | ((try dsimp only); first | omega | (have hk := ck (by assumption) (by assumption); have hl := hk.2.1; omega) | (have hk := ck (by assumption) (by assumption); have hl := hk.2.1; have hv := bo_v hk.2 (k := a0) (by omega) (by omega) (by omega); omega) | (have hk := ck (by assumption) (by assumption); have hl := hk.2.1; have hv := bo_i hk.2 (k := a0) (by omega) (by omega) (by omega); omega) | (have hk := ck (by assumption) (by assumption); have hl := hk.2.1; have hv := bo_v hk.2 (k := a0) (by omega) (by omega) (by omega); have hi := bo_i hk.2 (k := a0) (by omega) (by omega) (by omega); omega))) _ (Mem.sub h6 (.cons_cons _ (.cons_cons _ .slnil))) hres) rfl)
     ·refine az ?_
      refine au (wC (J a1 _ (show am.t.R a1 b2 from a9) (by first | omega | ((try dsimp only); first | omega | (have hk := ck (by assumption) (by assumption); have hl := hk.2.1; omega) | (have hk := ck (by assumption) (by assumption); have hl := hk.2.1; have hv := bo_v hk.2 (k := a0) (by omega) (by omega) (by omega); omega) | (have hk := ck (by assumption) (by assumption); have hl := hk.2.1; have hv := bo_i hk.2 (k := a0) (by omega) (by omega) (by omega); omega) | (have hk := ck (by assumption) (by assumption); have hl := hk.2.1; have hv := bo_v hk.2 (k := a0) (by omega) (by omega) (by omega); have hi := bo_i hk.2 (k := a0) (by omega) (by omega) (by omega); omega))) _ (Mem.sub c1 (.cons_cons _ (.cons_cons _ .slnil))) hres) rfl)
   ·intro J
    refine bz hres rfl ?_ ?_ <;> clear hres <;> intro c hres <;> try simp only [qa, qaD] at c
    ·refine aw (af (pf (k := 1) c3 rfl rfl (TR.agg am.t a6)) (af (ba rfl) ?_))
     obtain ⟨o6, n8, j5⟩ := aq.g_Value b5
     refine af (bt (k := 0) c3 rfl rfl n8) ?_
     obtain ⟨i5, g2, hres⟩ := bp hres
     obtain ⟨h3, l9, g4⟩ := bf4  a6 j5 (by first | omega | (have hk := ck (by assumption) (by assumption); have hl := hk.2.1; omega) | (have hk := ck (by assumption) (by assumption); have hl := hk.2.1; have hv := bo_v hk.2 (k := a0) (by omega) (by omega) (by omega); omega) | (have hk := ck (by assumption) (by assumption); have hl := hk.2.1; have hv := bo_i hk.2 (k := a0) (by omega) (by omega) (by omega); omega) | (have hk := ck (by assumption) (by assumption); have hl := hk.2.1; have hv := bo_v hk.2 (k := a0) (by omega) (by omega) (by omega); have hi := bo_i hk.2 (k := a0) (by omega) (by omega) (by omega); omega))
     rw [g2] at g4
     have i8 := zp g2; try dsimp only at i8
     refine cL l9 rfl rfl (ak (TR.clo am.t a6) (ak (TR.clo (tSl ae.t) j5) bd)) ?_
     refine dy (k := 1) (v := h3) c3 rfl rfl rfl (TR.cnt am.t g4) (fun o0 g6 => ?_)
     replace g6 : Mem o0 [⟨.op b8 b7 0, 135, 7, [c4]⟩, ⟨.op a7 a8 0, 162, 3, [h3]⟩] := g6
     refine br ?_
     refine au (wC (J i5 _ (show am.t.R i5 h3 from g4) (by first | omega | ((try dsimp only); first | omega | (have hk := ck (by assumption) (by assumption); have hl := hk.2.1; omega) | (have hk := ck (by assumption) (by assumption); have hl := hk.2.1; have hv := bo_v hk.2 (k := a0) (by omega) (by omega) (by omega); omega) | (have hk := ck (by assumption) (by assumption); have hl := hk.2.1; have hv := bo_i hk.2 (k := a0) (by omega) (by omega) (by omega); omega) | (have hk := ck (by assumption) (by assumption); have hl := hk.2.1; have hv := bo_v hk.2 (k := a0) (by omega) (by omega) (by omega); have hi := bo_i hk.2 (k := a0) (by omega) (by omega) (by omega); omega))) _ (Mem.sub g6 (.cons_cons _ (.cons_cons _ .slnil))) hres) rfl)
    ·refine az ?_
     refine au (wC (J a3 _ (show am.t.R a3 b1 from a6) (by first | omega | ((try dsimp only); first | omega | (have hk := ck (by assumption) (by assumption); have hl := hk.2.1; omega) | (have hk := ck (by assumption) (by assumption); have hl := hk.2.1; have hv := bo_v hk.2 (k := a0) (by omega) (by omega) (by omega); omega) | (have hk := ck (by assumption) (by assumption); have hl := hk.2.1; have hv := bo_i hk.2 (k := a0) (by omega) (by omega) (by omega); omega) | (have hk := ck (by assumption) (by assumption); have hl := hk.2.1; have hv := bo_v hk.2 (k := a0) (by omega) (by omega) (by omega); have hi := bo_i hk.2 (k := a0) (by omega) (by omega) (by omega); omega))) _ (Mem.sub c3 (.cons_cons _ (.cons_cons _ .slnil))) hres) rfl)
  ·intro J
   refine bz hres rfl ?_ ?_ <;> clear hres <;> intro c hres <;> try simp only [qa, qaD] at c
   ·refine aw (af (pf (k := 1) d3 rfl rfl (TR.agg am.t c2)) (af (ba rfl) ?_))
    obtain ⟨o3, n6, j9⟩ := aq.g_Index b5
    refine af (bt (k := 0) d3 rfl rfl n6) ?_
    obtain ⟨j1, g3, hres⟩ := bp hres
    obtain ⟨g9, m6, h4⟩ := bf4  c2 j9 (by first | omega | (have hk := ck (by assumption) (by assumption); have hl := hk.2.1; omega) | (have hk := ck (by assumption) (by assumption); have hl := hk.2.1; have hv := bo_v hk.2 (k := a0) (by omega) (by omega) (by omega); omega) | (have hk := ck (by assumption) (by assumption); have hl := hk.2.1; have hv := bo_i hk.2 (k := a0) (by omega) (by omega) (by omega); omega) | (have hk := ck (by assumption) (by assumption); have hl := hk.2.1; have hv := bo_v hk.2 (k := a0) (by omega) (by omega) (by omega); have hi := bo_i hk.2 (k := a0) (by omega) (by omega) (by omega); omega))
    rw [g3] at h4
    have j3 := zp g3; try dsimp only at j3
    refine cL m6 rfl rfl (ak (TR.clo am.t c2) (ak (TR.clo (tSl ae.t) j9) bd)) ?_
    refine dy (k := 1) (v := g9) d3 rfl rfl rfl (TR.cnt am.t h4) (fun n7 g5 => ?_)
    replace g5 : Mem n7 [⟨.op b8 b7 0, 135, 7, [c4]⟩, ⟨.op a7 a8 0, 162, 3, [g9]⟩] := g5
    refine br ?_
    refine au (wC (J j1 _ (show am.t.R j1 g9 from h4) (by first | omega | ((try dsimp only); first | omega | (have hk := ck (by assumption) (by assumption); have hl := hk.2.1; omega) | (have hk := ck (by assumption) (by assumption); have hl := hk.2.1; have hv := bo_v hk.2 (k := a0) (by omega) (by omega) (by omega); omega) | (have hk := ck (by assumption) (by assumption); have hl := hk.2.1; have hv := bo_i hk.2 (k := a0) (by omega) (by omega) (by omega); omega) | (have hk := ck (by assumption) (by assumption); have hl := hk.2.1; have hv := bo_v hk.2 (k := a0) (by omega) (by omega) (by omega); have hi := bo_i hk.2 (k := a0) (by omega) (by omega) (by omega); omega))) _ (Mem.sub g5 (.cons_cons _ (.cons_cons _ .slnil))) hres) rfl)
   ·refine az ?_
    refine au (wC (J a5 _ (show am.t.R a5 b6 from c2) (by first | omega | ((try dsimp only); first | omega | (have hk := ck (by assumption) (by assumption); have hl := hk.2.1; omega) | (have hk := ck (by assumption) (by assumption); have hl := hk.2.1; have hv := bo_v hk.2 (k := a0) (by omega) (by omega) (by omega); omega) | (have hk := ck (by assumption) (by assumption); have hl := hk.2.1; have hv := bo_i hk.2 (k := a0) (by omega) (by omega) (by omega); omega) | (have hk := ck (by assumption) (by assumption); have hl := hk.2.1; have hv := bo_v hk.2 (k := a0) (by omega) (by omega) (by omega); have hi := bo_i hk.2 (k := a0) (by omega) (by omega) (by omega); omega))) _ (Mem.sub d3 (.cons_cons _ (.cons_cons _ .slnil))) hres) rfl)

theorem cw6 {x0 : ab} {x1 : Int} {v0 : PV} (r0 : ab.t.R x0 v0) : ∃ c0, ∃ c1, ∃ c2, FnR Tryz.prog 38 [v0, vi x1] (.tup [c0, c1, c2]) ∧ (tSl aa.t).R (mw x0 x1).1 c0 ∧ (tSl tI).R (mw x0 x1).2.1 c1 ∧ (tSl tI).R (mw x0 x1).2.2 c2 := by
 obtain ⟨res, hres⟩ : ∃ res, mw x0 x1 = res := ⟨_, rfl⟩
 suffices H : RC Tryz.prog ct7 [] (QR Tryz.prog [(4, none), (5, none), (6, none)] (RF38 res)) (argE 0 [v0, vi x1]) ⟨0, []⟩ by
  rw [hres]
  obtain ⟨r, h1, c0, c1, c2, rfl, d2, d3, d1⟩ := fnE cu8 (by simp) H
  exact ⟨c0, c1, c2, h1, d2, d3, d1⟩
 unfold mw at hres
 refine sR (af (dn rfl (TR.cnt ab.t r0)) (af (v := nilS) (ax rfl) (af (v := nilS) (ax rfl) (af (v := nilS) (ax rfl) (nR (lD r0 rfl rfl rfl (mV rfl ?_)))))))
 obtain ⟨d4, a2, hres⟩ := bp hres
 have b0 := bw3 (x1 := x1) r0 
 rw [a2] at b0
 refine cL b0 rfl rfl (ak (TR.clo ab.t r0) (ak rfl bd)) (mV rfl (xT rfl rfl (xT rfl rfl (mV rfl (mV rfl (nS (ap (sR ?_))))))))
 refine mV rfl (bN ks rfl rfl (nS ?_))
 refine bz hres rfl ?_ ?_ <;> clear hres <;> intro a1 hres <;> have a3 := a1 <;> try simp only [qa, qaD] at a3
 ·refine sR (af (v := nilS) (ax rfl) (af (v := nilS) (ax rfl) (af (v := nilS) (ax rfl) (nS ?_))))
  subst hres
  exact fw (.tmp rfl (.tmp rfl (.tmp rfl .nil))) (dq (show closed (.tup _) = true from (ak (TR.clo (tSl aa.t) fj) (ak (TR.clo (tSl tI) fj) (ak (TR.clo (tSl tI) fj) bd))))) ⟨nilS, nilS, nilS, rfl, fj, fj, fj⟩
 ·refine az (au (sR (af (v := .agg [nilS, nilS, nilS]) (lr (cs := [nilS, nilS, nilS]) rfl rfl) ?_)))
  refine ek (x := .agg [nilS, nilS, nilS]) (Mem.nil ⟨0, []⟩) rfl rfl (fun b3 c3 c9 c4 => ?_)
  refine dy (k := 0) (v := .agg [nilS, nilS, nilS]) c4 rfl rfl rfl rfl (fun c7 a5 => ?_)
  replace a5 : Mem c7 [⟨.op b3 c3 0, 162, 3, [.agg [nilS, nilS, nilS]]⟩] := a5
  refine nR (gL (ab.g_Actions r0) rfl rfl rfl fun d5 b5 => (mV rfl ?_))
  obtain ⟨d0, c5, b2⟩ := dh (i := x1) b5 (by first | omega | (have hk := ck (by assumption) (by assumption); have hl := hk.2.1; omega)) (by first | omega | (have hk := ck (by assumption) (by assumption); have hl := hk.2.1; omega))
  refine af (bn rfl rfl c5) (gL (bc.g_Body b2) rfl rfl rfl fun d7 b6 => (mV rfl (nS (ap (sR (mI rfl (nS (bf ?_))))))))
  refine wC (yq a2 a1 b6 ?_  (show am.t.R ({ Fields := ([] : List aa), Headers := ([] : List Int), Registers := ([] : List Int) } : am) (.agg [nilS, nilS, nilS]) from ⟨nilS, nilS, nilS, rfl, fj, fj, fj⟩) rfl (by omega) (by first | omega | ((try dsimp only); (try simp only [List.length_append, List.length_cons, List.length_nil]); omega) | simp) (by first | omega | ((try dsimp only); (try simp only [List.length_append, List.length_cons, List.length_nil]); omega) | simp) (by first | omega | ((try dsimp only); (try simp only [List.length_append, List.length_cons, List.length_nil]); omega) | simp) (Mem.sub a5 (.cons_cons _ .slnil)) hres) rfl
  ·intro a6 b1 a0 d6 a4 hres
   refine em (au (sR (af (ba rfl) ?_)))
   obtain ⟨b7, c6, a9⟩ := am.g_Fields a0
   refine af (bt (k := 0) a4 rfl rfl c6) (af (ba rfl) ?_)
   obtain ⟨b9, b8, a7⟩ := am.g_Headers a0
   refine af (bt (k := 0) a4 rfl rfl b8) (af (ba rfl) ?_)
   obtain ⟨b4, c8, a8⟩ := am.g_Registers a0
   refine af (bt (k := 0) a4 rfl rfl c8) (mV rfl (mV rfl (mV rfl (nS ?_))))
   subst hres
   exact fw (.tmp rfl (.tmp rfl (.tmp rfl .nil))) (dq (show closed (.tup _) = true from (ak (TR.clo (tSl aa.t) a9) (ak (TR.clo (tSl tI) a7) (ak (TR.clo (tSl tI) a8) bd))))) ⟨b7, b9, b4, rfl, a9, a7, a8⟩

end Go.Proofs.YtmonnlkagniolaaGreat
