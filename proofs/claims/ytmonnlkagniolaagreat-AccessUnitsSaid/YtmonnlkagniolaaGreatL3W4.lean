/-
 The code of each function does what its plain program says.
-/
import Derived.Test.YtmonnlkagniolaaGreatL3W3
set_option linter.unusedVariables false
set_option linter.unusedSimpArgs false
set_option maxRecDepth 100000
namespace Go.Proofs.YtmonnlkagniolaaGreat
open Go Go.Pb Go.RowKit
def RF104 (res : Int) (r : PV) : Prop := r = vi res
theorem ce8 {x0 : db} {x1 : aq} {v0 v1 : PV} (r0 : db.t.R x0 v0) (r1 : aq.t.R x1 v1) : FnR Tryz.prog 104 [v0, v1] (vi (dw x0 x1)) := by
 refine fnS (R := RF104) be7 (fun _ h => h) rfl fun res hres => ?_
 unfold dw at hres
 refine sR (af (dn rfl (TR.cnt db.t r0)) (af (dn rfl (TR.cnt aq.t r1)) (mI rfl (nR ?_))))
 obtain ⟨f6, f1, e0⟩ := db.g_scope r0
 refine fA rfl f1 (gL (av.g_Program e0) rfl rfl rfl fun b1 a3 => ?_)
 refine ek (x := .agg [vs [], nilS, nilS, nilS, nilS, nilS, nilS, nilS, nilS]) (Mem.nil ⟨0, []⟩) rfl rfl (fun a8 b0 f5 f3 => ?_)
 refine dy (k := 0) (v := b1) f3 rfl rfl rfl (TR.cnt ab.t a3) (fun d9 a5 => ?_)
 replace a5 : Mem d9 [⟨.op a8 b0 0, 31, 9, [b1]⟩] := a5
 refine nR (af (pf (k := 0) a5 rfl rfl (TR.agg ab.t a3)) (gL (aq.g_Dst r1) rfl rfl rfl fun f4 b6 => ?_))
 obtain ⟨a2, b7, hres⟩ := bp hres
 have d2 := cd2  a3 b6 
 rw [b7] at d2
 refine cL d2 rfl rfl (ak (TR.clo ab.t a3) (ak (TR.clo aa.t b6) bd)) (mV rfl (xT rfl rfl (xT rfl rfl (mV rfl (mV rfl (nR (fL rfl (aq.g_Register r1) rfl rfl (bN kt rfl rfl ?_))))))))
 refine mV rfl ?_
 refine ca 7 (d := 31) (v := vb ((decide (0 ≤ x1.Register)) && (decide (x1.Register < (x0.scope.Program.Registers.length : Int))))) ?_ ?_
 ·intro S Q r
  cases d1 : (decide (0 ≤ x1.Register))
  ·exact gN 6 rfl rfl rfl rfl rfl rfl
  ·intro k
   have b3 := d1
   try simp only [qa, qaD] at b3
   refine ah rfl rfl (bw rfl (aq.g_Register r1)) (ah rfl rfl (bv rfl rfl rfl) (ah rfl rfl (ba rfl) ?_))
   obtain ⟨g0, f0, d7⟩ := ab.g_Registers a3
   refine ah rfl rfl (bt (k := 0) a5 rfl rfl f0) (ah rfl rfl (cq rfl (ci d7 Tryz.underlying24 _)) (ah rfl rfl (cb rfl rfl cn) ?_))
   exact gK rfl rfl rfl rfl rfl k
 refine mV rfl (nS (ap (sR (fL rfl (aq.g_Kind r1) rfl rfl (nS (bf (sR (bN dj rfl rfl ?_))))))))
 refine mV rfl (nS ?_)
 refine bz hres rfl ?_ ?_ <;> clear hres <;> intro c hres <;> try simp only [qa, qaD] at c
 ·refine ap (sR (mV rfl (af (kp rfl) (nS ?_))))
  refine bz hres rfl ?_ ?_ <;> clear hres <;> intro c hres <;> try simp only [qa, qaD] at c
  ·refine sR (mI rfl (nS ?_))
   exact rR hres rfl rfl rfl
  ·refine az (au (sR (lD r0 rfl rfl rfl (gL (aq.g_Value r1) rfl rfl rfl fun g9 c7 => (mV rfl ?_)))))
   obtain ⟨f8, d0, hres⟩ := bp hres
   have c5 := bh0 (x2 := a2.1) r0 c7 
   rw [d0] at c5
   refine cL c5 rfl rfl (ak (TR.clo db.t r0) (ak (TR.clo (tSl ae.t) c7) (ak rfl bd))) (mV rfl (nS ?_))
   exact rR hres rfl rfl rfl
 ·refine ap (sR (bN dj rfl rfl (mV rfl (nS ?_))))
  obtain ⟨d6, c3, hres⟩ := bp hres
  refine lm (F := fun b S Q => ∀ (a0 : Bool) (a7 : Heap) (a4 : Mem a7 [⟨.op a8 b0 0, 31, 9, [b1]⟩]), d6 a0 = res → RC Tryz.prog b S Q [(43, vb a0), (33, vi x1.Kind), (8, vb ((decide (0 ≤ x1.Register)) && (decide (x1.Register < (x0.scope.Program.Registers.length : Int))))), (7, vb a2.2), (6, vi a2.1), (5, .op a8 b0 0), (3, .fp v1), (2, .fp v0)] a7) ?_ ?_
  ·intro a0 a7 a4 hres
   rw [← c3] at hres
   refine bz hres rfl ?_ ?_ <;> clear hres <;> intro c hres <;> try simp only [qa, qaD] at c
   ·refine ap (sR (fL rfl (aq.g_Header r1) rfl rfl (bN cn rfl rfl (mV rfl ?_))))
    refine ca 7 (d := 56) (v := vb ((decide (x1.Header < 0)) || (decide ((x0.scope.Program.Headers.length : Int) ≤ x1.Header)))) ?_ ?_
    ·intro S Q r
     cases b9 : (decide (x1.Header < 0))
     ·intro k
      have b5 := b9
      try simp only [qa, qaD] at b5
      refine ah rfl rfl (bw rfl (aq.g_Header r1)) (ah rfl rfl (bv rfl rfl rfl) (ah rfl rfl (ba rfl) ?_))
      obtain ⟨f9, e5, f2⟩ := ab.g_Headers a3
      refine ah rfl rfl (bt (k := 0) a4 rfl rfl e5) (ah rfl rfl (cq rfl (ci f2 Tryz.underlying22 _)) (ah rfl rfl (cb rfl rfl kt) ?_))
      exact gK rfl rfl rfl rfl rfl k
     ·exact gN 6 rfl rfl rfl rfl rfl rfl
    refine nS ?_
    refine bz hres rfl ?_ ?_ <;> clear hres <;> intro c hres <;> try simp only [qa, qaD] at c
    ·refine sR (mI rfl (nS ?_))
     exact rR hres rfl rfl rfl
    ·refine az (au (sR (mI rfl (nS ?_))))
     exact rR hres rfl rfl rfl
   ·refine ap (sR (bN dj rfl rfl (mV rfl (nS ?_))))
    obtain ⟨d8, c9, hres⟩ := bp hres
    refine lm (F := fun b S Q => ∀ (a1 : Bool) (a9 : Heap) (a6 : Mem a9 [⟨.op a8 b0 0, 31, 9, [b1]⟩]), d8 a1 = res → RC Tryz.prog b S Q [(57, vb a1), (8, vb ((decide (0 ≤ x1.Register)) && (decide (x1.Register < (x0.scope.Program.Registers.length : Int))))), (7, vb a2.2), (6, vi a2.1), (5, .op a8 b0 0), (3, .fp v1), (2, .fp v0)] a9) ?_ ?_
    ·intro a1 a9 a6 hres
     rw [← c9] at hres
     refine bz hres rfl ?_ ?_ <;> clear hres <;> intro c hres <;> try simp only [qa, qaD] at c
     ·refine ap (sR (mV rfl (af (kp rfl) (mV rfl ?_))))
      refine ca 8 (d := 70) (v := vb ((!((decide (0 ≤ x1.Register)) && (decide (x1.Register < (x0.scope.Program.Registers.length : Int))))) || ((decide (x1.Kind = 4)) && (!a2.2)))) ?_ ?_
      ·intro S Q r
       cases d5 : (!((decide (0 ≤ x1.Register)) && (decide (x1.Register < (x0.scope.Program.Registers.length : Int)))))
       ·intro k
        have b2 := d5
        try simp only [qa, qaD] at b2
        refine ah rfl rfl (bw rfl (aq.g_Kind r1)) (ah rfl rfl (bv rfl rfl rfl) (ah rfl rfl (cb rfl rfl dj) (ah rfl rfl (ax rfl) ?_)))
        refine ca 3 (d := 69) (v := vb ((decide (x1.Kind = 4)) && (!a2.2))) ?_ ?_
        ·intro S Q r
         cases b8 : (decide (x1.Kind = 4))
         ·intro k
          refine ij rfl rfl (ij rfl rfl (ah (v := vb false) rfl rfl (nr rfl rfl rfl rfl) ?_))
          exact wD k rfl
         ·intro k
          have b4 := b8
          try simp only [qa, qaD] at b4
          refine ah rfl rfl (ax rfl) (ah rfl rfl (kp rfl) (ah (v := vb (!a2.2)) rfl rfl (nr rfl rfl rfl rfl) ?_))
          exact wD k rfl
        exact gK rfl rfl rfl rfl rfl k
       ·exact gN 7 rfl rfl rfl rfl rfl rfl
      refine nS ?_
      refine bz hres rfl ?_ ?_ <;> clear hres <;> intro c hres <;> try simp only [qa, qaD] at c
      ·refine sR (mI rfl (nS ?_))
       exact rR hres rfl rfl rfl
      ·refine az (au (ap (sR (gL (aq.g_Index r1) rfl rfl rfl fun g1 d3 => (gL (db.g_scope r0) rfl rfl rfl fun g4 c4 => ?_)))))
       obtain ⟨g8, c6, hres⟩ := bp hres
       have d4 := ba5  d3 c4 
       rw [c6] at d4
       refine cL d4 rfl rfl (ak (TR.clo (tSl ae.t) d3) (ak (TR.clo av.t c4) bd)) (mV rfl (xT rfl rfl (xT rfl rfl (mV rfl (mV rfl (nR (mV rfl (bN ks rfl rfl ?_))))))))
       refine nS ?_
       refine bz hres rfl ?_ ?_ <;> clear hres <;> intro c hres <;> try simp only [qa, qaD] at c
       ·refine sR (mV rfl (mV rfl (nS ?_)))
        exact rR hres rfl rfl rfl
       ·refine az (au (ap (sR (fL rfl (aq.g_Kind r1) rfl rfl (bN dj rfl rfl (nS ?_))))))
        refine bz hres rfl ?_ ?_ <;> clear hres <;> intro c hres <;> try simp only [qa, qaD] at c
        ·refine sR (lD r0 rfl rfl rfl (gL (aq.g_Value r1) rfl rfl rfl fun g6 c2 => (af (ba rfl) ?_)))
         obtain ⟨g3, e4, e6⟩ := ab.g_Registers a3
         refine af (bt (k := 0) a6 rfl rfl e4) (fL rfl (aq.g_Register r1) rfl rfl ?_)
         obtain ⟨g7, e3, e2⟩ := dh (i := x1.Register) e6 (by omega) (by omega)
         refine af (bn rfl rfl e3) (fL rfl (cg.g_Width e2) rfl rfl ?_)
         obtain ⟨g5, c1, hres⟩ := bp hres
         have c8 := bh0 (x2 := (ix x0.scope.Program.Registers x1.Register).Width) r0 c2 
         rw [c1] at c8
         refine cL c8 rfl rfl (ak (TR.clo db.t r0) (ak (TR.clo (tSl ae.t) c2) (ak rfl bd))) (mV rfl (nS ?_))
         exact rR hres rfl rfl rfl
        ·refine az (au (ap (sR (mV rfl (af (ba rfl) ?_)))))
         obtain ⟨f7, e9, e8⟩ := ab.g_Registers a3
         refine af (bt (k := 0) a6 rfl rfl e9) (fL rfl (aq.g_Register r1) rfl rfl ?_)
         obtain ⟨g2, e7, e1⟩ := dh (i := x1.Register) e8 (by omega) (by omega)
         refine af (bn rfl rfl e7) (fL rfl (cg.g_Width e1) rfl rfl (bN ks rfl rfl (nS ?_)))
         refine bz hres rfl ?_ ?_ <;> clear hres <;> intro c hres <;> try simp only [qa, qaD] at c
         ·refine sR (mI rfl (nS ?_))
          exact rR hres rfl rfl rfl
         ·refine az (au (sR (mI rfl (nS ?_))))
          exact rR hres rfl rfl rfl
     ·refine az (cy (au (sR (mI rfl (nS ?_)))))
      exact rR hres rfl rfl rfl
    ·intro J
     refine bz hres rfl ?_ ?_ <;> clear hres <;> intro c hres <;> try simp only [qa, qaD] at c
     ·refine az ?_
      refine au (wC (J _ _ (Mem.sub a4 (.cons_cons _ .slnil)) hres) rfl)
     ·refine aw (bN dj rfl rfl (mV rfl (br ?_)))
      refine au (wC (J _ _ (Mem.sub a4 (.cons_cons _ .slnil)) hres) rfl)
  ·intro J
   refine bz hres rfl ?_ ?_ <;> clear hres <;> intro c hres <;> try simp only [qa, qaD] at c
   ·refine az ?_
    refine au (wC (J _ _ (Mem.sub a5 (.cons_cons _ .slnil)) hres) rfl)
   ·refine aw (bN dj rfl rfl (mV rfl (br ?_)))
    refine au (wC (J _ _ (Mem.sub a5 (.cons_cons _ .slnil)) hres) rfl)

def RF35 (res : Int × Int) (r : PV) : Prop := r = .tup [vi res.1, vi res.2]
theorem wn {S : List Fr} {res : Int × Int} {x0 : ab} {x1 c2 : Int} {b3 a0 a5 a1 a3 a4 a6 a2 a7 c3 : PV} {b2 b1 : Nat} (c6 : ((decide (x1 < 0)) || (decide ((x0.Actions.length : Int) ≤ x1))) = false) (d2 : jl (ix x0.Actions x1) = c2) (b7 : (!decide (c2 = 0)) = false) (c4 : (tSl aq.t).R ((ix x0.Actions x1).Body) c3) (b6 : db.t.R ({ scope := ({ Program := x0, Params := (ix x0.Actions x1).Params } : av) } : db) (.agg [vs x0.Name, a0, a5, a1, a3, a4, a6, a2, a7, b3])) {K0 : Unit → (Int × Int)}
  (d5 : ∀ {h : Heap} (M0 : Mem h [⟨.op b2 b1 0, 151, 10, [.agg [vs x0.Name, a0, a5, a1, a3, a4, a6, a2, a7, b3]]⟩]), K0 () = res → PX Tryz.prog 0 S (QR Tryz.prog [(4, none), (5, none)] (RF35 res)) [] h) :
  ∀ {m : Nat} {a8 : Int} (d3 : m = Int.toNat ((((ix x0.Actions x1).Body).length : Int) - a8)) (c1 : 0 ≤ a8) {h : Heap} (M0 : Mem h [⟨.op b2 b1 0, 151, 10, [.agg [vs x0.Name, a0, a5, a1, a3, a4, a6, a2, a7, b3]]⟩]), jk x0 x1 K0 m a8 = res → RC Tryz.prog (.loop ce0) S (QR Tryz.prog [(4, none), (5, none)] (RF35 res)) [(37, vi a8), (36, vi (((ix x0.Actions x1).Body).length : Int)), (35, c3), (7, .op b2 b1 0)] h := by
 have b4 := c6
 try simp only [qa, qaD] at b4
 have b5 := b7
 try simp only [qa, qaD] at b5
 intro m
 induction m with
 | zero =>
  intro a8 d3 c1 h M0 hres
  rw [jk] at hres
  refine cj (sR (bN cn rfl rfl (nS (ap ?_))))
  refine cd rfl ?_ ?_ <;> intro c <;> try simp only [qa, qaD] at c
  ·omega
  refine dl (eh (de ?_))
  exact wP (d5 (Mem.sub M0 (.cons_cons _ .slnil)) hres) rfl
 | succ m ih =>
  intro a8 d3 c1 h M0 hres
  rw [jk] at hres
  refine cj (sR (bN cn rfl rfl (nS (ap ?_))))
  refine cd rfl ?_ ?_ <;> intro c <;> try simp only [qa, qaD] at c
  rotate_left
  ·omega
  refine az (au (ap (bf (sR (mV rfl ?_)))))
  obtain ⟨b8, c8, a9⟩ := dh (i := a8) c4 (by omega) (by omega)
  refine af (bn rfl rfl c8) (lD a9 rfl rfl rfl ?_)
  refine ek (x := .agg [vi 0, vi 0, vi 0, vi 0, vi 0, nilS, nilS]) M0 rfl rfl (fun c9 c7 d4 d1 => ?_)
  refine mV rfl ?_
  refine dy (k := 0) (v := b8) d1 rfl rfl rfl (TR.cnt aq.t a9) (fun d0 b0 => ?_)
  replace b0 : Mem d0 [⟨.op c9 c7 0, 135, 7, [b8]⟩, ⟨.op b2 b1 0, 151, 10, [.agg [vs x0.Name, a0, a5, a1, a3, a4, a6, a2, a7, b3]]⟩] := b0
  refine nR (af (pf (k := 1) b0 rfl rfl (TR.agg db.t b6)) (af (pf (k := 0) b0 rfl rfl (TR.agg aq.t a9)) ?_))
  obtain ⟨d6, c5, hres⟩ := bp hres
  have b9 := ce8  b6 a9 
  rw [c5] at b9
  refine cL b9 rfl rfl (ak (TR.clo db.t b6) (ak (TR.clo aq.t a9) bd)) (mV rfl (nR (mV rfl (bN ks rfl rfl (nS ?_)))))
  refine bz hres rfl ?_ ?_ <;> clear hres <;> intro c hres <;> try simp only [qa, qaD] at c
  ·refine sR (mV rfl (mV rfl (mV rfl (mV rfl (nS ?_)))))
   exact rT hres rfl rfl rfl rfl rfl
  ·refine az (cy (au (aw (bN dp rfl rfl (mV rfl (br (cx ?_)))))))
   have hbd := dc c4
   have hinc : wr (a8 + 1) = a8 + 1 := cv (by omega) (by omega)
   erw [hinc]
   exact wC (ih   (by omega) (by omega) (Mem.sub b0 (.cons _ (.cons_cons _ .slnil))) hres) rfl

theorem cw0 {x0 : ab} {x1 : Int} {v0 : PV} (r0 : ab.t.R x0 v0) : FnR Tryz.prog 35 [v0, vi x1] (.tup [vi ((lb x0 x1).1), vi ((lb x0 x1).2)]) := by
 refine fnS (R := RF35) bz4 (fun _ h => h) rfl fun res hres => ?_
 unfold lb at hres
 refine sR (af (dn rfl (TR.cnt ab.t r0)) (mI rfl (mI rfl (nS (ap (sR (mV rfl (bN cn rfl rfl ?_))))))))
 refine mV rfl ?_
 refine ca 6 (d := 18) (v := vb ((decide (x1 < 0)) || (decide ((x0.Actions.length : Int) ≤ x1)))) ?_ ?_
 ·intro S Q r
  cases d3 : (decide (x1 < 0))
  ·intro k
   have c7 := d3
   try simp only [qa, qaD] at c7
   refine ah rfl rfl (ax rfl) ?_
   obtain ⟨e9, d8, c6⟩ := ab.g_Actions r0
   refine ah rfl rfl (bw rfl d8) (ah rfl rfl (bv rfl (TR.cnt (tSl bc.t) c6) (TR.agg (tSl bc.t) c6)) (ah rfl rfl (cq rfl (ci c6 Tryz.underlying25 _)) (ah rfl rfl (cb rfl rfl kt) ?_)))
   exact gK rfl rfl rfl rfl rfl k
  ·exact gN 5 rfl rfl rfl rfl rfl rfl
 refine nS ?_
 refine bz hres rfl ?_ ?_ <;> clear hres <;> intro c3 hres <;> have c4 := c3 <;> try simp only [qa, qaD] at c4
 ·refine sR (mI rfl (mI rfl (nS ?_)))
  exact rT hres rfl rfl rfl rfl rfl
 ·refine az (au (sR ?_))
  obtain ⟨f5, e4, d5⟩ := ab.g_Actions r0
  refine fA rfl e4 (lD d5 rfl rfl rfl (mV rfl ?_))
  obtain ⟨c9, e8, a9⟩ := dh (i := x1) d5 (by omega) (by omega)
  refine af (bn rfl rfl e8) (lD a9 rfl rfl rfl ?_)
  refine ek (x := .agg [vs [], nilS, nilS]) (Mem.nil ⟨0, []⟩) rfl rfl (fun d1 d4 f4 e2 => ?_)
  refine dy (k := 0) (v := c9) e2 rfl rfl rfl (TR.cnt bc.t a9) (fun e1 b0 => ?_)
  replace b0 : Mem e1 [⟨.op d1 d4 0, 97, 3, [c9]⟩] := b0
  refine nS (ap (sR (af (pf (k := 0) b0 rfl rfl (TR.agg bc.t a9)) ?_)))
  obtain ⟨f0, c2, hres⟩ := bp hres
  have d0 := ca8  a9 
  rw [c2] at d0
  refine cL d0 rfl rfl (ak (TR.clo bc.t a9) bd) (mV rfl (nR (mV rfl (bN ks rfl rfl (nS ?_)))))
  refine bz hres rfl ?_ ?_ <;> clear hres <;> intro c1 hres <;> have c5 := c1 <;> try simp only [qa, qaD] at c5
  ·refine sR (mV rfl (mI rfl (mV rfl (nS ?_))))
   exact rT hres rfl rfl rfl rfl rfl
  ·refine az (au (sR (lD r0 rfl rfl rfl (af (ba rfl) ?_))))
   obtain ⟨a8, e5, c8⟩ := bc.g_Params a9
   refine af (bt (k := 0) b0 rfl rfl e5) ?_
   obtain ⟨a0, a5, a1, a2, a4, a6, a3, a7, e3, b9, b8, b5, b6, b1, b7, b2, b4⟩ := r0
   subst e3
   refine af (v := .agg [vs x0.Name, a0, a5, a1, a2, a4, a6, a3, a7, a8]) (lr (cs := [vs x0.Name, a0, a5, a1, a2, a4, a6, a3, a7, a8]) rfl (by simp only [buildV, nj (TR.cnt (tSl ay.t) c8) (TR.agg (tSl ay.t) c8)]; rfl)) (af (v := .agg [vs x0.Name, a0, a5, a1, a2, a4, a6, a3, a7, a8]) (lr (cs := [vs x0.Name, a0, a5, a1, a2, a4, a6, a3, a7, a8]) rfl rfl) ?_)
   refine ek (x := .agg [vs [], nilS, nilS, nilS, nilS, nilS, nilS, nilS, nilS, nilS]) b0 rfl rfl (fun e6 e0 f2 d7 => ?_)
   refine dy (k := 0) (v := .agg [vs x0.Name, a0, a5, a1, a2, a4, a6, a3, a7, a8]) d7 rfl rfl rfl rfl (fun d6 b3 => ?_)
   replace b3 : Mem d6 [⟨.op e6 e0 0, 151, 10, [.agg [vs x0.Name, a0, a5, a1, a2, a4, a6, a3, a7, a8]]⟩, ⟨.op d1 d4 0, 97, 3, [c9]⟩] := b3
   refine nS (ap (sR (af (ba rfl) ?_)))
   obtain ⟨f1, d9, d2⟩ := bc.g_Body a9
   refine af (bt (k := 1) b3 rfl rfl d9) (af (cq rfl (ci d2 Tryz.underlying95 _)) (mI rfl (nS (bf ?_))))
   have e7 : db.t.R ({ scope := ({ Program := x0, Params := (ix x0.Actions x1).Params } : av) } : db) (.agg [vs x0.Name, a0, a5, a1, a2, a4, a6, a3, a7, a8]) := ⟨a0, a5, a1, a2, a4, a6, a3, a7, a8, rfl, b9, b8, b5, b6, b1, b7, b2, b4, c8⟩
   refine wC (wn c3 c2 c1 d2 e7 ?_  rfl (by omega) (Mem.sub b3 (.cons_cons _ (.cons _ .slnil))) hres) rfl
   ·intro f6 f3 hres
    refine em (au (sR (mI rfl (mI rfl (nS ?_)))))
    exact rT hres rfl rfl rfl rfl rfl

def RF108 (res : (List aq)) (r : PV) : Prop := (tSl aq.t).R res r
theorem ba3 {x0 : ab} {x1 : Int} {v0 : PV} (r0 : ab.t.R x0 v0) : ∃ r, FnR Tryz.prog 108 [v0, vi x1] r ∧ (tSl aq.t).R (iz x0 x1) r := by
 refine fnT (R := RF108) bf8 rfl fun res hres => ?_
 unfold iz at hres
 refine sR (af (dn rfl (TR.cnt ab.t r0)) (af (v := nilS) (ax rfl) (nS (ap (sR (lD r0 rfl rfl rfl (mV rfl ?_)))))))
 obtain ⟨a7, a1, hres⟩ := bp hres
 have a2 := cw0 (x1 := x1) r0 
 rw [a1] at a2
 refine cL a2 rfl rfl (ak (TR.clo ab.t r0) (ak rfl bd)) (mV rfl (xT rfl rfl (xT rfl rfl (mV rfl (mV rfl (nR (mV rfl (bN ks rfl rfl ?_))))))))
 refine nS ?_
 refine bz hres rfl ?_ ?_ <;> clear hres <;> intro c hres <;> try simp only [qa, qaD] at c
 ·refine sR (af (v := nilS) (ax rfl) (nS ?_))
  exact rR hres rfl (TR.clo (tSl aq.t) fj) fj
 ·refine az (au (sR (gL (ab.g_Actions r0) rfl rfl rfl fun a6 a4 => (mV rfl ?_))))
  obtain ⟨a8, a3, a5⟩ := dh (i := x1) a4 (by first | omega | (have hk := bm5 (by assumption) (by assumption); omega)) (by first | omega | (have hk := bm5 (by assumption) (by assumption); omega))
  refine af (bn rfl rfl a3) (gL (bc.g_Body a5) rfl rfl rfl fun a9 a0 => (mV rfl (nS ?_)))
  exact rR hres rfl (TR.clo (tSl aq.t) a0) a0

def RF109 (i0_ w0_ : Nat) (R_ : List Ent) (res : bq) (r : PV) (h : Heap) : Prop := ∃ aF0_0 : PV, ∃ esF0_0 : List PV, ∃ aF0_2 : PV, ∃ esF0_2 : List PV, ∃ aF0_4 : PV, ∃ esF0_4 : List PV, Mem h (⟨.op i0_ w0_ 0, 157, 3, [.agg [aF0_0, aF0_2, aF0_4]]⟩ :: ⟨aF0_0, 87, 2, esF0_0⟩ :: ⟨aF0_2, 3, 1, esF0_2⟩ :: ⟨aF0_4, 3, 1, esF0_4⟩ :: R_) ∧ (All2 aa.t.R res.fields esF0_0) ∧ (isL aF0_0 = true) ∧ (res.fields.length ≤ 4611686018427387904) ∧ (Wri aF0_0 esF0_0) ∧ (All2 tI.R res.headers esF0_2) ∧ (isL aF0_2 = true) ∧ (res.headers.length ≤ 4611686018427387904) ∧ (Wri aF0_2 esF0_2) ∧ (All2 tI.R res.registers esF0_4) ∧ (isL aF0_4 = true) ∧ (res.registers.length ≤ 4611686018427387904) ∧ (Wri aF0_4 esF0_4) ∧ r = .tup []
theorem ab6 {x0 : bq} {x1 : List ae} {v1 a8 : PV} {a0 : List PV} {a5 : PV} {a1 : List PV} {a2 : PV} {a3 : List PV} {R_ : List Ent} {h_ : Heap} {c3 d0 : Nat} (r1 : (tSl ae.t).R x1 v1) (b0 : All2 aa.t.R x0.fields a0) (b1 : isL a8 = true) (f3 : x0.fields.length ≤ 4611686018427387904) (c7 : Wri a8 a0) (b2 : All2 tI.R x0.headers a1) (b4 : isL a5 = true) (f1 : x0.headers.length ≤ 4611686018427387904) (b9 : Wri a5 a1) (c1 : All2 tI.R x0.registers a3) (c6 : isL a2 = true) (c5 : x0.registers.length ≤ 4611686018427387904) (c2 : Wri a2 a3) (M_ : Mem h_ (⟨.op c3 d0 0, 157, 3, [.agg [a8, a5, a2]]⟩ :: ⟨a8, 87, 2, a0⟩ :: ⟨a5, 3, 1, a1⟩ :: ⟨a2, 3, 1, a3⟩ :: R_)) (hb : x1.length ≤ 1000 ∧ x0.fields.length ≤ 100000 ∧ x0.headers.length ≤ 100000) : ∃ r f5, FnX Tryz.prog 109 [.op c3 d0 0, v1] h_ r f5 ∧ RF109 c3 d0 R_ (dg x0 x1) r f5 := by
 refine fnXX (R := RF109 c3 d0 R_) bf5 rfl fun res hres => ?_
 unfold dg at hres
 refine sR (mV rfl (mV rfl (af (ib rfl rfl) (af (ba rfl) (af (bt (k := 0) M_ rfl rfl (mk1 (gj (k := 1) M_ rfl b1).2)) (mV rfl ?_))))))
 obtain ⟨c8, b6, hres⟩ := bp hres
 obtain ⟨f8, f2, d8⟩ := br6  r1 (by first | assumption | omega | (rw [cv (by omega) (by omega)]; omega))
 rw [b6] at d8
 have f4 : c8.length ≤ x1.length := by rw [← b6]; exact pz _
 refine cL f2 rfl rfl (ak (TR.clo (tSl ae.t) r1) bd) ?_
 obtain ⟨a4, e6, b7⟩ := lc (t := aa.t) (h := h_) d8
 have d4 : fits (a0.length + a4.length) 16 = true := by rw [All2.length_eq b0, All2.length_eq b7]; (try simp only [List.length_cons, List.length_nil]); exact jb (by first | omega | (simp only [List.length_append, List.length_cons, List.length_nil]; omega)) (by first | omega | (simp only [List.length_append, List.length_cons, List.length_nil]; omega))
 refine jd (k := 1) (es := a0) (news := a4) M_ rfl rfl rfl b1 c7 e6 d4 (fun a7 f7 e8 e1 e4 => ?_)
 have d1 : All2 aa.t.R (x0.fields ++ c8) (a0 ++ a4) := All2.app b0 b7
 have e0 : (x0.fields ++ c8).length ≤ 4611686018427387904 := by rw [← All2.length_eq d1, List.length_append]; exact gz d4
 refine af (ib rfl rfl) (af (ba rfl) ?_)
 refine iq (k := 0) (v := a7) e4 rfl rfl rfl (gj (k := 1) e4 rfl e8).1 rfl (by first | decide | (simp only [List.length_cons, List.length_nil]; omega) | simp) (fun e7 b3 => ?_)
 replace b3 : Mem e7 (⟨.op c3 d0 0, 157, 3, [.agg [a7, a5, a2]]⟩ :: ⟨a7, 87, 2, (a0 ++ a4)⟩ :: ⟨a5, 3, 1, a1⟩ :: ⟨a2, 3, 1, a3⟩ :: R_) := b3
 refine nS (aw (mV rfl (mV rfl (af (ib rfl rfl) (af (ba rfl) (af (bt (k := 0) b3 rfl rfl (mk1 (gj (k := 2) b3 rfl b4).2)) (mV rfl ?_)))))))
 obtain ⟨c4, b8, hres⟩ := bp hres
 obtain ⟨g0, f0, d6⟩ := br3  r1 (by first | assumption | omega | (rw [cv (by omega) (by omega)]; omega))
 rw [b8] at d6
 have f6 : c4.length ≤ x1.length := by rw [← b8]; exact po _
 refine cL f0 rfl rfl (ak (TR.clo (tSl ae.t) r1) bd) ?_
 obtain ⟨a6, d3, b5⟩ := lc (t := tI) (h := e7) d6
 have d5 : fits (a1.length + a6.length) 8 = true := by rw [All2.length_eq b2, All2.length_eq b5]; (try simp only [List.length_cons, List.length_nil]); exact jb (by first | omega | (simp only [List.length_append, List.length_cons, List.length_nil]; omega)) (by first | omega | (simp only [List.length_append, List.length_cons, List.length_nil]; omega))
 refine jd (k := 2) (es := a1) (news := a6) b3 rfl rfl rfl b4 b9 d3 d5 (fun a9 f9 e5 e2 e3 => ?_)
 have d9 : All2 tI.R (x0.headers ++ c4) (a1 ++ a6) := All2.app b2 b5
 have e9 : (x0.headers ++ c4).length ≤ 4611686018427387904 := by rw [← All2.length_eq d9, List.length_append]; exact gz d5
 refine af (ib rfl rfl) (af (ba rfl) ?_)
 refine iq (k := 0) (v := a9) e3 rfl rfl rfl (gj (k := 2) e3 rfl e5).1 rfl (by first | decide | (simp only [List.length_cons, List.length_nil]; omega) | simp) (fun d7 c9 => ?_)
 replace c9 : Mem d7 (⟨.op c3 d0 0, 157, 3, [.agg [a7, a9, a2]]⟩ :: ⟨a7, 87, 2, (a0 ++ a4)⟩ :: ⟨a9, 3, 1, (a1 ++ a6)⟩ :: ⟨a2, 3, 1, a3⟩ :: R_) := c9
 refine br ?_
 have d2 : Mem d7 (⟨.op c3 d0 0, 157, 3, [.agg [a7, a9, a2]]⟩ :: ⟨a7, 87, 2, (a0 ++ a4)⟩ :: ⟨a9, 3, 1, (a1 ++ a6)⟩ :: ⟨a2, 3, 1, a3⟩ :: R_) := (Mem.front (k := 3) (Mem.front (k := 3) (Mem.front (k := 3) (Mem.front (k := 3) c9 rfl) rfl) rfl) rfl)
 subst hres
 exact ab8 .nil ⟨a7, (a0 ++ a4), a9, (a1 ++ a6), a2, a3, Mem.sub d2 (.cons_cons _ (.cons_cons _ (.cons_cons _ (.cons_cons _ (List.Sublist.refl R_))))), d1, e8, e0, e1, d9, e5, e9, e2, c1, c6, c5, c2, rfl⟩

def RF110 (i0_ w0_ : Nat) (R_ : List Ent) (res : (List aa) × (List Int) × (List Int)) (r : PV) (h : Heap) : Prop := ∃ asR0_ : PV, ∃ esR0_ : List PV, ∃ asR1_ : PV, ∃ esR1_ : List PV, ∃ asR2_ : PV, ∃ esR2_ : List PV, Mem h (⟨asR0_, 87, 2, esR0_⟩ :: ⟨asR1_, 3, 1, esR1_⟩ :: ⟨asR2_, 3, 1, esR2_⟩ :: R_) ∧ (All2 aa.t.R res.1 esR0_) ∧ (isL asR0_ = true) ∧ (res.1.length ≤ 4611686018427387904) ∧ (Wri asR0_ esR0_) ∧ (All2 tI.R res.2.1 esR1_) ∧ (isL asR1_ = true) ∧ (res.2.1.length ≤ 4611686018427387904) ∧ (Wri asR1_ esR1_) ∧ (All2 tI.R res.2.2 esR2_) ∧ (isL asR2_ = true) ∧ (res.2.2.length ≤ 4611686018427387904) ∧ (Wri asR2_ esR2_) ∧ r = .tup [asR0_, asR1_, asR2_]
theorem be0 {x0 : bq} {a5 : PV} {b3 : List PV} {a4 : PV} {a7 : List PV} {a0 : PV} {a6 : List PV} {R_ : List Ent} {h_ : Heap} {i1 i2 : Nat} (g4 : All2 aa.t.R x0.fields b3) (a2 : isL a5 = true) (g1 : x0.fields.length ≤ 4611686018427387904) (g0 : Wri a5 b3) (g3 : All2 tI.R x0.headers a7) (a3 : isL a4 = true) (g6 : x0.headers.length ≤ 4611686018427387904) (f8 : Wri a4 a7) (g5 : All2 tI.R x0.registers a6) (a1 : isL a0 = true) (g2 : x0.registers.length ≤ 4611686018427387904) (f9 : Wri a0 a6) (M_ : Mem h_ (⟨.op i1 i2 0, 157, 3, [.agg [a5, a4, a0]]⟩ :: ⟨a5, 87, 2, b3⟩ :: ⟨a4, 3, 1, a7⟩ :: ⟨a0, 3, 1, a6⟩ :: R_)) (hb : x0.fields.length ≤ 1000000 ∧ x0.headers.length ≤ 1000000 ∧ x0.registers.length ≤ 1000000) : ∃ r j9, FnX Tryz.prog 110 [.op i1 i2 0] h_ r j9 ∧ RF110 i1 i2 R_ (cm x0) r j9 := by
 refine fnXX (R := RF110 i1 i2 R_) co1 rfl fun res hres => ?_
 unfold cm at hres
 refine ap (ep (co (af (v := nilS) (ax rfl) (cp (co (af (v := nilS) (ax rfl) (cp (co ?_))))))))
 refine af (v := nilS) (ax rfl) (cp ?_)
 refine ae6 (k := 0) (E' := [(4, nilS), (3, nilS), (2, nilS), (0, .fp (.agg [a5, a4, a0]))]) M_ rfl (lu rfl (lu rfl (lu rfl (as6 rfl bh1)))) (fun h8 b8 => ?_)
 replace b8 : Mem h8 (⟨a5, 87, 2, b3⟩ :: ⟨a4, 3, 1, a7⟩ :: ⟨a0, 3, 1, a6⟩ :: R_) := b8
 refine ju (au (ap (ep (co (mV rfl (cp (co (af (ib rfl rfl) ?_))))))))
 refine cp (co (fA rfl (mk1 (gj (k := 0) b8 rfl a2).2) (cp (co (af (bv rfl (sn (k := 0) b8 rfl a2) (gj (k := 0) b8 rfl a2).2) (cp ?_))))))
 have j8 : Mem h8 (⟨a5, 87, 2, b3⟩ :: ⟨a4, 3, 1, a7⟩ :: ⟨a0, 3, 1, a6⟩ :: R_) := (Mem.front (k := 0) b8 rfl)
 obtain ⟨j6, g7, hres⟩ := bp hres
 obtain ⟨k5, i6, g9, f2⟩ := ay4 (x0 := x0.fields) g4 a2 g1 g0 j8 (by first | assumption | omega | (rw [cv (by omega) (by omega)]; omega))
 rw [g7] at f2
 obtain ⟨b1, e7, c8, c5, c1, d3⟩ := f2
 replace d3 := d3.symm; subst d3
 refine fx rfl rfl g9 (ju (au (ap (ep (co (mV rfl (cp (co ?_))))))))
 refine af (ib rfl rfl) (cp (co (fA rfl (mk1 (gj (k := 1) e7 rfl a3).2) (cp (co (af (bv rfl (sn (k := 1) e7 rfl a3) (gj (k := 1) e7 rfl a3).2) (cp ?_)))))))
 have i4 : Mem i6 (⟨a4, 3, 1, a7⟩ :: ⟨a5, 87, 2, b1⟩ :: ⟨a0, 3, 1, a6⟩ :: R_) := (Mem.front (k := 1) e7 rfl)
 obtain ⟨i3, h6, hres⟩ := bp hres
 obtain ⟨k3, i5, h0, f7⟩ := ab0 (x0 := x0.headers) g3 a3 g6 f8 i4 (by first | assumption | omega | (rw [cv (by omega) (by omega)]; omega))
 rw [h6] at f7
 obtain ⟨b0, d9, c6, d2, c3, b9⟩ := f7
 replace b9 := b9.symm; subst b9
 refine fx rfl rfl h0 (ju (au (ap (ep (co (mV rfl (cp (co ?_))))))))
 refine af (ib rfl rfl) (cp (co (fA rfl (mk1 (gj (k := 2) d9 rfl a1).2) (cp (co (af (bv rfl (sn (k := 2) d9 rfl a1) (gj (k := 2) d9 rfl a1).2) (cp ?_)))))))
 have j1 : Mem i5 (⟨a0, 3, 1, a6⟩ :: ⟨a4, 3, 1, b0⟩ :: ⟨a5, 87, 2, b1⟩ :: R_) := (Mem.front (k := 2) d9 rfl)
 obtain ⟨j3, h7, hres⟩ := bp hres
 obtain ⟨k4, j0, h2, f5⟩ := ab0 (x0 := x0.registers) g5 a1 g2 f9 j1 (by first | assumption | omega | (rw [cv (by omega) (by omega)]; omega))
 rw [h7] at f5
 obtain ⟨b2, d5, c2, c9, c4, d4⟩ := f5
 replace d4 := d4.symm; subst d4
 refine fx rfl rfl h2 (ju (au (ap (ax1 (ny (mV rfl (nq (ny ?_))))))))
 refine af (ib rfl rfl) (nq (ny (fA rfl (mk1 (gj (k := 2) d5 rfl a2).2) (nq (ny (af (bv rfl (sn (k := 2) d5 rfl a2) (gj (k := 2) d5 rfl a2).2) (nq ?_)))))))
 have j2 : Mem j0 (⟨a5, 87, 2, b1⟩ :: ⟨a0, 3, 1, b2⟩ :: ⟨a4, 3, 1, b0⟩ :: R_) := (Mem.front (k := 2) d5 rfl)
 obtain ⟨k8, h9, hres⟩ := bp hres
 obtain ⟨k7, j4, h4, f6⟩ := ba4 (x0 := j6) c8 a2 c5 c1 j2 
 rw [h9] at f6
 obtain ⟨a8, a9, f0, e4, f1, d7, e6, c7⟩ := f6
 replace c7 := c7.symm; subst c7
 refine zb rfl rfl h4 (ny (mV rfl (nq (ny (af (ib rfl rfl) (nq (ny (fA rfl (mk1 (gj (k := 2) f0 rfl a3).2) ?_))))))))
 refine nq (ny (af (bv rfl (sn (k := 2) f0 rfl a3) (gj (k := 2) f0 rfl a3).2) (nq ?_)))
 have i8 : Mem j4 (⟨a4, 3, 1, b0⟩ :: ⟨a8, 87, 2, a9⟩ :: ⟨a0, 3, 1, b2⟩ :: R_) := (Mem.front (k := 2) f0 rfl)
 obtain ⟨l0, g8, hres⟩ := bp hres
 obtain ⟨k6, j7, h1, f4⟩ := ab9 (x0 := i3) c6 a3 d2 c3 i8 
 rw [g8] at f4
 obtain ⟨b4, b5, d8, e0, e2, e9, e3, d1⟩ := f4
 replace d1 := d1.symm; subst d1
 refine zb rfl rfl h1 (ny (mV rfl (nq (ny (af (ib rfl rfl) (nq (ny (fA rfl (mk1 (gj (k := 2) d8 rfl a1).2) ?_))))))))
 refine nq (ny (af (bv rfl (sn (k := 2) d8 rfl a1) (gj (k := 2) d8 rfl a1).2) (nq ?_)))
 have i9 : Mem j7 (⟨a0, 3, 1, b2⟩ :: ⟨b4, 3, 1, b5⟩ :: ⟨a8, 87, 2, a9⟩ :: R_) := (Mem.front (k := 2) d8 rfl)
 obtain ⟨k9, h3, hres⟩ := bp hres
 obtain ⟨k0, i7, i0, f3⟩ := ab9 (x0 := j3) c2 a1 c9 c4 i9 
 rw [h3] at f3
 obtain ⟨b7, b6, j5, e8, e5, e1, d6, d0⟩ := f3
 replace d0 := d0.symm; subst d0
 refine zb rfl rfl i0 (ny (mV rfl (nq (ny (mV rfl (nq (ny (mV rfl ?_))))))))
 refine nq (de3 (au ?_))
 have h5 : Mem i7 (⟨a8, 87, 2, a9⟩ :: ⟨b4, 3, 1, b5⟩ :: ⟨b7, 3, 1, b6⟩ :: R_) := (Mem.front (k := 2) (Mem.front (k := 1) (Mem.front (k := 0) j5 rfl) rfl) rfl)
 subst hres
 exact rk (.tmp rfl (.tmp rfl (.tmp rfl .nil))) ⟨a8, a9, b4, b5, b7, b6, Mem.sub h5 (.cons_cons _ (.cons_cons _ (.cons_cons _ (List.Sublist.refl R_)))), e4, f1, d7, e6, e0, e2, e9, e3, e8, e5, e1, d6, rfl⟩

def RF37 (res : (List aa) × (List Int) × (List Int)) (r : PV) : Prop := ∃ c0, ∃ c1, ∃ c2, r = .tup [c0, c1, c2] ∧ (tSl aa.t).R res.1 c0 ∧ (tSl tI).R res.2.1 c1 ∧ (tSl tI).R res.2.2 c2
theorem wg {S : List Fr} {res : (List aa) × (List Int) × (List Int)} {x0 : ab} {x1 : Int} {a1 : (List aq)} {p1 : PV} {e0 e1 : Nat} (y1 : iz x0 x1 = a1) (p5 : (tSl aq.t).R a1 p1) (x7 : BO x0 a1) (y2 : a1.length ≤ 12) {K0 : bq → ((List aa) × (List Int) × (List Int))}
  (z4 : ∀ {zE102 : bq} {a4 : PV} {a8 : List PV} {a6 : PV} {a5 : List PV} {a3 : PV} {a7 : List PV} (c3 : All2 aa.t.R zE102.fields a8) (b7 : isL a4 = true) (b4 : zE102.fields.length ≤ 4611686018427387904) (b5 : Wri a4 a8) (b2 : All2 tI.R zE102.headers a5) (b3 : isL a6 = true) (c6 : zE102.headers.length ≤ 4611686018427387904) (c2 : Wri a6 a5) (c1 : All2 tI.R zE102.registers a7) (b6 : isL a3 = true) (b8 : zE102.registers.length ≤ 4611686018427387904) (b9 : Wri a3 a7) (z8 : zE102.fields.length ≤ 600 ∧ zE102.headers.length ≤ 600 ∧ zE102.registers.length ≤ 600) {h : Heap} (M0 : Mem h [⟨a3, 3, 1, a7⟩, ⟨a6, 3, 1, a5⟩, ⟨a4, 87, 2, a8⟩, ⟨.op e0 e1 0, 157, 3, [.agg [a4, a6, a3]]⟩]), K0 zE102 = res → PX Tryz.prog 0 S (QR Tryz.prog [(4, none), (5, none), (6, none)] (RF37 res)) [(7, .op e0 e1 0)] h) :
  ∀ {m : Nat} {a0 : Int} {zE102 : bq} {a4 : PV} {a8 : List PV} {a6 : PV} {a5 : List PV} {a3 : PV} {a7 : List PV} (c3 : All2 aa.t.R zE102.fields a8) (b7 : isL a4 = true) (b4 : zE102.fields.length ≤ 4611686018427387904) (b5 : Wri a4 a8) (b2 : All2 tI.R zE102.headers a5) (b3 : isL a6 = true) (c6 : zE102.headers.length ≤ 4611686018427387904) (c2 : Wri a6 a5) (c1 : All2 tI.R zE102.registers a7) (b6 : isL a3 = true) (b8 : zE102.registers.length ≤ 4611686018427387904) (b9 : Wri a3 a7) (x9 : m = Int.toNat ((a1.length : Int) - a0)) (t5 : 0 ≤ a0) (n5 : (zE102.fields.length : Int) ≤ 50 * a0) (o0 : (zE102.headers.length : Int) ≤ 50 * a0) (n6 : (zE102.registers.length : Int) ≤ 50 * a0) (n9 : a0 ≤ (a1.length : Int)) {h : Heap} (M0 : Mem h [⟨a3, 3, 1, a7⟩, ⟨a6, 3, 1, a5⟩, ⟨a4, 87, 2, a8⟩, ⟨.op e0 e1 0, 157, 3, [.agg [a4, a6, a3]]⟩]), ft a1 K0 m a0 zE102 = res → RC Tryz.prog (.loop ck2) S (QR Tryz.prog [(4, none), (5, none), (6, none)] (RF37 res)) [(14, vi a0), (13, vi (a1.length : Int)), (12, p1), (7, .op e0 e1 0)] h := by
 intro m
 induction m with
 | zero =>
  intro a0 zE102 a4 a8 a6 a5 a3 a7 c3 b7 b4 b5 b2 b3 c6 c2 c1 b6 b8 b9 x9 t5 n5 o0 n6 n9 h M0 hres
  rw [ft] at hres
  refine cj (sR (bN cn rfl rfl (nS (ap ?_))))
  refine cd rfl ?_ ?_ <;> intro c <;> try simp only [qa, qaD] at c
  ·omega
  refine dl (eh (de ?_))
  exact wP (z4 (zE102 := ({ fields := zE102.fields, headers := zE102.headers, registers := zE102.registers } : bq)) c3 b7 b4 b5 b2 b3 c6 c2 c1 b6 b8 b9 (by omega) (Mem.sub M0 (.cons_cons _ (.cons_cons _ (.cons_cons _ (.cons_cons _ .slnil))))) hres) rfl
 | succ m ih =>
  intro a0 zE102 a4 a8 a6 a5 a3 a7 c3 b7 b4 b5 b2 b3 c6 c2 c1 b6 b8 b9 x9 t5 n5 o0 n6 n9 h M0 hres
  rw [ft] at hres
  refine cj (sR (bN cn rfl rfl (nS (ap ?_))))
  refine cd rfl ?_ ?_ <;> intro c <;> try simp only [qa, qaD] at c
  rotate_left
  ·omega
  refine az (au (ap (bf (sR ?_))))
  obtain ⟨e9, v5, f0⟩ := dh (i := a0) p5 (by omega) (by omega)
  refine af (bn rfl rfl v5) (lD f0 rfl rfl rfl ?_)
  refine ek (x := .agg [vi 0, vi 0, vi 0, vi 0, vi 0, nilS, nilS]) M0 rfl rfl (fun e7 e8 y4 w1 => ?_)
  refine dy (k := 0) (v := e9) w1 rfl rfl rfl (TR.cnt aq.t f0) (fun n1 e5 => ?_)
  replace e5 : Mem n1 [⟨.op e7 e8 0, 135, 7, [e9]⟩, ⟨a3, 3, 1, a7⟩, ⟨a6, 3, 1, a5⟩, ⟨a4, 87, 2, a8⟩, ⟨.op e0 e1 0, 157, 3, [.agg [a4, a6, a3]]⟩] := e5
  refine nS (ap (sR (af (ba rfl) (af (bt (k := 0) e5 rfl rfl (aq.g_Kind f0)) (nS ?_)))))
  obtain ⟨v4, r2, hres⟩ := bp hres
  refine lm (F := fun b S Q => ∀ (a2 : bq) (b1 : PV) (c5 : List PV) (c7 : PV) (a9 : List PV) (b0 : PV) (c4 : List PV) (d7 : All2 aa.t.R a2.fields c5) (d5 : isL b1 = true) (d0 : a2.fields.length ≤ 4611686018427387904) (d8 : Wri b1 c5) (c9 : All2 tI.R a2.headers a9) (c8 : isL c7 = true) (e2 : a2.headers.length ≤ 4611686018427387904) (d6 : Wri c7 a9) (d2 : All2 tI.R a2.registers c4) (d1 : isL b0 = true) (d3 : a2.registers.length ≤ 4611686018427387904) (d4 : Wri b0 c4) (g5 : (a2.fields.length : Int) ≤ ({ fields := zE102.fields, headers := zE102.headers, registers := zE102.registers } : bq).fields.length + 48 ∧ (a2.headers.length : Int) ≤ ({ fields := zE102.fields, headers := zE102.headers, registers := zE102.registers } : bq).headers.length + 48 ∧ (a2.registers.length : Int) ≤ ({ fields := zE102.fields, headers := zE102.headers, registers := zE102.registers } : bq).registers.length + 48) (g9 : Heap) (e4 : Mem g9 [⟨.op e7 e8 0, 135, 7, [e9]⟩, ⟨b0, 3, 1, c4⟩, ⟨c7, 3, 1, a9⟩, ⟨b1, 87, 2, c5⟩, ⟨.op e0 e1 0, 157, 3, [.agg [b1, c7, b0]]⟩]), v4 a2 = res → RC Tryz.prog b S Q [(14, vi a0), (13, vi (a1.length : Int)), (12, p1), (9, .op e7 e8 0), (7, .op e0 e1 0)] g9) ?_ ?_
  ·intro a2 b1 c5 c7 a9 b0 c4 d7 d5 d0 d8 c9 c8 e2 d6 d2 d1 d3 d4 g5 g9 e4 hres
   rw [← r2] at hres
   refine sR (af (ba rfl) (af (bt (k := 0) e4 rfl rfl (aq.g_Kind f0)) (bN dj rfl rfl (mV rfl ?_))))
   refine ca 4 (d := 61) (v := vb ((decide (((ix a1 a0).Kind) = 1)) || (decide (((ix a1 a0).Kind) = 4)))) ?_ ?_
   ·intro S Q r
    cases s6 : (decide (((ix a1 a0).Kind) = 1))
    ·intro k
     have p3 := s6
     try simp only [qa, qaD] at p3
     refine ah rfl rfl (ba rfl) (ah rfl rfl (bt (k := 0) e4 rfl rfl (aq.g_Kind f0)) (ah rfl rfl (cb rfl rfl dj) ?_))
     exact gK rfl rfl rfl rfl rfl k
    ·exact gN 3 rfl rfl rfl rfl rfl rfl
   refine mV rfl ?_
   refine ca 5 (d := 67) (v := vb (((decide (((ix a1 a0).Kind) = 1)) || (decide (((ix a1 a0).Kind) = 4))) && (!decide ((((ix a1 a0).Dst).Header) = (-1))))) ?_ ?_
   ·intro S Q r
    cases t1 : ((decide (((ix a1 a0).Kind) = 1)) || (decide (((ix a1 a0).Kind) = 4)))
    ·exact gN 4 rfl rfl rfl rfl rfl rfl
    ·intro k
     have p6 := t1
     try simp only [qa, qaD] at p6
     refine ah rfl rfl (ba rfl) (ah rfl rfl (ba rfl) ?_)
     obtain ⟨z3, v3, u6⟩ := aq.g_Dst f0
     refine ah rfl rfl (bt (k := 0) e4 rfl rfl (rv v3 (aa.g_Header u6))) (ah rfl rfl (cb rfl rfl (ks (b := -1))) ?_)
     exact gK rfl rfl rfl rfl rfl k
   refine nS ?_
   refine bz hres rfl ?_ ?_ <;> clear hres <;> intro c hres <;> try simp only [qa, qaD] at c
   ·refine aw (af (ba rfl) (af (bt (k := 4) e4 rfl rfl (mk1 (gj (k := 2) e4 rfl c8).2)) (af (ba rfl) (af (ba rfl) ?_))))
    obtain ⟨y9, u3, v9⟩ := aq.g_Dst f0
    refine af (bt (k := 0) e4 rfl rfl (rv u3 (aa.g_Header v9))) (af (v := .fs true [vi (((ix a1 a0).Dst).Header)]) (fk rfl (all_cons rfl iv)) ?_)
    have w2 : (tSl tI).R ([((ix a1 a0).Dst).Header] : List Int) (.fs true [vi (((ix a1 a0).Dst).Header)]) := nk ⟨rfl, trivial⟩ (by simp)
    obtain ⟨g7, s7, n7⟩ := lc (t := tI) (h := g9) w2
    have r9 : fits (a9.length + g7.length) 8 = true := by rw [All2.length_eq c9, All2.length_eq n7]; (try simp only [List.length_cons, List.length_nil]); exact jb (by first | (have hk := bo_v (l := a1) (k := a0) (by assumption) (by omega) (by omega) (by omega); omega) | (have hk := bo_i (l := a1) (k := a0) (by assumption) (by omega) (by omega) (by omega); omega) | (have g8 := bo_v (l := a1) (k := a0) (by assumption) (by omega) (by omega) (by omega); have h0 := bo_i (l := a1) (k := a0) (by assumption) (by omega) (by omega) (by omega); omega) | omega) (by first | (have hk := bo_v (l := a1) (k := a0) (by assumption) (by omega) (by omega) (by omega); omega) | (have hk := bo_i (l := a1) (k := a0) (by assumption) (by omega) (by omega) (by omega); omega) | (have g8 := bo_v (l := a1) (k := a0) (by assumption) (by omega) (by omega) (by omega); have h0 := bo_i (l := a1) (k := a0) (by assumption) (by omega) (by omega) (by omega); omega) | omega)
    refine jd (k := 2) (es := a9) (news := g7) e4 rfl rfl rfl c8 d6 s7 r9 (fun p9 y6 s1 q5 t0 => ?_)
    have r6 : All2 tI.R (a2.headers ++ ([((ix a1 a0).Dst).Header] : List Int)) (a9 ++ g7) := All2.app c9 n7
    have r5 : (a2.headers ++ ([((ix a1 a0).Dst).Header] : List Int)).length ≤ 4611686018427387904 := by rw [← All2.length_eq r6, List.length_append]; exact gz r9
    refine af (ba rfl) ?_
    refine iq (k := 4) (v := p9) t0 rfl rfl rfl (gj (k := 2) t0 rfl s1).1 rfl (by first | decide | (simp only [List.length_cons, List.length_nil]; omega) | simp) (fun w9 p4 => ?_)
    replace p4 : Mem w9 [⟨.op e7 e8 0, 135, 7, [e9]⟩, ⟨b0, 3, 1, c4⟩, ⟨p9, 3, 1, (a9 ++ g7)⟩, ⟨b1, 87, 2, c5⟩, ⟨.op e0 e1 0, 157, 3, [.agg [b1, p9, b0]]⟩] := p4
    refine br (cy (au (aw (bN dp rfl rfl (mV rfl (br (cx ?_)))))))
    have hbd := dc p5
    have hinc : wr (a0 + 1) = a0 + 1 := cv (by omega) (by omega)
    erw [hinc]
    exact wC (ih (zE102 := ({ fields := a2.fields, headers := (a2.headers ++ ([((ix a1 a0).Dst).Header] : List Int)), registers := a2.registers } : bq)) d7 d5 d0 d8 r6 s1 r5 q5 d2 d1 d3 d4 (by omega) (by omega) (by first | omega | ((try dsimp only); (try simp only [List.length_append, List.length_cons, List.length_nil]); omega)) (by first | omega | ((try dsimp only); (try simp only [List.length_append, List.length_cons, List.length_nil]); omega)) (by first | omega | ((try dsimp only); (try simp only [List.length_append, List.length_cons, List.length_nil]); omega)) (by first | omega | ((try dsimp only); (try simp only [List.length_append, List.length_cons, List.length_nil]); omega)) (Mem.sub p4 (.cons _ (.cons_cons _ (.cons_cons _ (.cons_cons _ (.cons_cons _ .slnil)))))) hres) rfl
   ·refine az (cy (au (aw (bN dp rfl rfl (mV rfl (br (cx ?_)))))))
    have hbd := dc p5
    have hinc : wr (a0 + 1) = a0 + 1 := cv (by omega) (by omega)
    erw [hinc]
    exact wC (ih (zE102 := ({ fields := a2.fields, headers := a2.headers, registers := a2.registers } : bq)) d7 d5 d0 d8 c9 c8 e2 d6 d2 d1 d3 d4 (by omega) (by omega) (by first | omega | ((try dsimp only); (try simp only [List.length_append, List.length_cons, List.length_nil]); omega)) (by first | omega | ((try dsimp only); (try simp only [List.length_append, List.length_cons, List.length_nil]); omega)) (by first | omega | ((try dsimp only); (try simp only [List.length_append, List.length_cons, List.length_nil]); omega)) (by first | omega | ((try dsimp only); (try simp only [List.length_append, List.length_cons, List.length_nil]); omega)) (Mem.sub e4 (.cons _ (.cons_cons _ (.cons_cons _ (.cons_cons _ (.cons_cons _ .slnil)))))) hres) rfl
  ·intro J
   refine bf (sR (bN dj rfl rfl (mV rfl (nS ?_))))
   refine bz hres rfl ?_ ?_ <;> clear hres <;> intro c hres <;> try simp only [qa, qaD] at c
   ·refine ep (co (af (ba rfl) (cp (co ?_))))
    obtain ⟨z6, v6, v2⟩ := aq.g_Value f0
    refine af (bt (k := 0) e5 rfl rfl v6) (cp ?_)
    have v0 : Mem n1 [⟨.op e0 e1 0, 157, 3, [.agg [a4, a6, a3]]⟩, ⟨a4, 87, 2, a8⟩, ⟨a6, 3, 1, a5⟩, ⟨a3, 3, 1, a7⟩, ⟨.op e7 e8 0, 135, 7, [e9]⟩] := (Mem.front (k := 4) (Mem.front (k := 3) (Mem.front (k := 2) (Mem.front (k := 1) e5 rfl) rfl) rfl) rfl)
    obtain ⟨q0, o7, hres⟩ := bp hres
    obtain ⟨x6, w6, s8, o9⟩ := ab6 (x0 := ({ fields := zE102.fields, headers := zE102.headers, registers := zE102.registers } : bq)) (x1 := ((ix a1 a0).Value)) v2 c3 b7 b4 b5 b2 b3 c6 c2 c1 b6 b8 b9 v0 (by first | (have hk := bo_v (l := a1) (k := a0) (by assumption) (by omega) (by omega) (by omega); omega) | (have hk := bo_i (l := a1) (k := a0) (by assumption) (by omega) (by omega) (by omega); omega) | (have g8 := bo_v (l := a1) (k := a0) (by assumption) (by omega) (by omega) (by omega); have h0 := bo_i (l := a1) (k := a0) (by assumption) (by omega) (by omega) (by omega); omega))
    rw [o7] at o9
    obtain ⟨f6, j8, f7, m2, g1, m6, x4, l3, j1, j7, i3, i9, l8, l4, l0, h1, m1, i7, i6, m7⟩ := o9
    replace m7 := m7.symm; subst m7
    refine fx rfl rfl s8 ?_
    have t6 := ll o7; try dsimp only at t6
    refine ju (cy ?_)
    have r4 : Mem w6 [⟨.op e7 e8 0, 135, 7, [e9]⟩, ⟨g1, 3, 1, m6⟩, ⟨f7, 3, 1, m2⟩, ⟨f6, 87, 2, j8⟩, ⟨.op e0 e1 0, 157, 3, [.agg [f6, f7, g1]]⟩] := (Mem.front (k := 4) (Mem.front (k := 3) (Mem.front (k := 2) (Mem.front (k := 1) (Mem.front (k := 0) x4 rfl) rfl) rfl) rfl) rfl)
    refine au (wC (J ({ fields := q0.fields, headers := q0.headers, registers := q0.registers } : bq) _ _ _ _ _ _ l3 j1 j7 i3 i9 l8 l4 l0 h1 m1 i7 i6 (by first | omega | ((try dsimp only); (try simp only [List.length_append, List.length_cons, List.length_nil]); first | omega | (have hk := bo_v (l := a1) (k := a0) (by assumption) (by omega) (by omega) (by omega); omega) | (have hk := bo_i (l := a1) (k := a0) (by assumption) (by omega) (by omega) (by omega); omega) | (have g8 := bo_v (l := a1) (k := a0) (by assumption) (by omega) (by omega) (by omega); have h0 := bo_i (l := a1) (k := a0) (by assumption) (by omega) (by omega) (by omega); omega))) _ (Mem.sub r4 (.cons_cons _ (.cons_cons _ (.cons_cons _ (.cons_cons _ (.cons_cons _ .slnil)))))) hres) rfl)
   ·refine sR (bN dj rfl rfl (mV rfl (nS ?_)))
    refine bz hres rfl ?_ ?_ <;> clear hres <;> intro c hres <;> try simp only [qa, qaD] at c
    ·refine aw (af (ba rfl) (af (bt (k := 4) e5 rfl rfl (mk1 (gj (k := 2) e5 rfl b3).2)) (af (ba rfl) (af (bt (k := 0) e5 rfl rfl (aq.g_Header f0)) (af (v := .fs true [vi ((ix a1 a0).Header)]) (fk rfl (all_cons rfl iv)) ?_)))))
     have u7 : (tSl tI).R ([(ix a1 a0).Header] : List Int) (.fs true [vi ((ix a1 a0).Header)]) := nk ⟨rfl, trivial⟩ (by simp)
     obtain ⟨g6, q3, o2⟩ := lc (t := tI) (h := n1) u7
     have q4 : fits (a5.length + g6.length) 8 = true := by rw [All2.length_eq b2, All2.length_eq o2]; (try simp only [List.length_cons, List.length_nil]); exact jb (by first | (have hk := bo_v (l := a1) (k := a0) (by assumption) (by omega) (by omega) (by omega); omega) | (have hk := bo_i (l := a1) (k := a0) (by assumption) (by omega) (by omega) (by omega); omega) | (have g8 := bo_v (l := a1) (k := a0) (by assumption) (by omega) (by omega) (by omega); have h0 := bo_i (l := a1) (k := a0) (by assumption) (by omega) (by omega) (by omega); omega) | omega) (by first | (have hk := bo_v (l := a1) (k := a0) (by assumption) (by omega) (by omega) (by omega); omega) | (have hk := bo_i (l := a1) (k := a0) (by assumption) (by omega) (by omega) (by omega); omega) | (have g8 := bo_v (l := a1) (k := a0) (by assumption) (by omega) (by omega) (by omega); have h0 := bo_i (l := a1) (k := a0) (by assumption) (by omega) (by omega) (by omega); omega) | omega)
     refine jd (k := 2) (es := a5) (news := g6) e5 rfl rfl rfl b3 c2 q3 q4 (fun p8 z7 s2 u0 q8 => ?_)
     have r0 : All2 tI.R (zE102.headers ++ ([(ix a1 a0).Header] : List Int)) (a5 ++ g6) := All2.app b2 o2
     have q6 : (zE102.headers ++ ([(ix a1 a0).Header] : List Int)).length ≤ 4611686018427387904 := by rw [← All2.length_eq r0, List.length_append]; exact gz q4
     refine af (ba rfl) ?_
     refine iq (k := 4) (v := p8) q8 rfl rfl rfl (gj (k := 2) q8 rfl s2).1 rfl (by first | decide | (simp only [List.length_cons, List.length_nil]; omega) | simp) (fun u8 p7 => ?_)
     replace p7 : Mem u8 [⟨.op e7 e8 0, 135, 7, [e9]⟩, ⟨a3, 3, 1, a7⟩, ⟨p8, 3, 1, (a5 ++ g6)⟩, ⟨a4, 87, 2, a8⟩, ⟨.op e0 e1 0, 157, 3, [.agg [a4, p8, a3]]⟩] := p7
     refine br (cy ?_)
     refine au (wC (J ({ fields := zE102.fields, headers := (zE102.headers ++ ([(ix a1 a0).Header] : List Int)), registers := zE102.registers } : bq) _ _ _ _ _ _ c3 b7 b4 b5 r0 s2 q6 u0 c1 b6 b8 b9 (by first | omega | ((try dsimp only); (try simp only [List.length_append, List.length_cons, List.length_nil]); first | omega | (have hk := bo_v (l := a1) (k := a0) (by assumption) (by omega) (by omega) (by omega); omega) | (have hk := bo_i (l := a1) (k := a0) (by assumption) (by omega) (by omega) (by omega); omega) | (have g8 := bo_v (l := a1) (k := a0) (by assumption) (by omega) (by omega) (by omega); have h0 := bo_i (l := a1) (k := a0) (by assumption) (by omega) (by omega) (by omega); omega))) _ (Mem.sub p7 (.cons_cons _ (.cons_cons _ (.cons_cons _ (.cons_cons _ (.cons_cons _ .slnil)))))) hres) rfl)
    ·refine sR (bN dj rfl rfl (mV rfl (nS ?_)))
     refine bz hres rfl ?_ ?_ <;> clear hres <;> intro c hres <;> try simp only [qa, qaD] at c
     ·refine ap (ep (co (af (ba rfl) (cp (co ?_)))))
      obtain ⟨y8, w5, x5⟩ := aq.g_Index f0
      refine af (bt (k := 0) e5 rfl rfl w5) (cp ?_)
      have w8 : Mem n1 [⟨.op e0 e1 0, 157, 3, [.agg [a4, a6, a3]]⟩, ⟨a4, 87, 2, a8⟩, ⟨a6, 3, 1, a5⟩, ⟨a3, 3, 1, a7⟩, ⟨.op e7 e8 0, 135, 7, [e9]⟩] := (Mem.front (k := 4) (Mem.front (k := 3) (Mem.front (k := 2) (Mem.front (k := 1) e5 rfl) rfl) rfl) rfl)
      obtain ⟨n3, n8, hres⟩ := bp hres
      obtain ⟨x8, u2, t9, o4⟩ := ab6 (x0 := ({ fields := zE102.fields, headers := zE102.headers, registers := zE102.registers } : bq)) (x1 := ((ix a1 a0).Index)) x5 c3 b7 b4 b5 b2 b3 c6 c2 c1 b6 b8 b9 w8 (by first | (have hk := bo_v (l := a1) (k := a0) (by assumption) (by omega) (by omega) (by omega); omega) | (have hk := bo_i (l := a1) (k := a0) (by assumption) (by omega) (by omega) (by omega); omega) | (have g8 := bo_v (l := a1) (k := a0) (by assumption) (by omega) (by omega) (by omega); have h0 := bo_i (l := a1) (k := a0) (by assumption) (by omega) (by omega) (by omega); omega))
      rw [n8] at o4
      obtain ⟨e6, f1, e3, f2, t2, d9, n4, j4, l5, h3, j0, l1, l7, h9, j2, f3, f4, q2, j6, n2⟩ := o4
      replace n2 := n2.symm; subst n2
      refine fx rfl rfl t9 ?_
      have s4 := ll n8; try dsimp only at s4
      refine ju (au (aw (af (ba rfl) (af (bt (k := 0) n4 rfl rfl (mk1 (gj (k := 3) n4 rfl f4).2)) (af (ba rfl) (af (bt (k := 4) n4 rfl rfl (aq.g_Register f0)) (af (v := .fs true [vi ((ix a1 a0).Register)]) (fk rfl (all_cons rfl iv)) ?_)))))))
      have w4 : (tSl tI).R ([(ix a1 a0).Register] : List Int) (.fs true [vi ((ix a1 a0).Register)]) := nk ⟨rfl, trivial⟩ (by simp)
      obtain ⟨g3, r7, o3⟩ := lc (t := tI) (h := u2) w4
      have r8 : fits (d9.length + g3.length) 8 = true := by rw [All2.length_eq f3, All2.length_eq o3]; (try simp only [List.length_cons, List.length_nil]); exact jb (by first | (have hk := bo_v (l := a1) (k := a0) (by assumption) (by omega) (by omega) (by omega); omega) | (have hk := bo_i (l := a1) (k := a0) (by assumption) (by omega) (by omega) (by omega); omega) | (have g8 := bo_v (l := a1) (k := a0) (by assumption) (by omega) (by omega) (by omega); have h0 := bo_i (l := a1) (k := a0) (by assumption) (by omega) (by omega) (by omega); omega) | omega) (by first | (have hk := bo_v (l := a1) (k := a0) (by assumption) (by omega) (by omega) (by omega); omega) | (have hk := bo_i (l := a1) (k := a0) (by assumption) (by omega) (by omega) (by omega); omega) | (have g8 := bo_v (l := a1) (k := a0) (by assumption) (by omega) (by omega) (by omega); have h0 := bo_i (l := a1) (k := a0) (by assumption) (by omega) (by omega) (by omega); omega) | omega)
      refine jd (k := 3) (es := d9) (news := g3) n4 rfl rfl rfl f4 j6 r7 r8 (fun m9 y7 s0 t4 t7 => ?_)
      have r3 : All2 tI.R (n3.registers ++ ([(ix a1 a0).Register] : List Int)) (d9 ++ g3) := All2.app f3 o3
      have t8 : (n3.registers ++ ([(ix a1 a0).Register] : List Int)).length ≤ 4611686018427387904 := by rw [← All2.length_eq r3, List.length_append]; exact gz r8
      refine af (ba rfl) ?_
      refine iq (k := 0) (v := m9) t7 rfl rfl rfl (gj (k := 3) t7 rfl s0).1 rfl (by first | decide | (simp only [List.length_cons, List.length_nil]; omega) | simp) (fun s5 q1 => ?_)
      replace q1 : Mem s5 [⟨.op e0 e1 0, 157, 3, [.agg [e6, e3, m9]]⟩, ⟨e6, 87, 2, f1⟩, ⟨e3, 3, 1, f2⟩, ⟨m9, 3, 1, (d9 ++ g3)⟩, ⟨.op e7 e8 0, 135, 7, [e9]⟩] := q1
      refine br (cy ?_)
      have q7 : Mem s5 [⟨.op e7 e8 0, 135, 7, [e9]⟩, ⟨m9, 3, 1, (d9 ++ g3)⟩, ⟨e3, 3, 1, f2⟩, ⟨e6, 87, 2, f1⟩, ⟨.op e0 e1 0, 157, 3, [.agg [e6, e3, m9]]⟩] := (Mem.front (k := 4) (Mem.front (k := 3) (Mem.front (k := 2) (Mem.front (k := 1) (Mem.front (k := 0) q1 rfl) rfl) rfl) rfl) rfl)
      refine au (wC (J ({ fields := n3.fields, headers := n3.headers, registers := (n3.registers ++ ([(ix a1 a0).Register] : List Int)) } : bq) _ _ _ _ _ _ j4 l5 h3 j0 l1 l7 h9 j2 r3 s0 t8 t4 (by first | omega | ((try dsimp only); (try simp only [List.length_append, List.length_cons, List.length_nil]); first | omega | (have hk := bo_v (l := a1) (k := a0) (by assumption) (by omega) (by omega) (by omega); omega) | (have hk := bo_i (l := a1) (k := a0) (by assumption) (by omega) (by omega) (by omega); omega) | (have g8 := bo_v (l := a1) (k := a0) (by assumption) (by omega) (by omega) (by omega); have h0 := bo_i (l := a1) (k := a0) (by assumption) (by omega) (by omega) (by omega); omega))) _ (Mem.sub q7 (.cons_cons _ (.cons_cons _ (.cons_cons _ (.cons_cons _ (.cons_cons _ .slnil)))))) hres) rfl)
     ·refine sR (bN dj rfl rfl (mV rfl (nS ?_)))
      refine bz hres rfl ?_ ?_ <;> clear hres <;> intro c hres <;> try simp only [qa, qaD] at c
      ·refine ap (ep (co (af (ba rfl) (cp (co ?_)))))
       obtain ⟨y5, w3, u5⟩ := aq.g_Index f0
       refine af (bt (k := 0) e5 rfl rfl w3) (cp ?_)
       have w0 : Mem n1 [⟨.op e0 e1 0, 157, 3, [.agg [a4, a6, a3]]⟩, ⟨a4, 87, 2, a8⟩, ⟨a6, 3, 1, a5⟩, ⟨a3, 3, 1, a7⟩, ⟨.op e7 e8 0, 135, 7, [e9]⟩] := (Mem.front (k := 4) (Mem.front (k := 3) (Mem.front (k := 2) (Mem.front (k := 1) e5 rfl) rfl) rfl) rfl)
       obtain ⟨p0, o6, hres⟩ := bp hres
       obtain ⟨y0, w7, s9, o1⟩ := ab6 (x0 := ({ fields := zE102.fields, headers := zE102.headers, registers := zE102.registers } : bq)) (x1 := ((ix a1 a0).Index)) u5 c3 b7 b4 b5 b2 b3 c6 c2 c1 b6 b8 b9 w0 (by first | (have hk := bo_v (l := a1) (k := a0) (by assumption) (by omega) (by omega) (by omega); omega) | (have hk := bo_i (l := a1) (k := a0) (by assumption) (by omega) (by omega) (by omega); omega) | (have g8 := bo_v (l := a1) (k := a0) (by assumption) (by omega) (by omega) (by omega); have h0 := bo_i (l := a1) (k := a0) (by assumption) (by omega) (by omega) (by omega); omega))
       rw [o6] at o1
       obtain ⟨f8, k8, g0, j5, f9, h5, q9, l2, j3, m4, h2, m0, i0, i2, h4, k4, k0, j9, k3, m8⟩ := o1
       replace m8 := m8.symm; subst m8
       refine fx rfl rfl s9 ?_
       have r1 := ll o6; try dsimp only at r1
       refine ju (au (ep (co (af (ba rfl) (cp (co ?_))))))
       obtain ⟨z5, v7, u9⟩ := aq.g_Value f0
       refine af (bt (k := 4) q9 rfl rfl v7) (cp ?_)
       have u4 : Mem w7 [⟨.op e0 e1 0, 157, 3, [.agg [f8, g0, f9]]⟩, ⟨f8, 87, 2, k8⟩, ⟨g0, 3, 1, j5⟩, ⟨f9, 3, 1, h5⟩, ⟨.op e7 e8 0, 135, 7, [e9]⟩] := (Mem.front (k := 3) (Mem.front (k := 3) (Mem.front (k := 3) (Mem.front (k := 3) q9 rfl) rfl) rfl) rfl)
       obtain ⟨p2, o5, hres⟩ := bp hres
       obtain ⟨y3, v8, t3, o8⟩ := ab6 (x0 := ({ fields := p0.fields, headers := p0.headers, registers := p0.registers } : bq)) (x1 := ((ix a1 a0).Value)) u9 l2 j3 m4 h2 m0 i0 i2 h4 k4 k0 j9 k3 u4 (by first | (have hk := bo_v (l := a1) (k := a0) (by assumption) (by omega) (by omega) (by omega); omega) | (have hk := bo_i (l := a1) (k := a0) (by assumption) (by omega) (by omega) (by omega); omega) | (have g8 := bo_v (l := a1) (k := a0) (by assumption) (by omega) (by omega) (by omega); have h0 := bo_i (l := a1) (k := a0) (by assumption) (by omega) (by omega) (by omega); omega))
       rw [o5] at o8
       obtain ⟨g4, i8, g2, l6, f5, h8, v1, k7, k6, h6, i5, h7, m3, k5, i4, i1, k9, m5, l9, n0⟩ := o8
       replace n0 := n0.symm; subst n0
       refine fx rfl rfl t3 ?_
       have s3 := ll o5; try dsimp only at s3
       refine ju (cy ?_)
       have u1 : Mem v8 [⟨.op e7 e8 0, 135, 7, [e9]⟩, ⟨f5, 3, 1, h8⟩, ⟨g2, 3, 1, l6⟩, ⟨g4, 87, 2, i8⟩, ⟨.op e0 e1 0, 157, 3, [.agg [g4, g2, f5]]⟩] := (Mem.front (k := 4) (Mem.front (k := 3) (Mem.front (k := 2) (Mem.front (k := 1) (Mem.front (k := 0) v1 rfl) rfl) rfl) rfl) rfl)
       refine au (wC (J ({ fields := p2.fields, headers := p2.headers, registers := p2.registers } : bq) _ _ _ _ _ _ k7 k6 h6 i5 h7 m3 k5 i4 i1 k9 m5 l9 (by first | omega | ((try dsimp only); (try simp only [List.length_append, List.length_cons, List.length_nil]); first | omega | (have hk := bo_v (l := a1) (k := a0) (by assumption) (by omega) (by omega) (by omega); omega) | (have hk := bo_i (l := a1) (k := a0) (by assumption) (by omega) (by omega) (by omega); omega) | (have g8 := bo_v (l := a1) (k := a0) (by assumption) (by omega) (by omega) (by omega); have h0 := bo_i (l := a1) (k := a0) (by assumption) (by omega) (by omega) (by omega); omega))) _ (Mem.sub u1 (.cons_cons _ (.cons_cons _ (.cons_cons _ (.cons_cons _ (.cons_cons _ .slnil)))))) hres) rfl)
      ·refine az (cy ?_)
       refine au (wC (J ({ fields := zE102.fields, headers := zE102.headers, registers := zE102.registers } : bq) _ _ _ _ _ _ c3 b7 b4 b5 b2 b3 c6 c2 c1 b6 b8 b9 (by first | omega | ((try dsimp only); (try simp only [List.length_append, List.length_cons, List.length_nil]); first | omega | (have hk := bo_v (l := a1) (k := a0) (by assumption) (by omega) (by omega) (by omega); omega) | (have hk := bo_i (l := a1) (k := a0) (by assumption) (by omega) (by omega) (by omega); omega) | (have g8 := bo_v (l := a1) (k := a0) (by assumption) (by omega) (by omega) (by omega); have h0 := bo_i (l := a1) (k := a0) (by assumption) (by omega) (by omega) (by omega); omega))) _ (Mem.sub e5 (.cons_cons _ (.cons_cons _ (.cons_cons _ (.cons_cons _ (.cons_cons _ .slnil)))))) hres) rfl)

theorem cw5 {x0 : ab} {x1 : Int} {v0 : PV} (r0 : ab.t.R x0 v0) : ∃ c0, ∃ c1, ∃ c2, FnR Tryz.prog 37 [v0, vi x1] (.tup [c0, c1, c2]) ∧ (tSl aa.t).R (gm x0 x1).1 c0 ∧ (tSl tI).R (gm x0 x1).2.1 c1 ∧ (tSl tI).R (gm x0 x1).2.2 c2 := by
 obtain ⟨res, hres⟩ : ∃ res, gm x0 x1 = res := ⟨_, rfl⟩
 suffices H : RC Tryz.prog cx3 [] (QR Tryz.prog [(4, none), (5, none), (6, none)] (RF37 res)) (argE 0 [v0, vi x1]) ⟨0, []⟩ by
  rw [hres]
  obtain ⟨r, h1, c0, c1, c2, rfl, h6, h5, h4⟩ := fnE bl3 (by simp) H
  exact ⟨c0, c1, c2, h1, h6, h5, h4⟩
 unfold gm at hres
 refine sR (af (dn rfl (TR.cnt ab.t r0)) (af (v := nilS) (ax rfl) (af (v := nilS) (ax rfl) (af (v := nilS) (ax rfl) (nR ?_)))))
 refine ek (x := .agg [nilS, nilS, nilS]) (Mem.nil ⟨0, []⟩) rfl rfl (fun f9 g6 h7 g8 => ?_)
 refine nS (ap (sR (lD r0 rfl rfl rfl (mV rfl ?_))))
 obtain ⟨d6, b9, hres⟩ := bp hres
 obtain ⟨h3, g7, d4⟩ := ba3 (x1 := x1) r0 
 rw [b9] at d4
 have e0 : BO x0 d6 := ti b9
 have e2 : d6.length ≤ 12 := (ti b9).1
 refine cL g7 rfl rfl (ak (TR.clo ab.t r0) (ak rfl bd)) (af (cq rfl (ci d4 Tryz.underlying95 _)) (mI rfl (nS (bf ?_))))
 have g3 := nz (sz := 2) (es := []) g8 87 (.inl ⟨none, rfl, rfl⟩) (by simp)
 have g0 := nz (sz := 1) (es := []) g3 3 (.inl ⟨none, rfl, rfl⟩) (by simp)
 have g4 := nz (sz := 1) (es := []) g0 3 (.inl ⟨none, rfl, rfl⟩) (by simp)
 refine wC (wg b9 d4 e0 e2 ?_  (zE102 := ({ fields := ([] : List aa), headers := ([] : List Int), registers := ([] : List Int) } : bq)) aL rfl (by first | decide | simp) (.inl rfl) aL rfl (by first | decide | simp) (.inl rfl) aL rfl (by first | decide | simp) (.inl rfl) rfl (by omega) (by first | omega | ((try dsimp only); (try simp only [List.length_append, List.length_cons, List.length_nil]); omega) | simp) (by first | omega | ((try dsimp only); (try simp only [List.length_append, List.length_cons, List.length_nil]); omega) | simp) (by first | omega | ((try dsimp only); (try simp only [List.length_append, List.length_cons, List.length_nil]); omega) | simp) (by first | omega | ((try dsimp only); (try simp only [List.length_append, List.length_cons, List.length_nil]); omega) | simp) (Mem.sub g4 (.cons_cons _ (.cons_cons _ (.cons_cons _ (.cons_cons _ .slnil))))) hres) rfl
 ·intro a0 a2 a6 a1 b4 a3 b2 b5 b0 b6 a8 a5 a9 b8 b3 b1 b7 a4 a7 e9 f7 f4 hres
  refine em (au (ap (ep ?_)))
  have f8 : Mem f7 [⟨.op f9 g6 0, 157, 3, [.agg [a2, a1, a3]]⟩, ⟨a2, 87, 2, a6⟩, ⟨a1, 3, 1, b4⟩, ⟨a3, 3, 1, b2⟩] := (Mem.front (k := 3) (Mem.front (k := 2) (Mem.front (k := 1) (Mem.front (k := 0) f4 rfl) rfl) rfl) rfl)
  obtain ⟨h8, d8, hres⟩ := bp hres
  obtain ⟨h0, h2, e1, d3⟩ := be0 (x0 := ({ fields := a0.fields, headers := a0.headers, registers := a0.registers } : bq)) b5 b0 b6 a8 a5 a9 b8 b3 b1 b7 a4 a7 f8 (by first | omega | ((try dsimp only); (try simp only [List.length_append, List.length_cons, List.length_nil]); omega) | simp)
  rw [d8] at d3
  obtain ⟨e4, e7, f2, e8, f1, e5, d5, c4, c7, c5, f0, c9, c6, c8, e6, d0, d1, d2, f3, c3⟩ := d3
  replace c3 := c3.symm; subst c3
  refine fx rfl rfl e1 (co (xT rfl rfl (cp (co (xT rfl rfl (cp (co (xT rfl rfl ?_))))))))
  refine cp (co (mV rfl (cp (co (mV rfl (cp (co (mV rfl ?_))))))))
  refine cp (ju (au ?_))
  obtain ⟨f6, d9, g5⟩ := ov (P := Tryz.prog) (k := 0) (t := aa.t) d5 rfl c7 c4 (Nat.le_trans c5 (by decide))
  obtain ⟨g9, d7, f5⟩ := ov (P := Tryz.prog) (k := 1) (t := tI) d5 rfl c6 c9 (Nat.le_trans c8 (by decide))
  obtain ⟨g1, e3, g2⟩ := ov (P := Tryz.prog) (k := 2) (t := tI) d5 rfl d1 d0 (Nat.le_trans d2 (by decide))
  subst hres
  exact fw (.tmp rfl (.tmp rfl (.tmp rfl .nil))) (ar1 (rj d9 (rj d7 (rj e3 aw1))) (ak d9.1 (ak d7.1 (ak e3.1 bd)))) ⟨f6, g9, g1, rfl, g5, f5, g2⟩

end Go.Proofs.YtmonnlkagniolaaGreat
