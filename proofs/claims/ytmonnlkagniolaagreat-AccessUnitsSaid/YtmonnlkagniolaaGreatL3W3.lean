/-
 The code of each function does what its plain program says.
-/
import Derived.Test.YtmonnlkagniolaaGreatL3W2
set_option linter.unusedVariables false
set_option linter.unusedSimpArgs false
set_option maxRecDepth 100000
namespace Go.Proofs.YtmonnlkagniolaaGreat
open Go Go.Pb Go.RowKit
def RF182 (res : (BitVec 32)) (r : PV) : Prop := r = sj res
theorem cj4 {x0 : Int} : FnR Tryz.prog 182 [vi x0] (sj (mu x0)) := by
 refine fnS (R := RF182) bc8 (fun _ h => h) rfl fun res hres => ?_
 unfold mu at hres
 refine sR (af (v := sj 0#32) (ax rfl) (nS (ap (sR (mV rfl (af (v := .fs true [vi x0]) (fk rfl (all_cons rfl iv)) ?_))))))
 have a0 : (tSl tI).R ([x0] : List Int) (.fs true [vi x0]) := nk ⟨rfl, trivial⟩ (by simp)
 obtain ⟨a3, a2, hres⟩ := bp hres
 have a1 := cc5  a0 
 rw [a2] at a1
 refine cL a1 rfl rfl (ak (TR.clo (tSl tI) a0) bd) (af (kp rfl) (nS ?_))
 refine bz hres rfl ?_ ?_ <;> clear hres <;> intro c hres <;> try simp only [qa, qaD] at c
 ·refine sR (af (v := sj 0#32) (ax rfl) (nS ?_))
  exact rR hres rfl rfl rfl
 ·refine az (au (sR (mV rfl (bN xt rfl rfl (af (cb (a := sj 4294967295#32) (b := vi (wr (32 - x0))) rfl rfl (dk8 (by first | omega | exact ca1 (by assumption) (by assumption)))) (mV rfl (nS ?_)))))))
  exact rR hres rfl rfl rfl

def RF288 (res : ay × Bool) (r : PV) : Prop := ∃ c0, r = .tup [c0, vb res.2] ∧ ay.t.R res.1 c0
theorem ce1 {x0 : av} {x1 x2 : Int} {v0 : PV} (r0 : av.t.R x0 v0) : ∃ c0, FnR Tryz.prog 288 [v0, vi x1, vi x2] (.tup [c0, vb ((kr x0 x1 x2).2)]) ∧ ay.t.R (kr x0 x1 x2).1 c0 := by
 obtain ⟨res, hres⟩ : ∃ res, kr x0 x1 x2 = res := ⟨_, rfl⟩
 suffices H : RC Tryz.prog cs0 [] (QR Tryz.prog [(6, some (2, true)), (7, none)] (RF288 res)) (argE 0 [v0, vi x1, vi x2]) ⟨0, []⟩ by
  rw [hres]
  obtain ⟨r, h1, c0, rfl, d8⟩ := fnE bd0 (by simp) H
  exact ⟨c0, h1, d8⟩
 unfold kr at hres
 refine sR (af (dn rfl (TR.cnt av.t r0)) ?_)
 refine ek (x := .agg [vs [], vi 0]) (Mem.nil ⟨0, []⟩) rfl rfl (fun a5 a7 e1 b1 => ?_)
 refine mB rfl (nR ?_)
 obtain ⟨d9, c2, c9⟩ := av.g_Program r0
 refine fA rfl c2 (gL (ab.g_Metadata c9) rfl rfl rfl fun e3 d3 => (mV rfl (nS (ap (sR (mV rfl (bN (ks (b := -1)) rfl rfl (nS ?_))))))))
 obtain ⟨c1, b6, hres⟩ := bp hres
 refine lm (F := fun b S Q => ∀ (a0 : List ay) (a1 : PV) (a2 : (tSl ay.t).R a0 a1) (a3 : Heap) (a4 : Mem a3 [⟨.op a5 a7 0, 166, 2, [.agg [vs [], vi 0]]⟩]), c1 a0 = res → RC Tryz.prog b S Q [(8, a1), (6, .op a5 a7 0), (2, vi x2)] a3) ?_ ?_
 ·intro a0 a1 a2 a3 a4 hres
  rw [← b6] at hres
  refine ap (sR (mV rfl (bN cn rfl rfl (mV rfl ?_))))
  refine ca 5 (d := 39) (v := vb ((decide (x2 < 0)) || (decide ((a0.length : Int) ≤ x2)))) ?_ ?_
  ·intro S Q r
   cases b7 : (decide (x2 < 0))
   ·intro k
    have a9 := b7
    try simp only [qa, qaD] at a9
    refine ah rfl rfl (ax rfl) (ah rfl rfl (ax rfl) (ah rfl rfl (cq rfl (ci a2 Tryz.underlying23 _)) (ah rfl rfl (cb rfl rfl kt) ?_)))
    exact gK rfl rfl rfl rfl rfl k
   ·exact gN 4 rfl rfl rfl rfl rfl rfl
  refine nS ?_
  refine bz hres rfl ?_ ?_ <;> clear hres <;> intro c hres <;> try simp only [qa, qaD] at c
  ·refine sR (af (v := .agg [vs [], vi 0]) (lr (cs := [vs [], vi 0]) rfl rfl) ?_)
   refine dy (k := 0) (v := .agg [vs [], vi 0]) a4 rfl rfl rfl rfl (fun b9 b4 => ?_)
   replace b4 : Mem b9 [⟨.op a5 a7 0, 166, 2, [.agg [vs [], vi 0]]⟩] := b4
   refine mB rfl (nS ?_)
   subst hres
   exact fw (.cell rfl (nt (k := 0) b4 rfl rfl) (.tmp rfl .nil)) (dq (show closed (.tup _) = true from (ak (TR.clo ay.t (show ay.t.R ({ Name := ([] : List UInt8), Width := 0 } : ay) (.agg [vs [], vi 0]) from rfl)) (ak rfl bd)))) ⟨.agg [vs [], vi 0], rfl, rfl⟩
  ·refine az (au (sR (mV rfl (mV rfl ?_))))
   obtain ⟨b0, c8, a6⟩ := dh (i := x2) a2 (by omega) (by omega)
   refine af (bn rfl rfl c8) (lD a6 rfl rfl rfl ?_)
   refine dy (k := 0) (v := b0) a4 rfl rfl rfl (TR.cnt ay.t a6) (fun c4 a8 => ?_)
   replace a8 : Mem c4 [⟨.op a5 a7 0, 166, 2, [b0]⟩] := a8
   refine mB rfl (nS ?_)
   subst hres
   exact fw (.cell rfl (nt (k := 0) a8 rfl (TR.agg ay.t a6)) (.tmp rfl .nil)) (dq (show closed (.tup _) = true from (ak (TR.clo ay.t a6) (ak rfl bd)))) ⟨b0, rfl, a6⟩
 ·intro J
  refine bz hres rfl ?_ ?_ <;> clear hres <;> intro c hres <;> try simp only [qa, qaD] at c
  ·refine ap (sR (mV rfl (bN cn rfl rfl (mV rfl ?_))))
   refine ca 7 (d := 23) (v := vb ((decide (x1 < 0)) || (decide ((x0.Program.Headers.length : Int) ≤ x1)))) ?_ ?_
   ·intro S Q r
    cases b8 : (decide (x1 < 0))
    ·intro k
     have b3 := b8
     try simp only [qa, qaD] at b3
     refine ah rfl rfl (ax rfl) ?_
     obtain ⟨d7, d6, d4⟩ := av.g_Program r0
     refine ah rfl rfl (bw rfl d6) ?_
     obtain ⟨e2, c6, b5⟩ := ab.g_Headers d4
     refine ah rfl rfl (bw rfl c6) (ah rfl rfl (bv rfl (TR.cnt (tSl bg.t) b5) (TR.agg (tSl bg.t) b5)) (ah rfl rfl (cq rfl (ci b5 Tryz.underlying22 _)) (ah rfl rfl (cb rfl rfl kt) ?_)))
     exact gK rfl rfl rfl rfl rfl k
    ·exact gN 6 rfl rfl rfl rfl rfl rfl
   refine nS ?_
   refine bz hres rfl ?_ ?_ <;> clear hres <;> intro c hres <;> try simp only [qa, qaD] at c
   ·refine sR (af (v := .agg [vs [], vi 0]) (lr (cs := [vs [], vi 0]) rfl rfl) ?_)
    refine dy (k := 0) (v := .agg [vs [], vi 0]) b1 rfl rfl rfl rfl (fun d0 b2 => ?_)
    replace b2 : Mem d0 [⟨.op a5 a7 0, 166, 2, [.agg [vs [], vi 0]]⟩] := b2
    refine mB rfl (nS ?_)
    subst hres
    exact fw (.cell rfl (nt (k := 0) b2 rfl rfl) (.tmp rfl .nil)) (dq (show closed (.tup _) = true from (ak (TR.clo ay.t (show ay.t.R ({ Name := ([] : List UInt8), Width := 0 } : ay) (.agg [vs [], vi 0]) from rfl)) (ak rfl bd)))) ⟨.agg [vs [], vi 0], rfl, rfl⟩
   ·refine az (au (aw ?_))
    obtain ⟨e4, d1, c3⟩ := av.g_Program r0
    refine fA rfl d1 (gL (ab.g_Headers c3) rfl rfl rfl fun e6 c5 => (mV rfl ?_))
    obtain ⟨e0, d5, d2⟩ := dh (i := x1) c5 (by omega) (by omega)
    refine af (bn rfl rfl d5) (gL (bg.g_Fields d2) rfl rfl rfl fun e5 c7 => (mV rfl (br ?_)))
    refine au (wC (J _ _ c7 _ (Mem.sub b1 (.cons_cons _ .slnil)) hres) rfl)
  ·refine az ?_
   refine au (wC (J _ _ d3 _ (Mem.sub b1 (.cons_cons _ .slnil)) hres) rfl)

def RF268 (res : Int × Int) (r : PV) : Prop := r = .tup [vi res.1, vi res.2]
theorem co8 {x0 : av} {x1 : ae} {v0 v1 : PV} (r0 : av.t.R x0 v0) (r1 : ae.t.R x1 v1) : FnR Tryz.prog 268 [v0, v1] (.tup [vi ((ia x0 x1).1), vi ((ia x0 x1).2)]) := by
 refine fnS (R := RF268) be2 (fun _ h => h) rfl fun res hres => ?_
 unfold ia at hres
 refine sR (af (dn rfl (TR.cnt av.t r0)) (af (dn rfl (TR.cnt ae.t r1)) (mI rfl (mI rfl (nS (ap (sR (fL rfl (ae.g_Op r1) rfl rfl ?_))))))))
 refine nS (bf (sR (bN dj rfl rfl (mV rfl (nS ?_)))))
 refine bz hres rfl ?_ ?_ <;> clear hres <;> intro c hres <;> try simp only [qa, qaD] at c
 ·refine sR (fL rfl (ae.g_W r1) rfl rfl ?_)
  obtain ⟨a0, b3, hres⟩ := bp hres
  have b6 := xp (x0 := x1.W)  
  rw [b3] at b6
  refine cL b6 rfl rfl (ak rfl bd) (mV rfl (xT rfl rfl (xT rfl rfl (mV rfl (mV rfl (nS (ap (sR ?_))))))))
  refine mV rfl (bN dj rfl rfl (mV rfl ?_))
  refine ca 12 (d := 34) (v := vb ((decide (a0.2 = 0)) && ((decide (x1.N < 0)) || (decide (((mu a0.1).toNat : Int) < x1.N))))) ?_ ?_
  ·intro S Q r
   cases a9 : (decide (a0.2 = 0))
   ·exact gN 11 rfl rfl rfl rfl rfl rfl
   ·intro k
    have a8 := a9
    try simp only [qa, qaD] at a8
    refine ah rfl rfl (bw rfl (ae.g_N r1)) (ah rfl rfl (bv rfl rfl rfl) (ah rfl rfl (cb rfl rfl cn) (ah rfl rfl (ax rfl) ?_)))
    refine ca 7 (d := 33) (v := vb ((decide (x1.N < 0)) || (decide (((mu a0.1).toNat : Int) < x1.N)))) ?_ ?_
    ·intro S Q r
     cases b1 : (decide (x1.N < 0))
     ·intro k
      have a4 := b1
      try simp only [qa, qaD] at a4
      refine ah rfl rfl (bw rfl (ae.g_N r1)) (ah rfl rfl (bv rfl rfl rfl) (ah rfl rfl (ax rfl) ?_))
      have c5 := cj4 (x0 := a0.1)  
      refine mn rfl rfl (rp rfl rfl (ak rfl bd) c5) (ah rfl rfl (al4 (a := sj (mu a0.1)) rfl (c_wi Tryz.underlying89 Tryz.underlying3)) (ah rfl rfl (cb rfl rfl iu) (ah (v := vb (decide (((mu a0.1).toNat : Int) < x1.N))) rfl rfl (nr rfl rfl rfl rfl) ?_)))
      exact wD k rfl
     ·intro k
      refine ij rfl rfl (ij rfl rfl (ij rfl rfl (ij rfl rfl (ij rfl rfl (ij rfl rfl (ah (v := vb true) rfl rfl (nr rfl rfl rfl rfl) ?_))))))
      exact wD k rfl
    exact gK rfl rfl rfl rfl rfl k
  refine nS ?_
  refine bz hres rfl ?_ ?_ <;> clear hres <;> intro c hres <;> try simp only [qa, qaD] at c
  ·refine sR (mI rfl (mI rfl (nS ?_)))
   exact rT hres rfl rfl rfl rfl rfl
  ·refine az (au (sR (mV rfl (mV rfl (mV rfl (mV rfl (nS ?_)))))))
   exact rT hres rfl rfl rfl rfl rfl
 ·refine sR (bN dj rfl rfl (mV rfl (nS ?_)))
  refine bz hres rfl ?_ ?_ <;> clear hres <;> intro c hres <;> try simp only [qa, qaD] at c
  ·refine sR (lD r0 rfl rfl rfl (fL rfl (ae.g_N r1) rfl rfl (fL rfl (ae.g_W r1) rfl rfl ?_)))
   obtain ⟨c4, b7, hres⟩ := bp hres
   obtain ⟨c1, b2, a3⟩ := ce1 (x1 := x1.N) (x2 := x1.W) r0 
   rw [b7] at b2 a3
   refine cL b2 rfl rfl (ak (TR.clo av.t r0) (ak rfl (ak rfl bd))) (mV rfl (xT rfl rfl (xT rfl rfl ?_)))
   refine ek (x := .agg [vs [], vi 0]) (Mem.nil ⟨0, []⟩) rfl rfl (fun d1 c7 e3 d2 => ?_)
   refine dy (k := 0) (v := c1) d2 rfl rfl rfl (TR.cnt ay.t a3) (fun d4 a2 => ?_)
   replace a2 : Mem d4 [⟨.op d1 c7 0, 166, 2, [c1]⟩] := a2
   refine mV rfl (nS (ap (sR (mV rfl (af (kp rfl) (nS ?_))))))
   refine bz hres rfl ?_ ?_ <;> clear hres <;> intro c hres <;> try simp only [qa, qaD] at c
   ·refine sR (mI rfl (mI rfl (nS ?_)))
    exact rT hres rfl rfl rfl rfl rfl
   ·refine az (au (sR (af (ba rfl) (af (bt (k := 0) a2 rfl rfl (ay.g_Width a3)) ?_))))
    obtain ⟨e0, b5, hres⟩ := bp hres
    have b4 := xp (x0 := c4.1.Width)  
    rw [b5] at b4
    refine cL b4 rfl rfl (ak rfl bd) (xT rfl rfl (xT rfl rfl (mV rfl (mV rfl (nS ?_)))))
    exact rT hres rfl rfl rfl rfl rfl
  ·refine sR (bN dj rfl rfl (mV rfl (nS ?_)))
   refine bz hres rfl ?_ ?_ <;> clear hres <;> intro c hres <;> try simp only [qa, qaD] at c
   ·refine ap (sR (fL rfl (ae.g_N r1) rfl rfl (bN cn rfl rfl (mV rfl ?_))))
    refine ca 7 (d := 67) (v := vb ((decide (x1.N < 0)) || (decide ((x0.Params.length : Int) ≤ x1.N)))) ?_ ?_
    ·intro S Q r
     cases b9 : (decide (x1.N < 0))
     ·intro k
      have a1 := b9
      try simp only [qa, qaD] at a1
      refine ah rfl rfl (bw rfl (ae.g_N r1)) (ah rfl rfl (bv rfl rfl rfl) ?_)
      obtain ⟨e1, c3, a7⟩ := av.g_Params r0
      refine ah rfl rfl (bw rfl c3) (ah rfl rfl (bv rfl (TR.cnt (tSl ay.t) a7) (TR.agg (tSl ay.t) a7)) (ah rfl rfl (cq rfl (ci a7 Tryz.underlying23 _)) (ah rfl rfl (cb rfl rfl kt) ?_)))
      exact gK rfl rfl rfl rfl rfl k
     ·exact gN 6 rfl rfl rfl rfl rfl rfl
    refine nS ?_
    refine bz hres rfl ?_ ?_ <;> clear hres <;> intro c hres <;> try simp only [qa, qaD] at c
    ·refine sR (mI rfl (mI rfl (nS ?_)))
     exact rT hres rfl rfl rfl rfl rfl
    ·refine az (au (sR (gL (av.g_Params r0) rfl rfl rfl fun d8 d0 => (fL rfl (ae.g_N r1) rfl rfl ?_))))
     obtain ⟨d9, c8, c6⟩ := dh (i := x1.N) d0 (by omega) (by omega)
     refine af (bn rfl rfl c8) (fL rfl (ay.g_Width c6) rfl rfl ?_)
     obtain ⟨d7, b0, hres⟩ := bp hres
     have b8 := xp (x0 := (ix x0.Params x1.N).Width)  
     rw [b0] at b8
     refine cL b8 rfl rfl (ak rfl bd) (xT rfl rfl (xT rfl rfl (mV rfl (mV rfl (nS ?_)))))
     exact rT hres rfl rfl rfl rfl rfl
   ·refine az (cy (au (ap (sR (fL rfl (ae.g_N r1) rfl rfl (bN cn rfl rfl (mV rfl ?_)))))))
    refine ca 8 (d := 89) (v := vb ((decide (x1.N < 0)) || (decide ((x0.Program.Headers.length : Int) ≤ x1.N)))) ?_ ?_
    ·intro S Q r
     cases c2 : (decide (x1.N < 0))
     ·intro k
      have a5 := c2
      try simp only [qa, qaD] at a5
      refine ah rfl rfl (bw rfl (ae.g_N r1)) (ah rfl rfl (bv rfl rfl rfl) ?_)
      obtain ⟨d6, d5, d3⟩ := av.g_Program r0
      refine ah rfl rfl (bw rfl d5) ?_
      obtain ⟨e2, c9, a6⟩ := ab.g_Headers d3
      refine ah rfl rfl (bw rfl c9) (ah rfl rfl (bv rfl (TR.cnt (tSl bg.t) a6) (TR.agg (tSl bg.t) a6)) (ah rfl rfl (cq rfl (ci a6 Tryz.underlying22 _)) (ah rfl rfl (cb rfl rfl kt) ?_)))
      exact gK rfl rfl rfl rfl rfl k
     ·exact gN 7 rfl rfl rfl rfl rfl rfl
    refine nS ?_
    refine bz hres rfl ?_ ?_ <;> clear hres <;> intro c hres <;> try simp only [qa, qaD] at c
    ·refine sR (mI rfl (mI rfl (nS ?_)))
     exact rT hres rfl rfl rfl rfl rfl
    ·refine az (au (sR (mI rfl (mI rfl (nS ?_)))))
     exact rT hres rfl rfl rfl rfl rfl

def RF269 (res : Int × Int) (r : PV) : Prop := r = .tup [vi res.1, vi res.2]
theorem cn8 {x0 : ae} {x1 : List Int} {v0 v1 : PV} (r0 : ae.t.R x0 v0) (r1 : (tAr 3 tI).R x1 v1) : FnR Tryz.prog 269 [v0, v1] (.tup [vi ((gg x0 x1).1), vi ((gg x0 x1).2)]) := by
 refine fnS (R := RF269) bc7 (fun _ h => h) rfl fun res hres => ?_
 unfold gg at hres
 refine sR (af (dn rfl (TR.cnt ae.t r0)) (af (dn rfl (TR.cnt (tAr 3 tI) r1)) (mI rfl (mI rfl (nS (ap (sR (fL rfl (ae.g_Op r0) rfl rfl ?_))))))))
 refine nS (bf (ap (sR (bN dj rfl rfl (mV rfl (nS ?_))))))
 obtain ⟨e1, d5, hres⟩ := bp hres
 refine lm (F := fun b S Q => ∀ (a0 : Bool), e1 a0 = res → RC Tryz.prog b S Q [(10, vb a0), (9, vi x0.Op), (3, .fp v1), (2, .fp v0)] ⟨0, []⟩) ?_ ?_
 ·intro a0  hres
  rw [← d5] at hres
  refine bz hres rfl ?_ ?_ <;> clear hres <;> intro c hres <;> try simp only [qa, qaD] at c
  ·refine sR (fL rfl (ae.g_N r0) rfl rfl (bN cn rfl rfl (mV rfl ?_)))
   refine ca 4 (d := 20) (v := vb ((decide (x0.N < 0)) || (decide (31 < x0.N)))) ?_ ?_
   ·intro S Q r
    cases d8 : (decide (x0.N < 0))
    ·intro k
     have a3 := d8
     try simp only [qa, qaD] at a3
     refine ah rfl rfl (bw rfl (ae.g_N r0)) (ah rfl rfl (bv rfl rfl rfl) (ah rfl rfl (cb rfl rfl iu) ?_))
     exact gK rfl rfl rfl rfl rfl k
    ·exact gN 3 rfl rfl rfl rfl rfl rfl
   refine nS ?_
   refine bz hres rfl ?_ ?_ <;> clear hres <;> intro c hres <;> try simp only [qa, qaD] at c
   ·refine sR (mI rfl (mI rfl (nS ?_)))
    exact rT hres rfl rfl rfl rfl rfl
   ·refine az (cy (au (ap (sR (fL rfl (ae.g_Op r0) rfl rfl ?_)))))
    obtain ⟨d6, d1, hres⟩ := bp hres
    have c8 := al5 (x0 := x0.Op)  
    rw [d1] at c8
    refine cL c8 rfl rfl (ak rfl bd) (bN dj rfl rfl (mV rfl ?_))
    refine ca 6 (d := 80) (v := vb ((decide (d6 = 2)) && (!decide ((ix x1 0) = (ix x1 1))))) ?_ ?_
    ·intro S Q r
     cases c5 : (decide (d6 = 2))
     ·exact gN 5 rfl rfl rfl rfl rfl rfl
     ·intro k
      have b9 := c5
      try simp only [qa, qaD] at b9
      obtain ⟨g0, f3, a9⟩ := nh (t := tI) r1 (i := 0) (by omega) (by omega)
      have a9 : g0 = vi (ix x1 0) := a9; subst a9
      refine ah rfl rfl (mf rfl rfl f3) (ah rfl rfl (bv rfl rfl rfl) ?_)
      obtain ⟨f5, g2, a2⟩ := nh (t := tI) r1 (i := 1) (by omega) (by omega)
      have a2 : f5 = vi (ix x1 1) := a2; subst a2
      refine ah rfl rfl (mf rfl rfl g2) (ah rfl rfl (bv rfl rfl rfl) (ah rfl rfl (cb rfl rfl ks) ?_))
      exact gK rfl rfl rfl rfl rfl k
    refine nS ?_
    refine bz hres rfl ?_ ?_ <;> clear hres <;> intro c hres <;> try simp only [qa, qaD] at c
    ·refine sR (mI rfl (mI rfl (nS ?_)))
     exact rT hres rfl rfl rfl rfl rfl
    ·refine az (au (ap (sR (fL rfl (ae.g_Op r0) rfl rfl (bN dj rfl rfl (mV rfl ?_))))))
     refine ca 4 (d := 88) (v := vb ((decide (x0.Op = 15)) || (decide (x0.Op = 16)))) ?_ ?_
     ·intro S Q r
      cases c3 : (decide (x0.Op = 15))
      ·intro k
       have b2 := c3
       try simp only [qa, qaD] at b2
       refine ah rfl rfl (bw rfl (ae.g_Op r0)) (ah rfl rfl (bv rfl rfl rfl) (ah rfl rfl (cb rfl rfl dj) ?_))
       exact gK rfl rfl rfl rfl rfl k
      ·exact gN 3 rfl rfl rfl rfl rfl rfl
     refine nS ?_
     refine bz hres rfl ?_ ?_ <;> clear hres <;> intro c hres <;> try simp only [qa, qaD] at c
     ·refine sR (mI rfl (mI rfl (nS ?_)))
      exact rT hres rfl rfl rfl rfl rfl
     ·refine az (au (sR ?_))
      obtain ⟨g6, f0, c1⟩ := nh (t := tI) r1 (i := 0) (by omega) (by omega)
      have c1 : g6 = vi (ix x1 0) := c1; subst c1
      refine af (mf rfl rfl f0) (lR rfl rfl rfl (mV rfl (mI rfl (nS ?_))))
      exact rT hres rfl rfl rfl rfl rfl
  ·refine sR (bN dj rfl rfl (mV rfl (nS ?_)))
   refine bz hres rfl ?_ ?_ <;> clear hres <;> intro c hres <;> try simp only [qa, qaD] at c
   ·refine ap (sR (fL rfl (ae.g_N r0) rfl rfl (bN cn rfl rfl (nS ?_))))
    refine bz hres rfl ?_ ?_ <;> clear hres <;> intro c hres <;> try simp only [qa, qaD] at c
    ·refine sR (mI rfl (mI rfl (nS ?_)))
     exact rT hres rfl rfl rfl rfl rfl
    ·refine az (au (ap (sR (fL rfl (ae.g_W r0) rfl rfl ?_))))
     obtain ⟨d7, d0, hres⟩ := bp hres
     have d3 := xp (x0 := x0.W)  
     rw [d0] at d3
     refine cL d3 rfl rfl (ak rfl bd) (mV rfl (xT rfl rfl (xT rfl rfl (mV rfl (mV rfl (nR (mV rfl (bN ks rfl rfl ?_))))))))
     refine mV rfl ?_
     refine ca 9 (d := 43) (v := vb ((!decide (d7.2 = 0)) || (decide ((wr ((ix x1 0) - x0.W)) < x0.N)))) ?_ ?_
     ·intro S Q r
      cases c9 : (!decide (d7.2 = 0))
      ·intro k
       have b4 := c9
       try simp only [qa, qaD] at b4
       refine ah rfl rfl (bw rfl (ae.g_N r0)) (ah rfl rfl (bv rfl rfl rfl) ?_)
       obtain ⟨f1, e9, b6⟩ := nh (t := tI) r1 (i := 0) (by omega) (by omega)
       have b6 : f1 = vi (ix x1 0) := b6; subst b6
       refine ah rfl rfl (mf rfl rfl e9) (ah rfl rfl (bv rfl rfl rfl) (ah rfl rfl (bw rfl (ae.g_W r0)) (ah rfl rfl (bv rfl rfl rfl) (ah rfl rfl (cb rfl rfl xt) (ah rfl rfl (cb rfl rfl iu) ?_)))))
       exact gK rfl rfl rfl rfl rfl k
      ·exact gN 8 rfl rfl rfl rfl rfl rfl
     refine nS ?_
     refine bz hres rfl ?_ ?_ <;> clear hres <;> intro c hres <;> try simp only [qa, qaD] at c
     ·refine sR (mI rfl (mI rfl (nS ?_)))
      exact rT hres rfl rfl rfl rfl rfl
     ·refine az (au (sR (fL rfl (ae.g_W r0) rfl rfl (mV rfl (mI rfl (nS ?_))))))
      exact rT hres rfl rfl rfl rfl rfl
   ·refine sR (bN dj rfl rfl (mV rfl (nS ?_)))
    refine bz hres rfl ?_ ?_ <;> clear hres <;> intro c hres <;> try simp only [qa, qaD] at c
    ·refine sR ?_
     obtain ⟨e2, g5, a7⟩ := nh (t := tI) r1 (i := 0) (by omega) (by omega)
     have a7 : e2 = vi (ix x1 0) := a7; subst a7
     refine af (mf rfl rfl g5) (lR rfl rfl rfl ?_)
     obtain ⟨g3, f7, a8⟩ := nh (t := tI) r1 (i := 1) (by omega) (by omega)
     have a8 : g3 = vi (ix x1 1) := a8; subst a8
     refine af (mf rfl rfl f7) (lR rfl rfl rfl (bN dp rfl rfl ?_))
     obtain ⟨g8, c4, hres⟩ := bp hres
     have d2 := xp (x0 := (wr ((ix x1 0) + (ix x1 1))))  
     rw [c4] at d2
     refine cL d2 rfl rfl (ak rfl bd) (xT rfl rfl (xT rfl rfl (mV rfl (mV rfl (nS ?_)))))
     exact rT hres rfl rfl rfl rfl rfl
    ·refine sR (bN dj rfl rfl (mV rfl (nS ?_)))
     refine bz hres rfl ?_ ?_ <;> clear hres <;> intro c hres <;> try simp only [qa, qaD] at c
     ·refine ap (sR ?_)
      obtain ⟨e3, f8, b3⟩ := nh (t := tI) r1 (i := 0) (by omega) (by omega)
      have b3 : e3 = vi (ix x1 0) := b3; subst b3
      refine af (mf rfl rfl f8) (lR rfl rfl rfl (bN ks rfl rfl (mV rfl ?_)))
      refine ca 6 (d := 67) (v := vb ((!decide ((ix x1 0) = 1)) || (!decide ((ix x1 1) = (ix x1 2))))) ?_ ?_
      ·intro S Q r
       cases c7 : (!decide ((ix x1 0) = 1))
       ·intro k
        have b5 := c7
        try simp only [qa, qaD] at b5
        obtain ⟨f9, f4, b1⟩ := nh (t := tI) r1 (i := 1) (by omega) (by omega)
        have b1 : f9 = vi (ix x1 1) := b1; subst b1
        refine ah rfl rfl (mf rfl rfl f4) (ah rfl rfl (bv rfl rfl rfl) ?_)
        obtain ⟨g7, e8, b7⟩ := nh (t := tI) r1 (i := 2) (by omega) (by omega)
        have b7 : g7 = vi (ix x1 2) := b7; subst b7
        refine ah rfl rfl (mf rfl rfl e8) (ah rfl rfl (bv rfl rfl rfl) (ah rfl rfl (cb rfl rfl ks) ?_))
        exact gK rfl rfl rfl rfl rfl k
       ·exact gN 5 rfl rfl rfl rfl rfl rfl
      refine nS ?_
      refine bz hres rfl ?_ ?_ <;> clear hres <;> intro c hres <;> try simp only [qa, qaD] at c
      ·refine sR (mI rfl (mI rfl (nS ?_)))
       exact rT hres rfl rfl rfl rfl rfl
      ·refine az (au (sR ?_))
       obtain ⟨f2, g1, a4⟩ := nh (t := tI) r1 (i := 1) (by omega) (by omega)
       have a4 : f2 = vi (ix x1 1) := a4; subst a4
       refine af (mf rfl rfl g1) (lR rfl rfl rfl (mV rfl (mI rfl (nS ?_))))
       exact rT hres rfl rfl rfl rfl rfl
     ·refine az (cy (au (ap (sR (fL rfl (ae.g_Op r0) rfl rfl ?_)))))
      obtain ⟨d9, c2, hres⟩ := bp hres
      have d4 := al5 (x0 := x0.Op)  
      rw [c2] at d4
      refine cL d4 rfl rfl (ak rfl bd) (bN dj rfl rfl (mV rfl ?_))
      refine ca 6 (d := 80) (v := vb ((decide (d9 = 2)) && (!decide ((ix x1 0) = (ix x1 1))))) ?_ ?_
      ·intro S Q r
       cases c6 : (decide (d9 = 2))
       ·exact gN 5 rfl rfl rfl rfl rfl rfl
       ·intro k
        have a1 := c6
        try simp only [qa, qaD] at a1
        obtain ⟨g4, e5, b0⟩ := nh (t := tI) r1 (i := 0) (by omega) (by omega)
        have b0 : g4 = vi (ix x1 0) := b0; subst b0
        refine ah rfl rfl (mf rfl rfl e5) (ah rfl rfl (bv rfl rfl rfl) ?_)
        obtain ⟨e4, f6, b8⟩ := nh (t := tI) r1 (i := 1) (by omega) (by omega)
        have b8 : e4 = vi (ix x1 1) := b8; subst b8
        refine ah rfl rfl (mf rfl rfl f6) (ah rfl rfl (bv rfl rfl rfl) (ah rfl rfl (cb rfl rfl ks) ?_))
        exact gK rfl rfl rfl rfl rfl k
      refine nS ?_
      refine bz hres rfl ?_ ?_ <;> clear hres <;> intro c hres <;> try simp only [qa, qaD] at c
      ·refine sR (mI rfl (mI rfl (nS ?_)))
       exact rT hres rfl rfl rfl rfl rfl
      ·refine az (au (ap (sR (fL rfl (ae.g_Op r0) rfl rfl (bN dj rfl rfl (mV rfl ?_))))))
       refine ca 4 (d := 88) (v := vb ((decide (x0.Op = 15)) || (decide (x0.Op = 16)))) ?_ ?_
       ·intro S Q r
        cases e0 : (decide (x0.Op = 15))
        ·intro k
         have a6 := e0
         try simp only [qa, qaD] at a6
         refine ah rfl rfl (bw rfl (ae.g_Op r0)) (ah rfl rfl (bv rfl rfl rfl) (ah rfl rfl (cb rfl rfl dj) ?_))
         exact gK rfl rfl rfl rfl rfl k
        ·exact gN 3 rfl rfl rfl rfl rfl rfl
       refine nS ?_
       refine bz hres rfl ?_ ?_ <;> clear hres <;> intro c hres <;> try simp only [qa, qaD] at c
       ·refine sR (mI rfl (mI rfl (nS ?_)))
        exact rT hres rfl rfl rfl rfl rfl
       ·refine az (au (sR ?_))
        obtain ⟨e6, e7, a5⟩ := nh (t := tI) r1 (i := 0) (by omega) (by omega)
        have a5 : e6 = vi (ix x1 0) := a5; subst a5
        refine af (mf rfl rfl e7) (lR rfl rfl rfl (mV rfl (mI rfl (nS ?_))))
        exact rT hres rfl rfl rfl rfl rfl
 ·intro J
  refine bz hres rfl ?_ ?_ <;> clear hres <;> intro c hres <;> try simp only [qa, qaD] at c
  ·refine az ?_
   refine au (wC (J _  hres) rfl)
  ·refine aw (bN dj rfl rfl (mV rfl (br ?_)))
   refine au (wC (J _  hres) rfl)

def RF226 (res : Int × Int × Int) (r : PV) : Prop := r = .tup [vi res.1, vi res.2.1, vi res.2.2]
theorem sd {S : List Fr} {res : Int × Int × Int} {x0 : av} {x1 : List ae} {x2 : Int} {rec_ : av → (List ae) → Int → (Int × Int × Int)} {mu_ : Nat} {a8 : Int} {v0 v1 : PV} {a6 a5 : Nat} (r0 : av.t.R x0 v0) (r1 : (tSl ae.t).R x1 v1) (h0 : 0 ≤ x2) (hb : x1.length ≤ 1000000) (ihR : ∀ {z0 : av} {z1 : List ae} {z2 : Int} {c9 c7 : PV} (d3 : av.t.R z0 c9) (d4 : (tSl ae.t).R z1 c7) (h0 : 0 ≤ z2) (hb : z1.length ≤ 1000000), (z1.length - z2.toNat) < mu_ → FnR Tryz.prog 226 [c9, c7, vi z2] (.tup [vi ((rec_ z0 z1 z2).1), vi ((rec_ z0 z1 z2).2.1), vi ((rec_ z0 z1 z2).2.2)])) (hmu : mu_ = (x1.length - x2.toNat)) (hrec : ∀ (z0 : av) (z1 : List ae) (z2 : Int), 0 ≤ z2 → z1.length ≤ 1000000 → (rec_ z0 z1 z2).2.2 = 0 → z2 < (rec_ z0 z1 z2).2.1) (b7 : (decide ((x1.length : Int) ≤ x2)) = false) (d1 : du ((ix x1 x2).Op) = a8) (c1 : (decide (a8 < 0)) = false) (c3 : (decide (a8 = 0)) = false) {K1 : Int → (List Int) → (Int × Int × Int)}
  (d2 : ∀ {a9 : Int} {zE109 : List Int} {a1 : PV} (a2 : (tAr 3 tI).R zE109 a1) {h : Heap} (M0 : Mem h [⟨.op a6 a5 0, 293, 3, [a1]⟩]), K1 a9 zE109 = res → PX Tryz.prog 1 S (QR Tryz.prog [(6, none), (7, none), (8, none)] (RF226 res)) [(1, v1), (2, vi x2), (7, vi a9), (10, .op a6 a5 0)] h) :
  ∀ {m : Nat} {a9 a0 : Int} {zE109 : List Int} {a1 : PV} (a2 : (tAr 3 tI).R zE109 a1) (d0 : m = Int.toNat (a8 - a0)) (b9 : 0 ≤ a0) (b0 : x2 < a9) {h : Heap} (M0 : Mem h [⟨.op a6 a5 0, 293, 3, [a1]⟩]), cz x0 x1 rec_ K1 m a9 a0 zE109 = res → RC Tryz.prog (.loop by2) S (QR Tryz.prog [(6, none), (7, none), (8, none)] (RF226 res)) [(44, vi a0), (43, vi a8), (10, .op a6 a5 0), (7, vi a9), (3, .fp v0), (2, vi x2), (1, v1)] h := by
 have hb' := hb
 try simp only [qa, qaD] at hb'
 have b4 := b7
 try simp only [qa, qaD] at b4
 have b6 := c1
 try simp only [qa, qaD] at b6
 have b3 := c3
 try simp only [qa, qaD] at b3
 intro m
 induction m with
 | zero =>
  intro a9 a0 zE109 a1 a2 d0 b9 b0 h M0 hres
  rw [cz] at hres
  refine cj (sR (bN cn rfl rfl (nS (ap ?_))))
  refine cd rfl ?_ ?_ <;> intro c <;> try simp only [qa, qaD] at c
  ·omega
  refine dl (eh (de ?_))
  exact wP (d2 a2 (Mem.sub M0 (.cons_cons _ .slnil)) hres) rfl
 | succ m ih =>
  intro a9 a0 zE109 a1 a2 d0 b9 b0 h M0 hres
  rw [cz] at hres
  refine cj (sR (bN cn rfl rfl (nS (ap ?_))))
  refine cd rfl ?_ ?_ <;> intro c <;> try simp only [qa, qaD] at c
  rotate_left
  ·omega
  refine az (au (ap (bf (sR (mV rfl (mV rfl (nR (mV rfl ?_))))))))
  refine lD r0 rfl rfl rfl (mV rfl (mV rfl ?_))
  obtain ⟨a3, b2, hres⟩ := bp hres
  have c2 := ihR (z0 := x0) (z1 := x1) (z2 := a9) r0 r1 (by first | assumption | omega | (rw [cv (by omega) (by omega)]; omega)) (by first | assumption | omega | (rw [cv (by omega) (by omega)]; omega)) (by first | omega | (rw [cv (by omega) (by omega)]; omega))
  rw [b2] at c2
  have c8 : a3.2.2 = 0 → a9 < a3.2.1 := by rw [← b2]; exact hrec _ _ _ (by omega) (by omega)
  refine cL c2 rfl rfl (ak (TR.clo av.t r0) (ak (TR.clo (tSl ae.t) r1) (ak rfl bd))) (mV rfl (xT rfl rfl (xT rfl rfl (xT rfl rfl ?_))))
  have a7 : 0 ≤ a0 := by first | omega | (have hk := ar (by assumption); omega)
  have a4 : a0 < 3 := by first | omega | (have hk := ar (by assumption); omega)
  refine af (wc rfl rfl a7 a4) ?_
  obtain ⟨b8, c5, b1, c4⟩ := ak4 (t := tI) (i := a0) a2 a7 a4 (show tI.R a3.1 (vi a3.1) from rfl) rfl
  refine ae7 (k := 0) (v := vi a3.1) M0 rfl rfl rfl c5 rfl b1.1 b1.2 (fun c6 b5 => ?_)
  replace b5 : Mem c6 [⟨.op a6 a5 0, 293, 3, [.agg (spl b8 (a0.toNat * 1) [vi a3.1])]⟩] := b5
  refine mV rfl (mV rfl (nR (mV rfl (bN ks rfl rfl (nS ?_)))))
  refine bz hres rfl ?_ ?_ <;> clear hres <;> intro c hres <;> try simp only [qa, qaD] at c
  ·refine sR (mV rfl (mI rfl (mI rfl (mV rfl (nS ?_)))))
   subst hres
   exact fw (.tmp rfl (.tmp rfl (.tmp rfl .nil))) (dq (show closed (.tup _) = true from (ak rfl (ak rfl (ak rfl bd))))) rfl
  ·refine az (cy (au (aw (bN dp rfl rfl (mV rfl (br (cx ?_)))))))
   have hinc : wr (a0 + 1) = a0 + 1 := cv (by omega) (by first | omega | (have hk := ar (by assumption); omega))
   erw [hinc]
   exact wC (ih  c4 (by omega) (by omega) (by first | omega | (simp; done) | (simp only [List.length_append, List.length_cons, List.length_nil, List.length_set]; omega)) (Mem.sub b5 (.cons_cons _ .slnil)) hres) rfl

theorem bp4 {rec_ : av → (List ae) → Int → (Int × Int × Int)} {mu_ : Nat} {x0 : av} {x1 : List ae} {x2 : Int} {v0 v1 : PV} (r0 : av.t.R x0 v0) (r1 : (tSl ae.t).R x1 v1) (h0 : 0 ≤ x2) (hb : x1.length ≤ 1000000) (hmu : mu_ = (x1.length - x2.toNat)) (hrec : ∀ (z0 : av) (z1 : List ae) (z2 : Int), 0 ≤ z2 → z1.length ≤ 1000000 → (rec_ z0 z1 z2).2.2 = 0 → z2 < (rec_ z0 z1 z2).2.1) (ihR : ∀ {z0 : av} {z1 : List ae} {z2 : Int} {c6 c5 : PV} (d7 : av.t.R z0 c6) (d8 : (tSl ae.t).R z1 c5) (h0 : 0 ≤ z2) (hb : z1.length ≤ 1000000), (z1.length - z2.toNat) < mu_ → FnR Tryz.prog 226 [c6, c5, vi z2] (.tup [vi ((rec_ z0 z1 z2).1), vi ((rec_ z0 z1 z2).2.1), vi ((rec_ z0 z1 z2).2.2)])) : FnR Tryz.prog 226 [v0, v1, vi x2] (.tup [vi ((dm rec_ x0 x1 x2).1), vi ((dm rec_ x0 x1 x2).2.1), vi ((dm rec_ x0 x1 x2).2.2)]) := by
 refine fnS (R := RF226) bc3 (fun _ h => h) rfl fun res hres => ?_
 unfold dm at hres
 refine sR (af (dn rfl (TR.cnt av.t r0)) (mI rfl (mI rfl (mI rfl (nS (ap (sR (mV rfl ?_))))))))
 refine mV rfl (af (cq rfl (ci r1 Tryz.underlying32 _)) (bN kt rfl rfl (nS ?_)))
 refine bz hres rfl ?_ ?_ <;> clear hres <;> intro a1 hres <;> have a7 := a1 <;> try simp only [qa, qaD] at a7
 ·refine sR (mI rfl (mI rfl (mI rfl (nS ?_))))
  subst hres
  exact fw (.tmp rfl (.tmp rfl (.tmp rfl .nil))) (dq (show closed (.tup _) = true from (ak rfl (ak rfl (ak rfl bd))))) rfl
 ·refine az (au (sR (mV rfl (mV rfl ?_))))
  obtain ⟨c7, b7, b9⟩ := dh (i := x2) r1 (by omega) (by omega)
  refine af (bn rfl rfl b7) (fL rfl (ae.g_Op b9) rfl rfl ?_)
  obtain ⟨d4, a4, hres⟩ := bp hres
  have b1 := al5 (x0 := (ix x1 x2).Op)  
  rw [a4] at b1
  refine cL b1 rfl rfl (ak rfl bd) (mV rfl (nS (ap (bf (sR (mV rfl (bN cn rfl rfl (mV rfl ?_))))))))
  refine nS ?_
  refine bz hres rfl ?_ ?_ <;> clear hres <;> intro a2 hres <;> have a9 := a2 <;> try simp only [qa, qaD] at a9
  ·refine sR (mI rfl (mI rfl (mI rfl (nS ?_))))
   subst hres
   exact fw (.tmp rfl (.tmp rfl (.tmp rfl .nil))) (dq (show closed (.tup _) = true from (ak rfl (ak rfl (ak rfl bd))))) rfl
  ·refine sR (mV rfl (bN dj rfl rfl (mV rfl (nS ?_))))
   refine bz hres rfl ?_ ?_ <;> clear hres <;> intro a3 hres <;> have a5 := a3 <;> try simp only [qa, qaD] at a5
   ·refine sR (lD r0 rfl rfl rfl (mV rfl (mV rfl ?_)))
    obtain ⟨d3, c3, a6⟩ := dh (i := x2) r1 (by omega) (by omega)
    refine af (bn rfl rfl c3) (lD a6 rfl rfl rfl ?_)
    obtain ⟨d6, b2, hres⟩ := bp hres
    have b6 := co8  r0 a6 
    rw [b2] at b6
    refine cL b6 rfl rfl (ak (TR.clo av.t r0) (ak (TR.clo ae.t a6) bd)) (mV rfl (xT rfl rfl (xT rfl rfl (mV rfl (mV rfl (nR (mV rfl (mV rfl ?_))))))))
    refine bN dp rfl rfl (mV rfl (mV rfl (mV rfl (mV rfl (nS ?_)))))
    subst hres
    exact fw (.tmp rfl (.tmp rfl (.tmp rfl .nil))) (dq (show closed (.tup _) = true from (ak rfl (ak rfl (ak rfl bd))))) rfl
   ·refine az (cy (au (sR ?_)))
    refine ek (x := .agg [vi 0, vi 0, vi 0]) (Mem.nil ⟨0, []⟩) rfl rfl (fun d0 c8 c9 c2 => ?_)
    refine nR (mV rfl (bN dp rfl rfl (mV rfl (nS (ap (sR (mV rfl (mI rfl ?_))))))))
    refine nS (bf ?_)
    refine wC (sd r0 r1 h0 hb ihR hmu hrec a1 a4 a2 a3 ?_  (show (tAr 3 tI).R ([0, 0, 0] : List Int) (.agg [vi 0, vi 0, vi 0]) from ⟨rfl, [vi 0, vi 0, vi 0], [vi 0, vi 0, vi 0], ⟨rfl, ⟨rfl, ⟨rfl, trivial⟩⟩⟩, rfl, rfl⟩) rfl (by omega) (by (rw [cv (by omega) (by omega)]; omega)) (Mem.sub c2 (.cons_cons _ .slnil)) hres) rfl
    ·intro c4 b0 b3 a0 d5 c1 hres
     refine em (au (sR (mV rfl (mV rfl ?_))))
     obtain ⟨d1, b8, a8⟩ := dh (i := x2) r1 (by omega) (by omega)
     refine af (bn rfl rfl b8) (lD a8 rfl rfl rfl (af (pf (k := 0) c1 rfl rfl (TR.agg (tAr 3 tI) a0)) ?_))
     obtain ⟨d2, b5, hres⟩ := bp hres
     have b4 := cn8  a8 a0 
     rw [b5] at b4
     refine cL b4 rfl rfl (ak (TR.clo ae.t a8) (ak (TR.clo (tAr 3 tI) a0) bd)) (mV rfl (xT rfl rfl (xT rfl rfl (mV rfl (mV rfl (nR (mV rfl (mV rfl ?_))))))))
     refine mV rfl (mV rfl (mV rfl (mV rfl (nS ?_))))
     subst hres
     exact fw (.tmp rfl (.tmp rfl (.tmp rfl .nil))) (dq (show closed (.tup _) = true from (ak rfl (ak rfl (ak rfl bd))))) rfl
theorem bx8 : ∀ (n_ : Nat) {x0 : av} {x1 : List ae} {x2 : Int} {v0 v1 : PV} (r0 : av.t.R x0 v0) (r1 : (tSl ae.t).R x1 v1) (h0 : 0 ≤ x2) (hb : x1.length ≤ 1000000), (x1.length - x2.toNat) < n_ → FnR Tryz.prog 226 [v0, v1, vi x2] (.tup [vi ((da n_ x0 x1 x2).1), vi ((da n_ x0 x1 x2).2.1), vi ((da n_ x0 x1 x2).2.2)]) := by
 intro n_
 induction n_ with
 | zero => intros; rename_i hlt; exact absurd hlt (Nat.not_lt_zero _)
 | succ n_ ihn =>
  intro x0 x1 x2 v0 v1 r0 r1 h0 hb hlt
  have e_ : da (n_ + 1) x0 x1 x2 = dm (da n_) x0 x1 x2 := by rw [da]
  rw [e_]
  exact bp4 r0 r1 h0 hb rfl (py n_) (fun {z0} {z1} {z2} {zv0} {zv1} zr0 zr1 h0 hb hz => ihn zr0 zr1 h0 hb (by omega))
theorem cm4 {x0 : av} {x1 : List ae} {x2 : Int} {v0 v1 : PV} (r0 : av.t.R x0 v0) (r1 : (tSl ae.t).R x1 v1) (h0 : 0 ≤ x2) (hb : x1.length ≤ 1000000) : FnR Tryz.prog 226 [v0, v1, vi x2] (.tup [vi ((cw x0 x1 x2).1), vi ((cw x0 x1 x2).2.1), vi ((cw x0 x1 x2).2.2)]) := bx8 _ r0 r1 h0 hb (Nat.lt_succ_self _)

def RF174 (res : Int × Int) (r : PV) : Prop := r = .tup [vi res.1, vi res.2]
theorem ba5 {x0 : List ae} {x1 : av} {v0 v1 : PV} (r0 : (tSl ae.t).R x0 v0) (r1 : av.t.R x1 v1) : FnR Tryz.prog 174 [v0, v1] (.tup [vi ((nd x0 x1).1), vi ((nd x0 x1).2)]) := by
 refine fnS (R := RF174) bc4 (fun _ h => h) rfl fun res hres => ?_
 unfold nd at hres
 refine sR (af (dn rfl (TR.cnt av.t r1)) (mI rfl (mI rfl (nS (ap (sR (mV rfl (af (cq rfl (ci r0 Tryz.underlying32 _)) ?_))))))))
 refine bN iu rfl rfl (nS ?_)
 refine bz hres rfl ?_ ?_ <;> clear hres <;> intro c hres <;> try simp only [qa, qaD] at c
 ·refine sR (mI rfl (mI rfl (nS ?_)))
  exact rT hres rfl rfl rfl rfl rfl
 ·refine az (au (sR (lD r1 rfl rfl rfl (mV rfl ?_))))
  obtain ⟨a2, a1, hres⟩ := bp hres
  have a0 := cm4 (x2 := 0) r1 r0 (by first | assumption | omega | (rw [cv (by omega) (by omega)]; omega)) (by first | assumption | omega | (rw [cv (by omega) (by omega)]; omega))
  rw [a1] at a0
  refine cL a0 rfl rfl (ak (TR.clo av.t r1) (ak (TR.clo (tSl ae.t) r0) (ak rfl bd))) (mV rfl (xT rfl rfl (xT rfl rfl (xT rfl rfl (mV rfl (mV rfl (mV rfl (nS ?_))))))))
  refine ap (bf (sR (mV rfl (bN ks rfl rfl (mV rfl (nS ?_))))))
  refine bz hres rfl ?_ ?_ <;> clear hres <;> intro c hres <;> try simp only [qa, qaD] at c
  ·refine sR (mV rfl (mI rfl (mV rfl (nS ?_))))
   exact rT hres rfl rfl rfl rfl rfl
  ·refine sR (mV rfl (mV rfl (af (cq rfl (ci r0 Tryz.underlying32 _)) (bN cn rfl rfl (mV rfl (nS ?_))))))
   refine bz hres rfl ?_ ?_ <;> clear hres <;> intro c hres <;> try simp only [qa, qaD] at c
   ·refine sR (mI rfl (mI rfl (nS ?_)))
    exact rT hres rfl rfl rfl rfl rfl
   ·refine az (cy (au (sR (mV rfl (mV rfl (mI rfl (nS ?_)))))))
    exact rT hres rfl rfl rfl rfl rfl

def RF173 (res : Int) (r : PV) : Prop := r = vi res
theorem bh0 {x0 : db} {x1 : List ae} {x2 : Int} {v0 v1 : PV} (r0 : db.t.R x0 v0) (r1 : (tSl ae.t).R x1 v1) : FnR Tryz.prog 173 [v0, v1, vi x2] (vi (gh x0 x1 x2)) := by
 refine fnS (R := RF173) bg5 (fun _ h => h) rfl fun res hres => ?_
 unfold gh at hres
 refine sR (af (dn rfl (TR.cnt db.t r0)) (mI rfl (nR (mV rfl (gL (db.g_scope r0) rfl rfl rfl fun a6 a2 => ?_)))))
 obtain ⟨a0, a4, hres⟩ := bp hres
 have a5 := ba5  r1 a2 
 rw [a4] at a5
 refine cL a5 rfl rfl (ak (TR.clo (tSl ae.t) r1) (ak (TR.clo av.t a2) bd)) (mV rfl (xT rfl rfl (xT rfl rfl (mV rfl (mV rfl (nS (ap (sR ?_))))))))
 refine mV rfl (bN dj rfl rfl (mV rfl ?_))
 refine ca 4 (d := 22) (v := vb ((decide (a0.2 = 0)) && (!decide (a0.1 = x2)))) ?_ ?_
 ·intro S Q r
  cases a3 : (decide (a0.2 = 0))
  ·exact gN 3 rfl rfl rfl rfl rfl rfl
  ·intro k
   have a1 := a3
   try simp only [qa, qaD] at a1
   refine ah rfl rfl (ax rfl) (ah rfl rfl (ax rfl) (ah rfl rfl (cb rfl rfl ks) ?_))
   exact gK rfl rfl rfl rfl rfl k
 refine nS ?_
 refine bz hres rfl ?_ ?_ <;> clear hres <;> intro c hres <;> try simp only [qa, qaD] at c
 ·refine sR (mI rfl (nS ?_))
  exact rR hres rfl rfl rfl
 ·refine az (au (sR (mV rfl (mV rfl (nS ?_)))))
  exact rR hres rfl rfl rfl

end Go.Proofs.YtmonnlkagniolaaGreat
