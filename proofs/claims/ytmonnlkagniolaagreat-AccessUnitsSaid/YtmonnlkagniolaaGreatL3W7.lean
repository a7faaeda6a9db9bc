/-
 The code of each function does what its plain program says.
-/
import Derived.Test.YtmonnlkagniolaaGreatL3W6
set_option linter.unusedVariables false
set_option linter.unusedSimpArgs false
set_option maxRecDepth 100000
namespace Go.Proofs.YtmonnlkagniolaaGreat
open Go Go.Pb Go.RowKit
def RF85 (res : av) (r : PV) : Prop := av.t.R res r
theorem dd5 {x0 : ab} {x1 : Int} {v0 : PV} (r0 : ab.t.R x0 v0) (hi : 0 ≤ x1 ∧ x1 < (x0.Actions.length : Int)) : ∃ r, FnR Tryz.prog 85 [v0, vi x1] r ∧ av.t.R (qo x0 x1) r := by
 refine fnT (R := RF85) cz2 rfl fun res hres => ?_
 unfold qo at hres
 refine sR (af (dn rfl (TR.cnt ab.t r0)) ?_)
 refine ek (x := .agg [vs [], nilS, nilS, nilS, nilS, nilS, nilS, nilS, nilS, nilS]) (Mem.nil ⟨0, []⟩) rfl rfl (fun c2 c4 c9 c1 => ?_)
 refine nR (lD r0 rfl rfl rfl (gL (ab.g_Actions r0) rfl rfl rfl fun c8 c5 => (mV rfl ?_)))
 obtain ⟨d0, c3, c7⟩ := dh (i := x1) c5 (by omega) (by omega)
 refine af (bn rfl rfl c3) (gL (bc.g_Params c7) rfl rfl rfl fun a8 b7 => ?_)
 obtain ⟨a2, a3, a6, a7, a4, a5, a1, a0, c6, a9, b0, b4, b5, b6, b2, b3, b1⟩ := r0
 subst c6
 refine af (v := .agg [vs x0.Name, a2, a3, a6, a7, a4, a5, a1, a0, a8]) (lr (cs := [vs x0.Name, a2, a3, a6, a7, a4, a5, a1, a0, a8]) rfl (by simp only [buildV, nj (TR.cnt (tSl ay.t) b7) (TR.agg (tSl ay.t) b7)]; rfl)) ?_
 refine dy (k := 0) (v := .agg [vs x0.Name, a2, a3, a6, a7, a4, a5, a1, a0, a8]) c1 rfl rfl rfl rfl (fun b9 b8 => ?_)
 replace b8 : Mem b9 [⟨.op c2 c4 0, 132, 10, [.agg [vs x0.Name, a2, a3, a6, a7, a4, a5, a1, a0, a8]]⟩] := b8
 refine nS ?_
 subst hres
 exact fw (.cell rfl (nt (k := 0) b8 rfl rfl) .nil) (dq (TR.clo av.t (show av.t.R ({ Program := x0, Params := (ix x0.Actions x1).Params } : av) (.agg [vs x0.Name, a2, a3, a6, a7, a4, a5, a1, a0, a8]) from ⟨a2, a3, a6, a7, a4, a5, a1, a0, a8, rfl, a9, b0, b4, b5, b6, b2, b3, b1, b7⟩))) (show av.t.R ({ Program := x0, Params := (ix x0.Actions x1).Params } : av) (.agg [vs x0.Name, a2, a3, a6, a7, a4, a5, a1, a0, a8]) from ⟨a2, a3, a6, a7, a4, a5, a1, a0, a8, rfl, a9, b0, b4, b5, b6, b2, b3, b1, b7⟩)

def RF177 (res : Int × Bool) (r : PV) : Prop := r = .tup [vi res.1, vb res.2]
theorem bg2 {x0 : ab} {x1 : aa} {v0 v1 : PV} (r0 : ab.t.R x0 v0) (r1 : aa.t.R x1 v1) : FnR Tryz.prog 177 [v0, v1] (.tup [vi ((mi x0 x1).1), vb ((mi x0 x1).2)]) := by
 refine fnS (R := RF177) cg2 (fun _ h => h) rfl fun res hres => ?_
 unfold mi at hres
 refine sR (af (dn rfl (TR.cnt ab.t r0)) (af (dn rfl (TR.cnt aa.t r1)) (mI rfl (mB rfl (nR (gL (ab.g_Metadata r0) rfl rfl rfl fun c3 a9 => (mV rfl (nS ?_))))))))
 refine ap (sR (fL rfl (aa.g_Header r1) rfl rfl (bN (ks (b := -1)) rfl rfl (nS ?_))))
 obtain ⟨b2, a7, hres⟩ := bp hres
 refine lm (F := fun b S Q => ∀ (a0 : List ay) (a2 : PV) (a1 : (tSl ay.t).R a0 a2), b2 a0 = res → RC Tryz.prog b S Q [(6, a2), (3, .fp v1)] ⟨0, []⟩) ?_ ?_
 ·intro a0 a2 a1  hres
  rw [← a7] at hres
  refine ap (sR (fL rfl (aa.g_Field r1) rfl rfl (bN cn rfl rfl (mV rfl ?_))))
  refine ca 6 (d := 39) (v := vb ((decide (x1.Field < 0)) || (decide ((a0.length : Int) ≤ x1.Field)))) ?_ ?_
  ·intro S Q r
   cases a8 : (decide (x1.Field < 0))
   ·intro k
    have a5 := a8
    try simp only [qa, qaD] at a5
    refine ah rfl rfl (bw rfl (aa.g_Field r1)) (ah rfl rfl (bv rfl rfl rfl) (ah rfl rfl (ax rfl) (ah rfl rfl (cq rfl (ci a1 Tryz.underlying23 _)) (ah rfl rfl (cb rfl rfl kt) ?_))))
    exact gK rfl rfl rfl rfl rfl k
   ·exact gN 5 rfl rfl rfl rfl rfl rfl
  refine nS ?_
  refine bz hres rfl ?_ ?_ <;> clear hres <;> intro c hres <;> try simp only [qa, qaD] at c
  ·refine sR (mI rfl (mB rfl (nS ?_)))
   exact rT hres rfl rfl rfl rfl rfl
  ·refine az (au (sR (mV rfl (fL rfl (aa.g_Field r1) rfl rfl ?_))))
   obtain ⟨c1, b0, b4⟩ := dh (i := x1.Field) a1 (by omega) (by omega)
   refine af (bn rfl rfl b0) (fL rfl (ay.g_Width b4) rfl rfl (mV rfl (mB rfl (nS ?_))))
   exact rT hres rfl rfl rfl rfl rfl
 ·intro J
  refine bz hres rfl ?_ ?_ <;> clear hres <;> intro c hres <;> try simp only [qa, qaD] at c
  ·refine ap (sR (fL rfl (aa.g_Header r1) rfl rfl (bN cn rfl rfl (mV rfl ?_))))
   refine ca 7 (d := 22) (v := vb ((decide (x1.Header < 0)) || (decide ((x0.Headers.length : Int) ≤ x1.Header)))) ?_ ?_
   ·intro S Q r
    cases a6 : (decide (x1.Header < 0))
    ·intro k
     have a4 := a6
     try simp only [qa, qaD] at a4
     refine ah rfl rfl (bw rfl (aa.g_Header r1)) (ah rfl rfl (bv rfl rfl rfl) ?_)
     obtain ⟨b9, b3, a3⟩ := ab.g_Headers r0
     refine ah rfl rfl (bw rfl b3) (ah rfl rfl (bv rfl (TR.cnt (tSl bg.t) a3) (TR.agg (tSl bg.t) a3)) (ah rfl rfl (cq rfl (ci a3 Tryz.underlying22 _)) (ah rfl rfl (cb rfl rfl kt) ?_)))
     exact gK rfl rfl rfl rfl rfl k
    ·exact gN 6 rfl rfl rfl rfl rfl rfl
   refine nS ?_
   refine bz hres rfl ?_ ?_ <;> clear hres <;> intro c hres <;> try simp only [qa, qaD] at c
   ·refine sR (mI rfl (mB rfl (nS ?_)))
    exact rT hres rfl rfl rfl rfl rfl
   ·refine az (au (aw (gL (ab.g_Headers r0) rfl rfl rfl fun c2 b7 => (fL rfl (aa.g_Header r1) rfl rfl ?_))))
    obtain ⟨c4, b5, b1⟩ := dh (i := x1.Header) b7 (by omega) (by omega)
    refine af (bn rfl rfl b5) (gL (bg.g_Fields b1) rfl rfl rfl fun b8 b6 => (mV rfl (br ?_)))
    refine au (wC (J _ _ b6  hres) rfl)
  ·refine az ?_
   refine au (wC (J _ _ a9  hres) rfl)

def RF219 (res : Int) (r : PV) : Prop := r = vi res
theorem cg9 {x0 : Int} : FnR Tryz.prog 219 [vi x0] (vi (lj x0)) := by
 refine fnS (R := RF219) cb3 (fun _ h => h) rfl fun res hres => ?_
 unfold lj at hres
 refine sR (mI rfl (nS (ap (bf (sR (mV rfl (bN kt rfl rfl (mV rfl ?_))))))))
 refine ca 3 (d := 9) (v := vb ((decide (1 ≤ x0)) && (decide (x0 ≤ 4)))) ?_ ?_
 ·intro S Q r
  cases a5 : (decide (1 ≤ x0))
  ·exact gN 2 rfl rfl rfl rfl rfl rfl
  ·intro k
   have a2 := a5
   try simp only [qa, qaD] at a2
   refine ah rfl rfl (ax rfl) (ah rfl rfl (cb rfl rfl bb9) ?_)
   exact gK rfl rfl rfl rfl rfl k
 refine mV rfl (nS ?_)
 refine bz hres rfl ?_ ?_ <;> clear hres <;> intro c hres <;> try simp only [qa, qaD] at c
 ·refine sR (mI rfl (nS ?_))
  exact rR hres rfl rfl rfl
 ·refine sR (mV rfl (bN kt rfl rfl (mV rfl ?_)))
  refine ca 3 (d := 16) (v := vb ((decide (5 ≤ x0)) && (decide (x0 ≤ 8)))) ?_ ?_
  ·intro S Q r
   cases a3 : (decide (5 ≤ x0))
   ·exact gN 2 rfl rfl rfl rfl rfl rfl
   ·intro k
    have a0 := a3
    try simp only [qa, qaD] at a0
    refine ah rfl rfl (ax rfl) (ah rfl rfl (cb rfl rfl bb9) ?_)
    exact gK rfl rfl rfl rfl rfl k
  refine mV rfl (nS ?_)
  refine bz hres rfl ?_ ?_ <;> clear hres <;> intro c hres <;> try simp only [qa, qaD] at c
  ·refine sR (mI rfl (nS ?_))
   exact rR hres rfl rfl rfl
  ·refine sR (mV rfl (bN kt rfl rfl (mV rfl ?_)))
   refine ca 3 (d := 23) (v := vb ((decide (9 ≤ x0)) && (decide (x0 ≤ 16)))) ?_ ?_
   ·intro S Q r
    cases a4 : (decide (9 ≤ x0))
    ·exact gN 2 rfl rfl rfl rfl rfl rfl
    ·intro k
     have a1 := a4
     try simp only [qa, qaD] at a1
     refine ah rfl rfl (ax rfl) (ah rfl rfl (cb rfl rfl bb9) ?_)
     exact gK rfl rfl rfl rfl rfl k
   refine mV rfl (nS ?_)
   refine bz hres rfl ?_ ?_ <;> clear hres <;> intro c hres <;> try simp only [qa, qaD] at c
   ·refine sR (mI rfl (nS ?_))
    exact rR hres rfl rfl rfl
   ·refine sR (mV rfl (bN dj rfl rfl (mV rfl (nS ?_))))
    refine bz hres rfl ?_ ?_ <;> clear hres <;> intro c hres <;> try simp only [qa, qaD] at c
    ·refine sR (mI rfl (nS ?_))
     exact rR hres rfl rfl rfl
    ·refine az (cy (au (sR (mI rfl (nS ?_)))))
     exact rR hres rfl rfl rfl

def RF285 (res : Int × Int) (r : PV) : Prop := r = .tup [vi res.1, vi res.2]
theorem ac6 {x0 : Int} : FnR Tryz.prog 285 [vi x0] (.tup [vi ((ow x0).1), vi ((ow x0).2)]) := by
 refine fnS (R := RF285) cj3 (fun _ h => h) rfl fun res hres => ?_
 unfold ow at hres
 refine sR (mI rfl (mI rfl (nS (ap (sR (mV rfl (bN cn rfl rfl (mV rfl ?_))))))))
 refine ca 3 (d := 9) (v := vb ((decide (x0 < 1)) || (decide (32 < x0)))) ?_ ?_
 ·intro S Q r
  cases a1 : (decide (x0 < 1))
  ·intro k
   have a0 := a1
   try simp only [qa, qaD] at a0
   refine ah rfl rfl (ax rfl) (ah rfl rfl (cb rfl rfl iu) ?_)
   exact gK rfl rfl rfl rfl rfl k
  ·exact gN 2 rfl rfl rfl rfl rfl rfl
 refine nS ?_
 refine bz hres rfl ?_ ?_ <;> clear hres <;> intro c hres <;> try simp only [qa, qaD] at c
 ·refine sR (mI rfl (mI rfl (nS ?_)))
  exact rT hres rfl rfl rfl rfl rfl
 ·refine az (au (sR (mV rfl (mV rfl (mI rfl (nS ?_))))))
  exact rT hres rfl rfl rfl rfl rfl

def RF183 (res : Bool) (r : PV) : Prop := r = vb res
theorem ch6 {x0 : Int} : FnR Tryz.prog 183 [vi x0] (vb (pk x0)) := by
 refine fnS (R := RF183) ca7 (fun _ h => h) rfl fun res hres => ?_
 unfold pk at hres
 refine sR (mB rfl (nR (mV rfl (bN kt rfl rfl (mV rfl ?_)))))
 refine ca 3 (d := 8) (v := vb ((decide (1 ≤ x0)) && (decide (x0 ≤ 32)))) ?_ ?_
 ·intro S Q r
  cases a1 : (decide (1 ≤ x0))
  ·exact gN 2 rfl rfl rfl rfl rfl rfl
  ·intro k
   have a0 := a1
   try simp only [qa, qaD] at a0
   refine ah rfl rfl (ax rfl) (ah rfl rfl (cb rfl rfl bb9) ?_)
   exact gK rfl rfl rfl rfl rfl k
 refine mV rfl (nS ?_)
 exact rR hres rfl rfl rfl

def RF184 (res : (BitVec 64)) (r : PV) : Prop := r = sx res
theorem yn {S : List Fr} {res : (BitVec 64)} {x0 : Int} (hp : x0 ≤ 64) {K0 : (BitVec 64) → (BitVec 64)}
  (a4 : ∀ {a1 : BitVec 64}, K0 a1 = res → PX Tryz.prog 0 S (QR Tryz.prog [(2, none)] (RF184 res)) [(3, sx a1)] ⟨0, []⟩) :
  ∀ {m : Nat} {a1 : BitVec 64} {a0 : Int} (a3 : m = Int.toNat (x0 - a0)) (a2 : 0 ≤ a0), oe K0 m a1 a0 = res → RC Tryz.prog (.loop bq0) S (QR Tryz.prog [(2, none)] (RF184 res)) [(4, vi a0), (3, sx a1), (0, vi x0)] ⟨0, []⟩ := by
 intro m
 induction m with
 | zero =>
  intro a1 a0 a3 a2 hres
  rw [oe] at hres
  refine cj (ap (sR (mV rfl (mV rfl (bN cn rfl rfl (nS ?_))))))
  refine cd rfl ?_ ?_ <;> intro c <;> try simp only [qa, qaD] at c
  ·omega
  refine dl (eh (de ?_))
  exact wP (a4  hres) rfl
 | succ m ih =>
  intro a1 a0 a3 a2 hres
  rw [oe] at hres
  refine cj (ap (sR (mV rfl (mV rfl (bN cn rfl rfl (nS ?_))))))
  refine cd rfl ?_ ?_ <;> intro c <;> try simp only [qa, qaD] at c
  rotate_left
  ·omega
  refine az (au (ap (bf (aw (mV rfl (af (cb (a := sx 2#64) (b := sx a1) rfl rfl dg3) (mV rfl (br ?_))))))))
  refine cy (au (aw (mV rfl (bN dp rfl rfl (mV rfl (br (cx ?_)))))))
  have hinc : wr (a0 + 1) = a0 + 1 := cv (by omega) (by omega)
  erw [hinc]
  exact wC (ih   (by omega) (by omega) hres) rfl

theorem ch3 {x0 : Int} (hp : x0 ≤ 64) : FnR Tryz.prog 184 [vi x0] (sx (tm x0)) := by
 refine fnS (R := RF184) cp1 (fun _ h => h) rfl fun res hres => ?_
 unfold tm at hres
 refine sR (af (v := sx 0#64) (ax rfl) (nR (af (v := sx 1#64) (ax rfl) (nS (ap (sR (mI rfl (nS ?_))))))))
 refine bf ?_
 refine wC (yn hp ?_  rfl (by omega) hres) rfl
 ·intro a0 hres
  refine em (au (sR (mV rfl (mV rfl (nS ?_)))))
  exact rR hres rfl rfl rfl

def RF286 (res : (BitVec 32)) (r : PV) : Prop := r = sj res
theorem co3 {x0 : Int} : FnR Tryz.prog 286 [vi x0] (sj (nu x0)) := by
 refine fnS (R := RF286) cf5 (fun _ h => h) rfl fun res hres => ?_
 unfold nu at hres
 refine sR (af (v := sj 0#32) (ax rfl) (nS (ap (sR (mV rfl ?_)))))
 obtain ⟨a5, a2, hres⟩ := bp hres
 have a1 := ch6 (x0 := x0)  
 rw [a2] at a1
 refine cL a1 rfl rfl (ak rfl bd) (af (kp rfl) (nS ?_))
 refine bz hres rfl ?_ ?_ <;> clear hres <;> intro c hres <;> try simp only [qa, qaD] at c
 ·refine sR (af (v := sj 0#32) (ax rfl) (nS ?_))
  exact rR hres rfl rfl rfl
 ·refine az (au (sR (mV rfl ?_)))
  obtain ⟨a0, a4, hres⟩ := bp hres
  have a3 := ch3 (x0 := x0)  (by (have hk := rval (by assumption) (by assumption); omega))
  rw [a4] at a3
  refine cL a3 rfl rfl (ak rfl bd) (af (cb (a := sx a0) (b := sx 1#64) rfl rfl dm2) (af (al4 (a := sx (a0 - 1#64)) rfl (c_dw Tryz.underlying201 Tryz.underlying89)) (mV rfl (nS ?_))))
  exact rR hres rfl rfl rfl

def RF258 (res : Int × Int) (r : PV) : Prop := r = .tup [vi res.1, vi res.2]
theorem cn6 {x0 : ae} {x1 : av} {v0 v1 : PV} (r0 : ae.t.R x0 v0) (r1 : av.t.R x1 v1) : FnR Tryz.prog 258 [v0, v1] (.tup [vi ((qf x0 x1).1), vi ((qf x0 x1).2)]) := by
 refine fnS (R := RF258) cl4 (fun _ h => h) rfl fun res hres => ?_
 unfold qf at hres
 refine sR (af (dn rfl (TR.cnt ae.t r0)) (af (dn rfl (TR.cnt av.t r1)) (mI rfl (mI rfl (nS (ap (sR (fL rfl (ae.g_Op r0) rfl rfl ?_))))))))
 refine nS (bf (sR (bN dj rfl rfl (mV rfl (nS ?_)))))
 refine bz hres rfl ?_ ?_ <;> clear hres <;> intro c hres <;> try simp only [qa, qaD] at c
 ·refine sR (fL rfl (ae.g_W r0) rfl rfl ?_)
  obtain ⟨a0, b3, hres⟩ := bp hres
  have b6 := ac6 (x0 := x0.W)  
  rw [b3] at b6
  refine cL b6 rfl rfl (ak rfl bd) (mV rfl (xT rfl rfl (xT rfl rfl (mV rfl (mV rfl (nS (ap (sR ?_))))))))
  refine mV rfl (bN dj rfl rfl (mV rfl ?_))
  refine ca 12 (d := 34) (v := vb ((decide (a0.2 = 0)) && ((decide (x0.N < 0)) || (decide (((nu a0.1).toNat : Int) < x0.N))))) ?_ ?_
  ·intro S Q r
   cases a7 : (decide (a0.2 = 0))
   ·exact gN 11 rfl rfl rfl rfl rfl rfl
   ·intro k
    have a5 := a7
    try simp only [qa, qaD] at a5
    refine ah rfl rfl (bw rfl (ae.g_N r0)) (ah rfl rfl (bv rfl rfl rfl) (ah rfl rfl (cb rfl rfl cn) (ah rfl rfl (ax rfl) ?_)))
    refine ca 7 (d := 33) (v := vb ((decide (x0.N < 0)) || (decide (((nu a0.1).toNat : Int) < x0.N)))) ?_ ?_
    ·intro S Q r
     cases a9 : (decide (x0.N < 0))
     ·intro k
      have a2 := a9
      try simp only [qa, qaD] at a2
      refine ah rfl rfl (bw rfl (ae.g_N r0)) (ah rfl rfl (bv rfl rfl rfl) (ah rfl rfl (ax rfl) ?_))
      have c3 := co3 (x0 := a0.1)  
      refine mn rfl rfl (rp rfl rfl (ak rfl bd) c3) (ah rfl rfl (al4 (a := sj (nu a0.1)) rfl (c_wi Tryz.underlying89 Tryz.underlying3)) (ah rfl rfl (cb rfl rfl iu) (ah (v := vb (decide (((nu a0.1).toNat : Int) < x0.N))) rfl rfl (nr rfl rfl rfl rfl) ?_)))
      exact wD k rfl
     ·intro k
      refine ij rfl rfl (ij rfl rfl (ij rfl rfl (ij rfl rfl (ij rfl rfl (ij rfl rfl (ah (v := vb true) rfl rfl (nr rfl rfl rfl rfl) ?_))))))
      exact wD k rfl
    exact gK rfl rfl rfl rfl rfl k
  refine nS ?_
  refine bz hres rfl ?_ ?_ <;> clear hres <;> intro c hres <;> try simp only [qa, qaD] at c
  ·refine sR (mI rfl (mI rfl (nS ?_)))
   exact rT hres rfl rfl rfl rfl rfl
  ·refine az (au (sR (mV rfl (mV rfl (mV rfl (mV rfl (nS ?_)))))))
   exact rT hres rfl rfl rfl rfl rfl
 ·refine sR (bN dj rfl rfl (mV rfl (nS ?_)))
  refine bz hres rfl ?_ ?_ <;> clear hres <;> intro c hres <;> try simp only [qa, qaD] at c
  ·refine sR (gL (av.g_Program r1) rfl rfl rfl fun d7 b2 => (fL rfl (ae.g_N r0) rfl rfl (fL rfl (ae.g_W r0) rfl rfl (af (v := .agg [vi x0.N, vi x0.W]) (lr (cs := [vi x0.N, vi x0.W]) rfl rfl) ?_))))
   obtain ⟨c2, b1, hres⟩ := bp hres
   have b0 := bg2  b2 (show aa.t.R ({ Header := x0.N, Field := x0.W } : aa) (.agg [vi x0.N, vi x0.W]) from rfl) 
   rw [b1] at b0
   refine cL b0 rfl rfl (ak (TR.clo ab.t b2) (ak (TR.clo aa.t (show aa.t.R ({ Header := x0.N, Field := x0.W } : aa) (.agg [vi x0.N, vi x0.W]) from rfl)) bd)) (mV rfl (xT rfl rfl (xT rfl rfl (mV rfl (mV rfl (nS (ap (sR ?_))))))))
   refine mV rfl (af (kp rfl) (nS ?_))
   refine bz hres rfl ?_ ?_ <;> clear hres <;> intro c hres <;> try simp only [qa, qaD] at c
   ·refine sR (mI rfl (mI rfl (nS ?_)))
    exact rT hres rfl rfl rfl rfl rfl
   ·refine az (au (sR (mV rfl ?_)))
    obtain ⟨d0, b8, hres⟩ := bp hres
    have b7 := ac6 (x0 := c2.1)  
    rw [b8] at b7
    refine cL b7 rfl rfl (ak rfl bd) (xT rfl rfl (xT rfl rfl (mV rfl (mV rfl (nS ?_)))))
    exact rT hres rfl rfl rfl rfl rfl
  ·refine sR (bN dj rfl rfl (mV rfl (nS ?_)))
   refine bz hres rfl ?_ ?_ <;> clear hres <;> intro c hres <;> try simp only [qa, qaD] at c
   ·refine ap (sR (fL rfl (ae.g_N r0) rfl rfl (bN cn rfl rfl (mV rfl ?_))))
    refine ca 7 (d := 68) (v := vb ((decide (x0.N < 0)) || (decide ((x1.Params.length : Int) ≤ x0.N)))) ?_ ?_
    ·intro S Q r
     cases a8 : (decide (x0.N < 0))
     ·intro k
      have a4 := a8
      try simp only [qa, qaD] at a4
      refine ah rfl rfl (bw rfl (ae.g_N r0)) (ah rfl rfl (bv rfl rfl rfl) ?_)
      obtain ⟨d6, c9, a3⟩ := av.g_Params r1
      refine ah rfl rfl (bw rfl c9) (ah rfl rfl (bv rfl (TR.cnt (tSl ay.t) a3) (TR.agg (tSl ay.t) a3)) (ah rfl rfl (cq rfl (ci a3 Tryz.underlying23 _)) (ah rfl rfl (cb rfl rfl kt) ?_)))
      exact gK rfl rfl rfl rfl rfl k
     ·exact gN 6 rfl rfl rfl rfl rfl rfl
    refine nS ?_
    refine bz hres rfl ?_ ?_ <;> clear hres <;> intro c hres <;> try simp only [qa, qaD] at c
    ·refine sR (mI rfl (mI rfl (nS ?_)))
     exact rT hres rfl rfl rfl rfl rfl
    ·refine az (au (sR (gL (av.g_Params r1) rfl rfl rfl fun d2 c4 => (fL rfl (ae.g_N r0) rfl rfl ?_))))
     obtain ⟨d4, c1, c8⟩ := dh (i := x0.N) c4 (by omega) (by omega)
     refine af (bn rfl rfl c1) (fL rfl (ay.g_Width c8) rfl rfl ?_)
     obtain ⟨d5, b5, hres⟩ := bp hres
     have b4 := ac6 (x0 := (ix x1.Params x0.N).Width)  
     rw [b5] at b4
     refine cL b4 rfl rfl (ak rfl bd) (xT rfl rfl (xT rfl rfl (mV rfl (mV rfl (nS ?_)))))
     exact rT hres rfl rfl rfl rfl rfl
   ·refine az (cy (au (ap (sR (fL rfl (ae.g_N r0) rfl rfl (bN cn rfl rfl (mV rfl ?_)))))))
    refine ca 8 (d := 90) (v := vb ((decide (x0.N < 0)) || (decide ((x1.Program.Headers.length : Int) ≤ x0.N)))) ?_ ?_
    ·intro S Q r
     cases b9 : (decide (x0.N < 0))
     ·intro k
      have a6 := b9
      try simp only [qa, qaD] at a6
      refine ah rfl rfl (bw rfl (ae.g_N r0)) (ah rfl rfl (bv rfl rfl rfl) ?_)
      obtain ⟨d1, c6, c5⟩ := av.g_Program r1
      refine ah rfl rfl (bw rfl c6) ?_
      obtain ⟨d3, c7, a1⟩ := ab.g_Headers c5
      refine ah rfl rfl (bw rfl c7) (ah rfl rfl (bv rfl (TR.cnt (tSl bg.t) a1) (TR.agg (tSl bg.t) a1)) (ah rfl rfl (cq rfl (ci a1 Tryz.underlying22 _)) (ah rfl rfl (cb rfl rfl kt) ?_)))
      exact gK rfl rfl rfl rfl rfl k
     ·exact gN 7 rfl rfl rfl rfl rfl rfl
    refine nS ?_
    refine bz hres rfl ?_ ?_ <;> clear hres <;> intro c hres <;> try simp only [qa, qaD] at c
    ·refine sR (mI rfl (mI rfl (nS ?_)))
     exact rT hres rfl rfl rfl rfl rfl
    ·refine az (au (sR (mI rfl (mI rfl (nS ?_)))))
     exact rT hres rfl rfl rfl rfl rfl

def RF259 (res : Int × Int) (r : PV) : Prop := r = .tup [vi res.1, vi res.2]
theorem ck0 {x0 : ae} {x1 : List Int} {v0 v1 : PV} (r0 : ae.t.R x0 v0) (r1 : (tSl tI).R x1 v1) (hl : (x1.length : Int) = lj x0.Op) (h1 : 1 ≤ x1.length) : FnR Tryz.prog 259 [v0, v1] (.tup [vi ((ig x0 x1).1), vi ((ig x0 x1).2)]) := by
 refine fnS (R := RF259) cn5 (fun _ h => h) rfl fun res hres => ?_
 unfold ig at hres
 refine sR (af (dn rfl (TR.cnt ae.t r0)) (mI rfl (mI rfl (nS (ap (sR (fL rfl (ae.g_Op r0) rfl rfl (nS ?_))))))))
 refine bf (sR (bN dj rfl rfl (mV rfl (nS ?_))))
 refine bz hres rfl ?_ ?_ <;> clear hres <;> intro c hres <;> try simp only [qa, qaD] at c
 ·refine sR (mV rfl (af (bn rfl rfl (slI (i := 0) r1 (by first | omega | (have hk := opl hl; omega) | (have hk := opl hl; have hj := jor (by assumption) (by assumption); omega)) (by first | omega | (have hk := opl hl; omega) | (have hk := opl hl; have hj := jor (by assumption) (by assumption); omega)))) (lR rfl rfl rfl (mV rfl (mI rfl (nS ?_))))))
  exact rT hres rfl rfl rfl rfl rfl
 ·refine ap (sR (bN dj rfl rfl (mV rfl (nS ?_))))
  obtain ⟨b7, b0, hres⟩ := bp hres
  refine lm (F := fun b S Q => ∀ (a0 : Bool) (b5 : a0 = (if (decide (x0.Op = 6)) = true then (decide (x0.Op = 6)) else (decide (x0.Op = 7)))), b7 a0 = res → RC Tryz.prog b S Q [(13, vb a0), (7, vi x0.Op), (2, .fp v0), (1, v1)] ⟨0, []⟩) ?_ ?_
  ·intro a0 b5  hres
   rw [← b0] at hres
   refine bz hres rfl ?_ ?_ <;> clear hres <;> intro c hres <;> try simp only [qa, qaD] at c
   ·refine ap (sR (fL rfl (ae.g_N r0) rfl rfl (bN cn rfl rfl (mV rfl ?_))))
    refine ca 4 (d := 23) (v := vb ((decide (x0.N < 0)) || (decide (31 < x0.N)))) ?_ ?_
    ·intro S Q r
     cases b2 : (decide (x0.N < 0))
     ·intro k
      have a2 := b2
      try simp only [qa, qaD] at a2
      refine ah rfl rfl (bw rfl (ae.g_N r0)) (ah rfl rfl (bv rfl rfl rfl) (ah rfl rfl (cb rfl rfl iu) ?_))
      exact gK rfl rfl rfl rfl rfl k
     ·exact gN 3 rfl rfl rfl rfl rfl rfl
    refine nS ?_
    refine bz hres rfl ?_ ?_ <;> clear hres <;> intro c hres <;> try simp only [qa, qaD] at c
    ·refine sR (mI rfl (mI rfl (nS ?_)))
     exact rT hres rfl rfl rfl rfl rfl
    ·refine az (au (sR (mV rfl (af (bn rfl rfl (slI (i := 0) r1 (by first | omega | (have hk := opl hl; omega) | (have hk := opl hl; have hj := jor (by assumption) (by assumption); omega)) (by first | omega | (have hk := opl hl; omega) | (have hk := opl hl; have hj := jor (by assumption) (by assumption); omega)))) (lR rfl rfl rfl (mV rfl (mI rfl (nS ?_))))))))
     exact rT hres rfl rfl rfl rfl rfl
   ·refine sR (bN dj rfl rfl (mV rfl (nS ?_)))
    refine bz hres rfl ?_ ?_ <;> clear hres <;> intro c hres <;> try simp only [qa, qaD] at c
    ·refine ap (bf (sR (fL rfl (ae.g_N r0) rfl rfl (bN cn rfl rfl (mV rfl (nS ?_))))))
     refine bz hres rfl ?_ ?_ <;> clear hres <;> intro c hres <;> try simp only [qa, qaD] at c
     ·refine sR (mI rfl (mI rfl (nS ?_)))
      exact rT hres rfl rfl rfl rfl rfl
     ·refine sR (fL rfl (ae.g_W r0) rfl rfl (bN cn rfl rfl (mV rfl ?_)))
      refine ca 4 (d := 41) (v := vb ((decide (x0.W < 1)) || (decide (32 < x0.W)))) ?_ ?_
      ·intro S Q r
       cases a8 : (decide (x0.W < 1))
       ·intro k
        have a4 := a8
        try simp only [qa, qaD] at a4
        refine ah rfl rfl (bw rfl (ae.g_W r0)) (ah rfl rfl (bv rfl rfl rfl) (ah rfl rfl (cb rfl rfl iu) ?_))
        exact gK rfl rfl rfl rfl rfl k
       ·exact gN 3 rfl rfl rfl rfl rfl rfl
      refine mV rfl ?_
      refine ca 10 (d := 52) (v := vb (((decide (x0.W < 1)) || (decide (32 < x0.W))) || (decide ((wr ((ix x1 0) - x0.W)) < x0.N)))) ?_ ?_
      ·intro S Q r
       cases b6 : ((decide (x0.W < 1)) || (decide (32 < x0.W)))
       ·intro k
        have a5 := b6
        try simp only [qa, qaD] at a5
        refine ah rfl rfl (bw rfl (ae.g_N r0)) (ah rfl rfl (bv rfl rfl rfl) (ah rfl rfl (ax rfl) (ah rfl rfl (bn rfl rfl (slI (i := 0) r1 (by first | omega | (have hk := opl hl; omega) | (have hk := opl hl; have hj := jor (by assumption) (by assumption); omega)) (by first | omega | (have hk := opl hl; omega) | (have hk := opl hl; have hj := jor (by assumption) (by assumption); omega)))) (ah rfl rfl (bv rfl rfl rfl) (ah rfl rfl (bw rfl (ae.g_W r0)) (ah rfl rfl (bv rfl rfl rfl) (ah rfl rfl (cb rfl rfl xt) (ah rfl rfl (cb rfl rfl iu) ?_))))))))
        exact gK rfl rfl rfl rfl rfl k
       ·exact gN 9 rfl rfl rfl rfl rfl rfl
      refine mV rfl (nS ?_)
      refine bz hres rfl ?_ ?_ <;> clear hres <;> intro c hres <;> try simp only [qa, qaD] at c
      ·refine sR (mI rfl (mI rfl (nS ?_)))
       exact rT hres rfl rfl rfl rfl rfl
      ·refine az (cy (au (sR (fL rfl (ae.g_W r0) rfl rfl (mV rfl (mI rfl (nS ?_)))))))
       exact rT hres rfl rfl rfl rfl rfl
    ·refine sR (bN dj rfl rfl (mV rfl (nS ?_)))
     refine bz hres rfl ?_ ?_ <;> clear hres <;> intro c hres <;> try simp only [qa, qaD] at c
     ·refine sR (mV rfl (af (bn rfl rfl (slI (i := 0) r1 (by first | omega | (have hk := opl hl; omega) | (have hk := opl hl; have hj := jor (by assumption) (by assumption); omega)) (by first | omega | (have hk := opl hl; omega) | (have hk := opl hl; have hj := jor (by assumption) (by assumption); omega)))) (lR rfl rfl rfl (mV rfl (af (bn rfl rfl (slI (i := 1) r1 (by first | omega | (have hk := opl hl; omega) | (have hk := opl hl; have hj := jor (by assumption) (by assumption); omega)) (by first | omega | (have hk := opl hl; omega) | (have hk := opl hl; have hj := jor (by assumption) (by assumption); omega)))) (lR rfl rfl rfl (bN dp rfl rfl ?_)))))))
      obtain ⟨b8, b3, hres⟩ := bp hres
      have b1 := ac6 (x0 := (wr ((ix x1 0) + (ix x1 1))))  
      rw [b3] at b1
      refine cL b1 rfl rfl (ak rfl bd) (xT rfl rfl (xT rfl rfl (mV rfl (mV rfl (nS ?_)))))
      exact rT hres rfl rfl rfl rfl rfl
     ·refine sR (bN dj rfl rfl (mV rfl (nS ?_)))
      refine bz hres rfl ?_ ?_ <;> clear hres <;> intro c hres <;> try simp only [qa, qaD] at c
      ·refine ap (sR (mV rfl (af (bn rfl rfl (slI (i := 0) r1 (by first | omega | (have hk := opl hl; omega) | (have hk := opl hl; have hj := jor (by assumption) (by assumption); omega)) (by first | omega | (have hk := opl hl; omega) | (have hk := opl hl; have hj := jor (by assumption) (by assumption); omega)))) (lR rfl rfl rfl (bN ks rfl rfl (mV rfl ?_))))))
       refine ca 8 (d := 81) (v := vb ((!decide ((ix x1 0) = 1)) || (!decide ((ix x1 1) = (ix x1 2))))) ?_ ?_
       ·intro S Q r
        cases a9 : (!decide ((ix x1 0) = 1))
        ·intro k
         have a6 := a9
         try simp only [qa, qaD] at a6
         refine ah rfl rfl (ax rfl) (ah rfl rfl (bn rfl rfl (slI (i := 1) r1 (by first | omega | (have hk := opl hl; omega) | (have hk := opl hl; have hj := jor (by assumption) (by assumption); omega)) (by first | omega | (have hk := opl hl; omega) | (have hk := opl hl; have hj := jor (by assumption) (by assumption); omega)))) (ah rfl rfl (bv rfl rfl rfl) (ah rfl rfl (ax rfl) (ah rfl rfl (bn rfl rfl (slI (i := 2) r1 (by first | omega | (have hk := opl hl; omega) | (have hk := opl hl; have hj := jor (by assumption) (by assumption); omega)) (by first | omega | (have hk := opl hl; omega) | (have hk := opl hl; have hj := jor (by assumption) (by assumption); omega)))) (ah rfl rfl (bv rfl rfl rfl) (ah rfl rfl (cb rfl rfl ks) ?_))))))
         exact gK rfl rfl rfl rfl rfl k
        ·exact gN 7 rfl rfl rfl rfl rfl rfl
       refine nS ?_
       refine bz hres rfl ?_ ?_ <;> clear hres <;> intro c hres <;> try simp only [qa, qaD] at c
       ·refine sR (mI rfl (mI rfl (nS ?_)))
        exact rT hres rfl rfl rfl rfl rfl
       ·refine az (au (sR (mV rfl (af (bn rfl rfl (slI (i := 1) r1 (by first | omega | (have hk := opl hl; omega) | (have hk := opl hl; have hj := jor (by assumption) (by assumption); omega)) (by first | omega | (have hk := opl hl; omega) | (have hk := opl hl; have hj := jor (by assumption) (by assumption); omega)))) (lR rfl rfl rfl (mV rfl (mI rfl (nS ?_))))))))
        exact rT hres rfl rfl rfl rfl rfl
      ·refine az (cy (au (ap (bf (sR (mV rfl (af (bn rfl rfl (slI (i := 0) r1 (by first | omega | (have hk := opl hl; omega) | (have hk := opl hl; have hj := jor (by assumption) (by assumption); omega)) (by first | omega | (have hk := opl hl; omega) | (have hk := opl hl; have hj := jor (by assumption) (by assumption); omega)))) (lR rfl rfl rfl ?_))))))))
       refine mV rfl (af (bn rfl rfl (slI (i := 1) r1 (by first | omega | (have hk := opl hl; omega) | (have hk := opl hl; have hj := jor (by assumption) (by assumption); omega)) (by first | omega | (have hk := opl hl; omega) | (have hk := opl hl; have hj := jor (by assumption) (by assumption); omega)))) (lR rfl rfl rfl (bN ks rfl rfl (mV rfl (nS ?_)))))
       refine bz hres rfl ?_ ?_ <;> clear hres <;> intro c hres <;> try simp only [qa, qaD] at c
       ·refine sR (mI rfl (mI rfl (nS ?_)))
        exact rT hres rfl rfl rfl rfl rfl
       ·refine sR (fL rfl (ae.g_Op r0) rfl rfl (bN dj rfl rfl (mV rfl ?_)))
        refine ca 4 (d := 101) (v := vb ((decide (x0.Op = 15)) || (decide (x0.Op = 16)))) ?_ ?_
        ·intro S Q r
         cases b4 : (decide (x0.Op = 15))
         ·intro k
          have a7 := b4
          try simp only [qa, qaD] at a7
          refine ah rfl rfl (bw rfl (ae.g_Op r0)) (ah rfl rfl (bv rfl rfl rfl) (ah rfl rfl (cb rfl rfl dj) ?_))
          exact gK rfl rfl rfl rfl rfl k
         ·exact gN 3 rfl rfl rfl rfl rfl rfl
        refine mV rfl (nS ?_)
        refine bz hres rfl ?_ ?_ <;> clear hres <;> intro c hres <;> try simp only [qa, qaD] at c
        ·refine sR (mI rfl (mI rfl (nS ?_)))
         exact rT hres rfl rfl rfl rfl rfl
        ·refine az (cy (au (sR (mV rfl (af (bn rfl rfl (slI (i := 0) r1 (by first | omega | (have hk := opl hl; omega) | (have hk := opl hl; have hj := jor (by assumption) (by assumption); omega)) (by first | omega | (have hk := opl hl; omega) | (have hk := opl hl; have hj := jor (by assumption) (by assumption); omega)))) (lR rfl rfl rfl (mV rfl (mI rfl ?_))))))))
         refine nS ?_
         exact rT hres rfl rfl rfl rfl rfl
  ·intro J
   refine bz hres rfl ?_ ?_ <;> clear hres <;> intro a1 hres <;> have a3 := a1 <;> try simp only [qa, qaD] at a3
   ·refine az ?_
    refine au (wC (J _ (ai3 a1).symm  hres) rfl)
   ·refine aw (bN dj rfl rfl (mV rfl (br ?_)))
    refine au (wC (J _ (ai8 a1).symm  hres) rfl)

def RF216 (res : Int × Int × Int) (r : PV) : Prop := r = .tup [vi res.1, vi res.2.1, vi res.2.2]
theorem xi {S : List Fr} {res : Int × Int × Int} {x0 : List ae} {x1 : Int} {x2 : av} {rec_ : (List ae) → Int → av → (Int × Int × Int)} {mu_ : Nat} {a8 : Int} {v0 v2 : PV} (r0 : (tSl ae.t).R x0 v0) (r2 : av.t.R x2 v2) (h0 : 0 ≤ x1) (hb : x0.length ≤ 1000000) (ihR : ∀ {z0 : List ae} {z1 : Int} {z2 : av} {d4 d5 : PV} (e1 : (tSl ae.t).R z0 d4) (e2 : av.t.R z2 d5) (h0 : 0 ≤ z1) (hb : z0.length ≤ 1000000), (z0.length - z1.toNat) < mu_ → FnR Tryz.prog 216 [d4, vi z1, d5] (.tup [vi ((rec_ z0 z1 z2).1), vi ((rec_ z0 z1 z2).2.1), vi ((rec_ z0 z1 z2).2.2)])) (hmu : mu_ = (x0.length - x1.toNat)) (hrec : ∀ (z0 : List ae) (z1 : Int) (z2 : av), 0 ≤ z1 → z0.length ≤ 1000000 → (rec_ z0 z1 z2).2.2 = 0 → z1 < (rec_ z0 z1 z2).2.1) (b9 : (decide ((x0.length : Int) ≤ x1)) = false) (d7 : lj ((ix x0 x1).Op) = a8) (c4 : (decide (a8 < 0)) = false) (c7 : (decide (a8 = 0)) = false) {K0 : Int → (List Int) → (Int × Int × Int)}
  (e0 : ∀ {a4 : Int} {zE109 : List Int} {a0 : List PV} {a1 : PV} (a5 : All2 tI.R zE109 a0) (a7 : isL a1 = true) (a2 : Wri a1 a0) (a6 : zE109.length ≤ 4611686018427387904) (e3 : (zE109.length : Int) = a8) {h : Heap} (M0 : Mem h [⟨a1, 3, 1, a0⟩]), K0 a4 zE109 = res → PX Tryz.prog 0 S (QR Tryz.prog [(6, none), (7, none), (8, none)] (RF216 res)) [(0, v0), (1, vi x1), (12, a1), (13, vi a4)] h) :
  ∀ {m : Nat} {a4 a3 : Int} {zE109 : List Int} {a0 : List PV} {a1 : PV} (a5 : All2 tI.R zE109 a0) (a7 : isL a1 = true) (a2 : Wri a1 a0) (a6 : zE109.length ≤ 4611686018427387904) (d6 : m = Int.toNat (a8 - a3)) (c3 : 0 ≤ a3) (b1 : x1 < a4) (b2 : (zE109.length : Int) = a3) (b3 : a3 ≤ a8) {h : Heap} (M0 : Mem h [⟨a1, 3, 1, a0⟩]), lk x0 x2 rec_ K0 m a4 a3 zE109 = res → RC Tryz.prog (.loop bo4) S (QR Tryz.prog [(6, none), (7, none), (8, none)] (RF216 res)) [(14, vi a3), (13, vi a4), (12, a1), (9, vi a8), (5, .fp v2), (1, vi x1), (0, v0)] h := by
 have hb' := hb
 try simp only [qa, qaD] at hb'
 have b7 := b9
 try simp only [qa, qaD] at b7
 have b8 := c4
 try simp only [qa, qaD] at b8
 have b6 := c7
 try simp only [qa, qaD] at b6
 intro m
 induction m with
 | zero =>
  intro a4 a3 zE109 a0 a1 a5 a7 a2 a6 d6 c3 b1 b2 b3 h M0 hres
  rw [lk] at hres
  refine cj (ap (sR (mV rfl (mV rfl (bN cn rfl rfl (nS ?_))))))
  refine cd rfl ?_ ?_ <;> intro c <;> try simp only [qa, qaD] at c
  ·omega
  refine dl (eh (de ?_))
  exact wP (e0 a5 a7 a2 a6 (by omega) (Mem.sub M0 (.cons_cons _ .slnil)) hres) rfl
 | succ m ih =>
  intro a4 a3 zE109 a0 a1 a5 a7 a2 a6 d6 c3 b1 b2 b3 h M0 hres
  rw [lk] at hres
  refine cj (ap (sR (mV rfl (mV rfl (bN cn rfl rfl (nS ?_))))))
  refine cd rfl ?_ ?_ <;> intro c <;> try simp only [qa, qaD] at c
  rotate_left
  ·omega
  refine az (au (ap (bf (sR (mV rfl (mV rfl (lD r2 rfl rfl rfl ?_)))))))
  obtain ⟨a9, b5, hres⟩ := bp hres
  have c6 := ihR (z0 := x0) (z1 := a4) (z2 := x2) r0 r2 (by first | assumption | omega | (rw [cv (by omega) (by omega)]; omega)) (by first | assumption | omega | (rw [cv (by omega) (by omega)]; omega)) (by first | omega | (rw [cv (by omega) (by omega)]; omega))
  rw [b5] at c6
  have d3 : a9.2.2 = 0 → a4 < a9.2.1 := by rw [← b5]; exact hrec _ _ _ (by omega) (by omega)
  refine cL c6 rfl rfl (ak (TR.clo (tSl ae.t) r0) (ak rfl (ak (TR.clo av.t r2) bd))) (mV rfl (xT rfl rfl (xT rfl rfl (xT rfl rfl (mV rfl (mV rfl (mV rfl (nS ?_))))))))
  refine ap (sR (mV rfl (bN ks rfl rfl (nS ?_))))
  refine bz hres rfl ?_ ?_ <;> clear hres <;> intro c hres <;> try simp only [qa, qaD] at c
  ·refine sR (mV rfl (mV rfl (mI rfl (mV rfl (mV rfl (nS ?_))))))
   subst hres
   exact fw (.tmp rfl (.tmp rfl (.tmp rfl .nil))) (dq (show closed (.tup _) = true from (ak rfl (ak rfl (ak rfl bd))))) rfl
  ·refine az (au (sR (mV rfl (mV rfl (af (v := .fs true [vi a9.1]) (fk rfl (all_cons rfl iv)) ?_)))))
   have d1 : (tSl tI).R ([a9.1] : List Int) (.fs true [vi a9.1]) := nk ⟨rfl, trivial⟩ (by simp)
   obtain ⟨b0, c1, b4⟩ := lc (t := tI) (h := h) d1
   have c5 : fits (a0.length + b0.length) 8 = true := by rw [All2.length_eq a5, All2.length_eq b4]; (try simp only [List.length_cons, List.length_nil]); exact jb (by first | omega | (have hk := rar (by assumption); omega) | (simp only [List.length_append, List.length_cons, List.length_nil]; have hk := rar (by assumption); omega)) (by first | omega | (have hk := rar (by assumption); omega) | (simp only [List.length_append, List.length_cons, List.length_nil]; have hk := rar (by assumption); omega))
   refine jd (k := 0) (es := a0) (news := b0) M0 rfl rfl rfl a7 a2 c1 c5 (fun d9 d8 d2 c2 d0 => ?_)
   have c8 : All2 tI.R (zE109 ++ ([a9.1] : List Int)) (a0 ++ b0) := All2.app a5 b4
   have c9 : (zE109 ++ ([a9.1] : List Int)).length ≤ 4611686018427387904 := by rw [← All2.length_eq c8, List.length_append]; exact gz c5
   refine mV rfl (nS (aw (mV rfl (mV rfl (br (cy (au (aw ?_))))))))
   refine mV rfl (bN dp rfl rfl (mV rfl (br (cx ?_))))
   have hinc : wr (a3 + 1) = a3 + 1 := cv (by omega) (by (have hk := rar (by assumption); omega))
   erw [hinc]
   exact wC (ih  c8 d2 c2 c9 (by omega) (by omega) (by first | (simp only [List.length_append, List.length_cons, List.length_nil]; omega) | omega) (by first | (simp only [List.length_append, List.length_cons, List.length_nil]; omega) | omega) (by first | (simp only [List.length_append, List.length_cons, List.length_nil]; omega) | omega) (Mem.sub d0 (.cons_cons _ .slnil)) hres) rfl

theorem bp5 {rec_ : (List ae) → Int → av → (Int × Int × Int)} {mu_ : Nat} {x0 : List ae} {x1 : Int} {x2 : av} {v0 v2 : PV} (r0 : (tSl ae.t).R x0 v0) (r2 : av.t.R x2 v2) (h0 : 0 ≤ x1) (hb : x0.length ≤ 1000000) (hmu : mu_ = (x0.length - x1.toNat)) (hrec : ∀ (z0 : List ae) (z1 : Int) (z2 : av), 0 ≤ z1 → z0.length ≤ 1000000 → (rec_ z0 z1 z2).2.2 = 0 → z1 < (rec_ z0 z1 z2).2.1) (ihR : ∀ {z0 : List ae} {z1 : Int} {z2 : av} {d2 d3 : PV} (e2 : (tSl ae.t).R z0 d2) (e3 : av.t.R z2 d3) (h0 : 0 ≤ z1) (hb : z0.length ≤ 1000000), (z0.length - z1.toNat) < mu_ → FnR Tryz.prog 216 [d2, vi z1, d3] (.tup [vi ((rec_ z0 z1 z2).1), vi ((rec_ z0 z1 z2).2.1), vi ((rec_ z0 z1 z2).2.2)])) : FnR Tryz.prog 216 [v0, vi x1, v2] (.tup [vi ((nb rec_ x0 x1 x2).1), vi ((nb rec_ x0 x1 x2).2.1), vi ((nb rec_ x0 x1 x2).2.2)]) := by
 refine fnS (R := RF216) cl5 (fun _ h => h) rfl fun res hres => ?_
 unfold nb at hres
 refine sR (af (dn rfl (TR.cnt av.t r2)) (mI rfl (mI rfl (mI rfl (nS (ap (sR (mV rfl ?_))))))))
 refine mV rfl (af (cq rfl (ci r0 Tryz.underlying32 _)) (bN kt rfl rfl (nS ?_)))
 refine bz hres rfl ?_ ?_ <;> clear hres <;> intro a3 hres <;> have a9 := a3 <;> try simp only [qa, qaD] at a9
 ·refine sR (mV rfl (mI rfl (mV rfl (mI rfl (nS ?_)))))
  subst hres
  exact fw (.tmp rfl (.tmp rfl (.tmp rfl .nil))) (dq (show closed (.tup _) = true from (ak rfl (ak rfl (ak rfl bd))))) rfl
 ·refine az (au (sR (mV rfl (mV rfl ?_))))
  obtain ⟨d5, c4, c6⟩ := dh (i := x1) r0 (by omega) (by omega)
  refine af (bn rfl rfl c4) (fL rfl (ae.g_Op c6) rfl rfl ?_)
  obtain ⟨d9, a6, hres⟩ := bp hres
  have b5 := cg9 (x0 := (ix x0 x1).Op)  
  rw [a6] at b5
  refine cL b5 rfl rfl (ak rfl bd) (mV rfl (nS (ap (sR (mV rfl (bN cn rfl rfl (nS ?_)))))))
  refine bz hres rfl ?_ ?_ <;> clear hres <;> intro a4 hres <;> have b1 := a4 <;> try simp only [qa, qaD] at b1
  ·refine sR (mV rfl (mI rfl (mV rfl (mI rfl (nS ?_)))))
   subst hres
   exact fw (.tmp rfl (.tmp rfl (.tmp rfl .nil))) (dq (show closed (.tup _) = true from (ak rfl (ak rfl (ak rfl bd))))) rfl
  ·refine az (au (ap (sR (mV rfl (bN dj rfl rfl (nS ?_))))))
   refine bz hres rfl ?_ ?_ <;> clear hres <;> intro a5 hres <;> have a7 := a5 <;> try simp only [qa, qaD] at a7
   ·refine sR (mV rfl (mV rfl ?_))
    obtain ⟨d8, c9, a8⟩ := dh (i := x1) r0 (by omega) (by omega)
    refine af (bn rfl rfl c9) (lD a8 rfl rfl rfl (lD r2 rfl rfl rfl ?_))
    obtain ⟨e1, b7, hres⟩ := bp hres
    have c1 := cn6  a8 r2 
    rw [b7] at c1
    refine cL c1 rfl rfl (ak (TR.clo ae.t a8) (ak (TR.clo av.t r2) bd)) (mV rfl (xT rfl rfl (xT rfl rfl (mV rfl (mV rfl (nR (mV rfl (mV rfl ?_))))))))
    refine bN dp rfl rfl (mV rfl (mV rfl (mV rfl (mV rfl (nS ?_)))))
    subst hres
    exact fw (.tmp rfl (.tmp rfl (.tmp rfl .nil))) (dq (show closed (.tup _) = true from (ak rfl (ak rfl (ak rfl bd))))) rfl
   ·refine az (au (sR (af (v := nilS) (ax rfl) (nR (mV rfl (bN dp rfl rfl (mV rfl (nS ?_))))))))
    refine ap (sR (mI rfl (nS (bf ?_))))
    have c7 := nz (sz := 1) (es := []) (Mem.nil ⟨0, []⟩) 3 (.inl ⟨none, rfl, rfl⟩) (by simp)
    refine wC (xi r0 r2 h0 hb ihR hmu hrec a3 a6 a4 a5 ?_  aL rfl (.inl rfl) (by first | decide | simp) rfl (by omega) (by first | omega | simp | (rw [cv (by omega) (by omega)]; omega)) (by first | omega | simp | (rw [cv (by omega) (by omega)]; omega)) (by first | omega | simp | (rw [cv (by omega) (by omega)]; omega)) (Mem.sub c7 (.cons_cons _ .slnil)) hres) rfl
    ·intro c3 b2 b4 b6 a1 a2 b3 a0 c2 e0 d1 hres
     refine em (au (sR (mV rfl (mV rfl ?_))))
     obtain ⟨d6, c5, b0⟩ := dh (i := x1) r0 (by omega) (by omega)
     refine af (bn rfl rfl c5) (lD b0 rfl rfl rfl (mV rfl ?_))
     obtain ⟨d4, d0, c8⟩ := ov (P := Tryz.prog) (k := 0) (t := tI) d1 rfl a2 a1 (Nat.le_trans a0 (by decide))
     obtain ⟨d7, b9, hres⟩ := bp hres
     have b8 := ck0  b0 c8 (by first | omega | (have hk := rar (by assumption); omega)) (by first | omega | (have hk := rar (by assumption); omega))
     rw [b9] at b8
     refine an1 (ch4 rfl rfl (rj (dq (TR.clo ae.t b0)) (rj d0 aw1)) b8 rfl) (mV rfl (xT rfl rfl (xT rfl rfl (mV rfl (mV rfl (nR (mV rfl (mV rfl ?_))))))))
     refine mV rfl (mV rfl (mV rfl (mV rfl (nS ?_))))
     subst hres
     exact fw (.tmp rfl (.tmp rfl (.tmp rfl .nil))) (dq (show closed (.tup _) = true from (ak rfl (ak rfl (ak rfl bd))))) rfl
theorem bn8 : ∀ (n_ : Nat) {x0 : List ae} {x1 : Int} {x2 : av} {v0 v2 : PV} (r0 : (tSl ae.t).R x0 v0) (r2 : av.t.R x2 v2) (h0 : 0 ≤ x1) (hb : x0.length ≤ 1000000), (x0.length - x1.toNat) < n_ → FnR Tryz.prog 216 [v0, vi x1, v2] (.tup [vi ((ik n_ x0 x1 x2).1), vi ((ik n_ x0 x1 x2).2.1), vi ((ik n_ x0 x1 x2).2.2)]) := by
 intro n_
 induction n_ with
 | zero => intros; rename_i hlt; exact absurd hlt (Nat.not_lt_zero _)
 | succ n_ ihn =>
  intro x0 x1 x2 v0 v2 r0 r2 h0 hb hlt
  have e_ : ik (n_ + 1) x0 x1 x2 = nb (ik n_) x0 x1 x2 := by rw [ik]
  rw [e_]
  exact bp5 r0 r2 h0 hb rfl (ap7 n_) (fun {z0} {z1} {z2} {zv0} {zv2} zr0 zr2 h0 hb hz => ihn zr0 zr2 h0 hb (by omega))
theorem ck5 {x0 : List ae} {x1 : Int} {x2 : av} {v0 v2 : PV} (r0 : (tSl ae.t).R x0 v0) (r2 : av.t.R x2 v2) (h0 : 0 ≤ x1) (hb : x0.length ≤ 1000000) : FnR Tryz.prog 216 [v0, vi x1, v2] (.tup [vi ((qm x0 x1 x2).1), vi ((qm x0 x1 x2).2.1), vi ((qm x0 x1 x2).2.2)]) := bn8 _ r0 r2 h0 hb (Nat.lt_succ_self _)

end Go.Proofs.YtmonnlkagniolaaGreat
