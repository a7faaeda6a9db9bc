/-
 The code of each function does what its plain program says.
-/
import Derived.Test.YtmonnlkagniolaaGreatL9W4
set_option linter.unusedVariables false
set_option linter.unusedSimpArgs false
set_option maxRecDepth 100000
namespace Go.Proofs.YtmonnlkagniolaaGreat
open Go Go.Pb Go.RowKit
def RF124 (res : Bool) (r : PV) : Prop := r = vb res
theorem cm4 {x0 : av} {x1 : aa} {v0 v1 : PV} (r0 : av.t.R x0 v0) (r1 : aa.t.R x1 v1) : FnR Tryz.prog 124 [v0, v1] (vb (il x0 x1)) := by
 refine fnS (R := RF124) ck0 (fun _ h => h) rfl fun res s => ?_
 unfold il at s
 refine sR (ab (dq rfl (TR.cnt av.t r0)) (ab (dq rfl (TR.cnt aa.t r1)) (mB rfl (nS (aq (sR (fL rfl (aa.g_Header r1) rfl rfl (bN (fe (b := -1)) rfl rfl ?_))))))))
 refine nS ?_
 refine ci s rfl ?_ ?_ <;> clear s <;> intro c s <;> try simp only [qa] at c
 ·refine sR (fL rfl (aa.g_Field r1) rfl rfl (bN mc rfl rfl (mV rfl ?_)))
  refine cn 7 (d := 18) (v := vb ((decide (0 ≤ x1.Field)) && (decide (x1.Field < (x0.Metd.length : Int))))) ?_ ?_
  ·intro S Q r
   cases a8 : (decide (0 ≤ x1.Field))
   ·exact gN 6 rfl rfl rfl rfl rfl rfl
   ·intro k
    have a6 := a8
    try simp only [qa] at a6
    refine ah rfl rfl (cd rfl (aa.g_Field r1)) (ah rfl rfl (ca rfl rfl rfl) ?_)
    obtain ⟨b8, b4, a0⟩ := av.g_Meta r0
    refine ah rfl rfl (cd rfl b4) (ah rfl rfl (ca rfl (TR.cnt (tSl dm) a0) (TR.agg (tSl dm) a0)) (ah rfl rfl (cy rfl (cm a0 Tryz.underlying43 _)) (ah rfl rfl (bz rfl rfl cz) ?_)))
    exact gK rfl rfl rfl rfl rfl k
  refine mV rfl (nS ?_)
  exact rR s rfl rfl rfl
 ·refine bb (am (sR (fL rfl (aa.g_Header r1) rfl rfl (bN mc rfl rfl (mV rfl ?_)))))
  refine cn 7 (d := 29) (v := vb ((decide (0 ≤ x1.Header)) && (decide (x1.Header < (x0.Fields.length : Int))))) ?_ ?_
  ·intro S Q r
   cases b1 : (decide (0 ≤ x1.Header))
   ·exact gN 6 rfl rfl rfl rfl rfl rfl
   ·intro k
    have a1 := b1
    try simp only [qa] at a1
    refine ah rfl rfl (cd rfl (aa.g_Header r1)) (ah rfl rfl (ca rfl rfl rfl) ?_)
    obtain ⟨b7, b2, a2⟩ := av.g_Fields r0
    refine ah rfl rfl (cd rfl b2) (ah rfl rfl (ca rfl (TR.cnt (tSl (tSl dm)) a2) (TR.agg (tSl (tSl dm)) a2)) (ah rfl rfl (cy rfl (cm a2 Tryz.underlying42 _)) (ah rfl rfl (bz rfl rfl cz) ?_)))
    exact gK rfl rfl rfl rfl rfl k
  refine mV rfl ?_
  refine cn 4 (d := 34) (v := vb (((decide (0 ≤ x1.Header)) && (decide (x1.Header < (x0.Fields.length : Int)))) && (decide (0 ≤ x1.Field)))) ?_ ?_
  ·intro S Q r
   cases a9 : ((decide (0 ≤ x1.Header)) && (decide (x1.Header < (x0.Fields.length : Int))))
   ·exact gN 3 rfl rfl rfl rfl rfl rfl
   ·intro k
    have a3 := a9
    try simp only [qa] at a3
    refine ah rfl rfl (cd rfl (aa.g_Field r1)) (ah rfl rfl (ca rfl rfl rfl) (ah rfl rfl (bz rfl rfl mc) ?_))
    exact gK rfl rfl rfl rfl rfl k
  refine mV rfl ?_
  refine cn 11 (d := 46) (v := vb ((((decide (0 ≤ x1.Header)) && (decide (x1.Header < (x0.Fields.length : Int)))) && (decide (0 ≤ x1.Field))) && (decide (x1.Field < ((ix x0.Fields x1.Header).length : Int))))) ?_ ?_
  ·intro S Q r
   cases b0 : (((decide (0 ≤ x1.Header)) && (decide (x1.Header < (x0.Fields.length : Int)))) && (decide (0 ≤ x1.Field)))
   ·exact gN 10 rfl rfl rfl rfl rfl rfl
   ·intro k
    have a4 := b0
    try simp only [qa] at a4
    refine ah rfl rfl (cd rfl (aa.g_Field r1)) (ah rfl rfl (ca rfl rfl rfl) ?_)
    obtain ⟨b6, b3, a7⟩ := av.g_Fields r0
    refine ah rfl rfl (cd rfl b3) (ah rfl rfl (ca rfl (TR.cnt (tSl (tSl dm)) a7) (TR.agg (tSl (tSl dm)) a7)) (ah rfl rfl (cd rfl (aa.g_Header r1)) (ah rfl rfl (ca rfl rfl rfl) ?_)))
    obtain ⟨b9, b5, a5⟩ := dt (i := x1.Header) a7 (by omega) (by omega)
    refine ah rfl rfl (bh rfl rfl b5) (ah rfl rfl (ca rfl (TR.cnt (tSl dm) a5) (TR.agg (tSl dm) a5)) (ah rfl rfl (cy rfl (cm a5 Tryz.underlying43 _)) (ah rfl rfl (bz rfl rfl cz) ?_)))
    exact gK rfl rfl rfl rfl rfl k
  refine mV rfl (nS ?_)
  exact rR s rfl rfl rfl

def RF93 (res : Bool) (r : PV) : Prop := r = vb res
theorem db6 {x0 : av} {x1 : Int} {v0 : PV} (r0 : av.t.R x0 v0) : FnR Tryz.prog 93 [v0, vi x1] (vb (ph x0 x1)) := by
 refine fnS (R := RF93) di5 (fun _ h => h) rfl fun res s => ?_
 unfold ph at s
 refine sR (ab (dq rfl (TR.cnt av.t r0)) (mB rfl (nR (mV rfl (bN mc rfl rfl (mV rfl ?_))))))
 refine cn 6 (d := 13) (v := vb ((decide (0 ≤ x1)) && (decide (x1 < (x0.Valid.length : Int))))) ?_ ?_
 ·intro S Q r
  cases a4 : (decide (0 ≤ x1))
  ·exact gN 5 rfl rfl rfl rfl rfl rfl
  ·intro k
   have a1 := a4
   try simp only [qa] at a1
   refine ah rfl rfl (au rfl) ?_
   obtain ⟨a9, a7, a3⟩ := av.g_Valid r0
   refine ah rfl rfl (cd rfl a7) (ah rfl rfl (ca rfl (TR.cnt (tSl tB) a3) (TR.agg (tSl tB) a3)) (ah rfl rfl (cy rfl (cm a3 Tryz.underlying41 _)) (ah rfl rfl (bz rfl rfl cz) ?_)))
   exact gK rfl rfl rfl rfl rfl k
 refine mV rfl ?_
 refine cn 6 (d := 20) (v := vb (((decide (0 ≤ x1)) && (decide (x1 < (x0.Valid.length : Int)))) && (ix x0.Valid x1))) ?_ ?_
 ·intro S Q r
  cases a5 : ((decide (0 ≤ x1)) && (decide (x1 < (x0.Valid.length : Int))))
  ·exact gN 5 rfl rfl rfl rfl rfl rfl
  ·intro k
   have a0 := a5
   try simp only [qa] at a0
   obtain ⟨a8, a6, a2⟩ := av.g_Valid r0
   refine ah rfl rfl (cd rfl a6) (ah rfl rfl (ca rfl (TR.cnt (tSl tB) a2) (TR.agg (tSl tB) a2)) (ah rfl rfl (au rfl) (ah rfl rfl (bh rfl rfl (slB a2 (by omega) (by omega))) (ah rfl rfl (ca rfl rfl rfl) ?_))))
   exact gK rfl rfl rfl rfl rfl k
 refine mV rfl (nS ?_)
 exact rR s rfl rfl rfl

def RF49 (res : (BitVec 32)) (r : PV) : Prop := r = bm res
theorem bz7 {x0 : av} {x1 : aa} {v0 v1 : PV} (r0 : av.t.R x0 v0) (r1 : aa.t.R x1 v1) : FnR Tryz.prog 49 [v0, v1] (bm (ga x0 x1)) := by
 refine fnS (R := RF49) de3 (fun _ h => h) rfl fun res s => ?_
 unfold ga at s
 refine sR (ab (dq rfl (TR.cnt av.t r0)) (ab (dq rfl (TR.cnt aa.t r1)) (ab (v := bm 0#32) (au rfl) (nS (aq (sR (lD r0 rfl rfl rfl (lD r1 rfl rfl rfl ?_))))))))
 obtain ⟨b3, a0, s⟩ := bn s
 have a3 := cm4  r0 r1 
 rw [a0] at a3
 refine cL a3 rfl rfl (ai (TR.clo av.t r0) (ai (TR.clo aa.t r1) bg)) (ab (ks rfl) (nS ?_))
 refine ci s rfl ?_ ?_ <;> clear s <;> intro c s <;> try simp only [qa] at c
 ·refine sR (ab (v := bm 0#32) (au rfl) (nS ?_))
  exact rR s rfl rfl rfl
 ·refine bb (am (aq (sR (fL rfl (aa.g_Header r1) rfl rfl (bN (fe (b := -1)) rfl rfl (nS ?_))))))
  refine ci s rfl ?_ ?_ <;> clear s <;> intro c s <;> try simp only [qa] at c
  ·refine sR ?_
   obtain ⟨b0, a7, a1⟩ := av.g_Meta r0
   refine fA rfl a7 (lD a1 rfl rfl rfl (fL rfl (aa.g_Field r1) rfl rfl (ab (bh rfl rfl (uf a1 (by ((have hk := cw4 (by assumption) (by assumption) (by assumption); omega))) (by ((have hk := cw4 (by assumption) (by assumption) (by assumption); omega))))) (lR rfl rfl rfl (mV rfl (nS ?_))))))
   exact rR s rfl rfl rfl
  ·refine bb (am (aq (sR (lD r0 rfl rfl rfl (fL rfl (aa.g_Header r1) rfl rfl ?_)))))
   obtain ⟨b4, a2, s⟩ := bn s
   have a5 := db6 (x1 := x1.Header) r0 
   rw [a2] at a5
   refine cL a5 rfl rfl (ai (TR.clo av.t r0) (ai rfl bg)) (ab (ks rfl) (nS ?_))
   refine ci s rfl ?_ ?_ <;> clear s <;> intro c s <;> try simp only [qa] at c
   ·refine sR (ab (v := bm 0#32) (au rfl) (nS ?_))
    exact rR s rfl rfl rfl
   ·refine bb (am (sR ?_))
    obtain ⟨b2, a8, a6⟩ := av.g_Fields r0
    refine fA rfl a8 (lD a6 rfl rfl rfl (fL rfl (aa.g_Header r1) rfl rfl ?_))
    obtain ⟨b1, a9, a4⟩ := dt (i := x1.Header) a6 (by ((have hk := be7 (by assumption) (by assumption) (by assumption); omega))) (by ((have hk := be7 (by assumption) (by assumption) (by assumption); omega)))
    refine ab (bh rfl rfl a9) (lD a4 rfl rfl rfl (fL rfl (aa.g_Field r1) rfl rfl (ab (bh rfl rfl (uf a4 (by ((have hk := be7 (by assumption) (by assumption) (by assumption); omega))) (by ((have hk := be7 (by assumption) (by assumption) (by assumption); omega))))) (lR rfl rfl rfl (mV rfl (nS ?_))))))
    exact rR s rfl rfl rfl

def RF51 (res : Bool) (r : PV) : Prop := r = vb res
theorem su {S : List Fr} {res : Bool} {x0 : List (BitVec 32)} {x1 : List (BitVec 32)} {v0 v1 : PV} (r0 : (tSl dm).R x0 v0) (r1 : (tSl dm).R x1 v1) (a2 : (!decide ((x0.length : Int) = (x1.length : Int))) = false) {K0 : Unit → Bool}
  (a5 : K0 () = res → PX Tryz.prog 0 S (QR Tryz.prog [(4, none)] (RF51 res)) [] ⟨0, []⟩) :
  ∀ {m : Nat} {a0 : Int} (a4 : m = Int.toNat ((x0.length : Int) - a0)) (a3 : 0 ≤ a0), gh x0 x1 K0 m a0 = res → RC Tryz.prog (.loop ck5) S (QR Tryz.prog [(4, none)] (RF51 res)) [(5, vi a0), (1, v1), (0, v0)] ⟨0, []⟩ := by
 have a1 := a2
 try simp only [qa] at a1
 intro m
 induction m with
 | zero =>
  intro a0 a4 a3 s
  rw [gh] at s
  refine ct (aq (sR (mV rfl (mV rfl (ab (cy rfl (cm r0 Tryz.underlying43 _)) (bN cz rfl rfl (nS ?_)))))))
  refine cj rfl ?_ ?_ <;> intro c <;> try simp only [qa] at c
  ·omega
  refine ft (gk (ej ?_))
  exact wP (a5  s) rfl
 | succ m ih =>
  intro a0 a4 a3 s
  rw [gh] at s
  refine ct (aq (sR (mV rfl (mV rfl (ab (cy rfl (cm r0 Tryz.underlying43 _)) (bN cz rfl rfl (nS ?_)))))))
  refine cj rfl ?_ ?_ <;> intro c <;> try simp only [qa] at c
  rotate_left
  ·omega
  refine bb (am (aq (br (sR (mV rfl (mV rfl (ab (bh rfl rfl (uf r0 (by omega) (by omega))) (lR rfl rfl rfl ?_))))))))
  refine mV rfl (mV rfl (ab (bh rfl rfl (uf r1 (by omega) (by omega))) (lR rfl rfl rfl (ab (bz (a := bm (ix x0 a0)) (b := bm (ix x1 a0)) rfl rfl cb7) (nS ?_)))))
  refine ci s rfl ?_ ?_ <;> clear s <;> intro c s <;> try simp only [qa] at c
  ·refine sR (mB rfl (nS ?_))
   exact rR s rfl rfl rfl
  ·refine bb (de (am (ax (mV rfl (bN gm rfl rfl (mV rfl (bp (di ?_))))))))
   have hbd := ee r0
   have hinc : wr (a0 + 1) = a0 + 1 := gb (by omega) (by omega)
   erw [hinc]
   exact wC (ih   (by omega) (by omega) s) rfl

theorem dc6 {x0 : List (BitVec 32)} {x1 : List (BitVec 32)} {v0 v1 : PV} (r0 : (tSl dm).R x0 v0) (r1 : (tSl dm).R x1 v1) : FnR Tryz.prog 51 [v0, v1] (vb (jk x0 x1)) := by
 refine fnS (R := RF51) cd9 (fun _ h => h) rfl fun res s => ?_
 unfold jk at s
 refine sR (mB rfl (nS (aq (sR (mV rfl (ab (cy rfl (cm r0 Tryz.underlying43 _)) (mV rfl (ab (cy rfl (cm r1 Tryz.underlying43 _)) ?_))))))))
 refine bN mw rfl rfl (nS ?_)
 refine ci s rfl ?_ ?_ <;> clear s <;> intro a0 s <;> have a1 := a0 <;> try simp only [qa] at a1
 ·refine sR (mB rfl (nS ?_))
  exact rR s rfl rfl rfl
 ·refine bb (am (aq (sR (mI rfl (nS (br ?_))))))
  refine wC (su r0 r1 a0 ?_  rfl (by omega) s) rfl
  ·intro  s
   refine gw (am (sR (mB rfl (nS ?_))))
   exact rR s rfl rfl rfl

def RF52 (res : Bool) (r : PV) : Prop := r = vb res
theorem ym {S : List Fr} {res : Bool} {x0 : az} {x1 : az} {x2 : List aa} {v0 v1 v2 v3 v4 : PV} (r0 : az.t.R x0 v0) (r1 : az.t.R x1 v1) (r2 : (tSl aa.t).R x2 v2) {K0 : Unit → Bool}
  (b9 : K0 () = res → PX Tryz.prog 0 S (QR Tryz.prog [(10, none)] (RF52 res)) [(3, v3), (4, v4), (5, .fp v0), (6, .fp v1)] ⟨0, []⟩) :
  ∀ {m : Nat} {a0 : Int} (b4 : m = Int.toNat ((x2.length : Int) - a0)) (a7 : 0 ≤ a0), lj x0 x1 x2 K0 m a0 = res → RC Tryz.prog (.loop cs3) S (QR Tryz.prog [(10, none)] (RF52 res)) [(11, vi a0), (6, .fp v1), (5, .fp v0), (4, v4), (3, v3), (2, v2)] ⟨0, []⟩ := by
 intro m
 induction m with
 | zero =>
  intro a0 b4 a7 s
  rw [lj] at s
  refine ct (aq (sR (mV rfl (mV rfl (ab (cy rfl (cm r2 Tryz.underlying75 _)) (bN cz rfl rfl (nS ?_)))))))
  refine cj rfl ?_ ?_ <;> intro c <;> try simp only [qa] at c
  ·omega
  refine ft (gk (ej ?_))
  exact wP (b9  s) rfl
 | succ m ih =>
  intro a0 b4 a7 s
  rw [lj] at s
  refine ct (aq (sR (mV rfl (mV rfl (ab (cy rfl (cm r2 Tryz.underlying75 _)) (bN cz rfl rfl (nS ?_)))))))
  refine cj rfl ?_ ?_ <;> intro c <;> try simp only [qa] at c
  rotate_left
  ·omega
  refine bb (am (aq (br (sR (gL (az.g_E r0) rfl rfl rfl fun b7 a3 => (mV rfl (mV rfl ?_)))))))
  obtain ⟨b5, b0, a1⟩ := dt (i := a0) r2 (by omega) (by omega)
  refine ab (bh rfl rfl b0) (lD a1 rfl rfl rfl ?_)
  obtain ⟨b3, a6, s⟩ := bn s
  have a9 := bz7  a3 a1 
  rw [a6] at a9
  refine cL a9 rfl rfl (ai (TR.clo av.t a3) (ai (TR.clo aa.t a1) bg)) (gL (az.g_E r1) rfl rfl rfl fun b8 a4 => (mV rfl (mV rfl ?_)))
  obtain ⟨b6, b2, a2⟩ := dt (i := a0) r2 (by omega) (by omega)
  refine ab (bh rfl rfl b2) (lD a2 rfl rfl rfl ?_)
  obtain ⟨b1, a5, s⟩ := bn s
  have a8 := bz7  a4 a2 
  rw [a5] at a8
  refine cL a8 rfl rfl (ai (TR.clo av.t a4) (ai (TR.clo aa.t a2) bg)) (ab (bz (a := bm b3) (b := bm b1) rfl rfl cb7) (nS ?_))
  refine ci s rfl ?_ ?_ <;> clear s <;> intro c s <;> try simp only [qa] at c
  ·refine sR (mB rfl (nS ?_))
   exact rR s rfl rfl rfl
  ·refine bb (de (am (ax (mV rfl (bN gm rfl rfl (mV rfl (bp (di ?_))))))))
   have hbd := ee r2
   have hinc : wr (a0 + 1) = a0 + 1 := gb (by omega) (by omega)
   erw [hinc]
   exact wC (ih   (by omega) (by omega) s) rfl

theorem yf {S : List Fr} {res : Bool} {x0 : az} {x1 : az} {x3 : List Int} {v0 v1 v3 v4 : PV} (r0 : az.t.R x0 v0) (r1 : az.t.R x1 v1) (r3 : (tSl tI).R x3 v3) {K2 : Unit → Bool}
  (c7 : K2 () = res → PX Tryz.prog 2 S (QR Tryz.prog [(10, none)] (RF52 res)) [(4, v4), (5, .fp v0), (6, .fp v1)] ⟨0, []⟩) :
  ∀ {m : Nat} {a0 : Int} (c4 : m = Int.toNat ((x3.length : Int) - a0)) (a8 : 0 ≤ a0), lq x0 x1 x3 K2 m a0 = res → RC Tryz.prog (.loop cp4) S (QR Tryz.prog [(10, none)] (RF52 res)) [(12, vi a0), (6, .fp v1), (5, .fp v0), (4, v4), (3, v3)] ⟨0, []⟩ := by
 intro m
 induction m with
 | zero =>
  intro a0 c4 a8 s
  rw [lq] at s
  refine ct (aq (sR (mV rfl (mV rfl (ab (cy rfl (cm r3 Tryz.underlying29 _)) (bN cz rfl rfl (nS ?_)))))))
  refine cj rfl ?_ ?_ <;> intro c <;> try simp only [qa] at c
  ·omega
  refine ft (gk (ej ?_))
  exact wP (c7  s) rfl
 | succ m ih =>
  intro a0 c4 a8 s
  rw [lq] at s
  refine ct (aq (sR (mV rfl (mV rfl (ab (cy rfl (cm r3 Tryz.underlying29 _)) (bN cz rfl rfl (nS ?_)))))))
  refine cj rfl ?_ ?_ <;> intro c <;> try simp only [qa] at c
  rotate_left
  ·omega
  refine bb (am (aq (br (sR (mV rfl (mV rfl (ab (bh rfl rfl (slI r3 (by omega) (by omega))) (lR rfl rfl rfl ?_))))))))
  refine bN cz rfl rfl (mV rfl ?_)
  refine cn 10 (d := 56) (v := vb ((decide ((ix x3 a0) < 0)) || (decide ((x0.E.Valid.length : Int) ≤ (ix x3 a0))))) ?_ ?_
  ·intro S Q r
   cases b1 : (decide ((ix x3 a0) < 0))
   ·intro k
    have a7 := b1
    try simp only [qa] at a7
    refine ah rfl rfl (au rfl) (ah rfl rfl (au rfl) (ah rfl rfl (bh rfl rfl (slI r3 (by omega) (by omega))) (ah rfl rfl (ca rfl rfl rfl) ?_)))
    obtain ⟨d1, b5, b6⟩ := az.g_E r0
    refine ah rfl rfl (cd rfl b5) ?_
    obtain ⟨d2, c2, a5⟩ := av.g_Valid b6
    refine ah rfl rfl (cd rfl c2) (ah rfl rfl (ca rfl (TR.cnt (tSl tB) a5) (TR.agg (tSl tB) a5)) (ah rfl rfl (cy rfl (cm a5 Tryz.underlying41 _)) (ah rfl rfl (bz rfl rfl mc) ?_)))
    exact gK rfl rfl rfl rfl rfl k
   ·exact gN 9 rfl rfl rfl rfl rfl rfl
  refine mV rfl ?_
  refine cn 10 (d := 67) (v := vb (((decide ((ix x3 a0) < 0)) || (decide ((x0.E.Valid.length : Int) ≤ (ix x3 a0)))) || (decide ((x1.E.Valid.length : Int) ≤ (ix x3 a0))))) ?_ ?_
  ·intro S Q r
   cases b0 : ((decide ((ix x3 a0) < 0)) || (decide ((x0.E.Valid.length : Int) ≤ (ix x3 a0))))
   ·intro k
    have a6 := b0
    try simp only [qa] at a6
    refine ah rfl rfl (au rfl) (ah rfl rfl (au rfl) (ah rfl rfl (bh rfl rfl (slI r3 (by omega) (by omega))) (ah rfl rfl (ca rfl rfl rfl) ?_)))
    obtain ⟨c5, c3, b8⟩ := az.g_E r1
    refine ah rfl rfl (cd rfl c3) ?_
    obtain ⟨c6, b7, a2⟩ := av.g_Valid b8
    refine ah rfl rfl (cd rfl b7) (ah rfl rfl (ca rfl (TR.cnt (tSl tB) a2) (TR.agg (tSl tB) a2)) (ah rfl rfl (cy rfl (cm a2 Tryz.underlying41 _)) (ah rfl rfl (bz rfl rfl mc) ?_)))
    exact gK rfl rfl rfl rfl rfl k
   ·exact gN 9 rfl rfl rfl rfl rfl rfl
  refine mV rfl ?_
  refine cn 20 (d := 88) (v := vb ((((decide ((ix x3 a0) < 0)) || (decide ((x0.E.Valid.length : Int) ≤ (ix x3 a0)))) || (decide ((x1.E.Valid.length : Int) ≤ (ix x3 a0)))) || (!decide ((ix x0.E.Valid (ix x3 a0)) = (ix x1.E.Valid (ix x3 a0)))))) ?_ ?_
  ·intro S Q r
   cases a9 : (((decide ((ix x3 a0) < 0)) || (decide ((x0.E.Valid.length : Int) ≤ (ix x3 a0)))) || (decide ((x1.E.Valid.length : Int) ≤ (ix x3 a0))))
   ·intro k
    have a1 := a9
    try simp only [qa] at a1
    obtain ⟨d0, b9, b4⟩ := az.g_E r0
    refine ah rfl rfl (cd rfl b9) ?_
    obtain ⟨d3, b2, a4⟩ := av.g_Valid b4
    refine ah rfl rfl (cd rfl b2) (ah rfl rfl (ca rfl (TR.cnt (tSl tB) a4) (TR.agg (tSl tB) a4)) (ah rfl rfl (au rfl) (ah rfl rfl (au rfl) (ah rfl rfl (bh rfl rfl (slI r3 (by omega) (by omega))) (ah rfl rfl (ca rfl rfl rfl) (ah rfl rfl (bh rfl rfl (slB a4 (by omega) (by omega))) (ah rfl rfl (ca rfl rfl rfl) ?_)))))))
    obtain ⟨c9, c0, c1⟩ := az.g_E r1
    refine ah rfl rfl (cd rfl c0) ?_
    obtain ⟨c8, b3, a3⟩ := av.g_Valid c1
    refine ah rfl rfl (cd rfl b3) (ah rfl rfl (ca rfl (TR.cnt (tSl tB) a3) (TR.agg (tSl tB) a3)) (ah rfl rfl (au rfl) (ah rfl rfl (au rfl) (ah rfl rfl (bh rfl rfl (slI r3 (by omega) (by omega))) (ah rfl rfl (ca rfl rfl rfl) (ah rfl rfl (bh rfl rfl (slB a3 (by omega) (by omega))) (ah rfl rfl (ca rfl rfl rfl) (ah rfl rfl (bz rfl rfl (ax3 (by rw [Tryz.underlying4]; rfl))) ?_))))))))
    exact gK rfl rfl rfl rfl rfl k
   ·exact gN 19 rfl rfl rfl rfl rfl rfl
  refine nS ?_
  refine ci s rfl ?_ ?_ <;> clear s <;> intro c s <;> try simp only [qa] at c
  ·refine sR (mB rfl (nS ?_))
   exact rR s rfl rfl rfl
  ·refine bb (de (am (ax (mV rfl (bN gm rfl rfl (mV rfl (bp (di ?_))))))))
   have hbd := ee r3
   have hinc : wr (a0 + 1) = a0 + 1 := gb (by omega) (by omega)
   erw [hinc]
   exact wC (ih   (by omega) (by omega) s) rfl

theorem yg {S : List Fr} {res : Bool} {x0 : az} {x1 : az} {x4 : List Int} {v0 v1 v4 : PV} (r0 : az.t.R x0 v0) (r1 : az.t.R x1 v1) (r4 : (tSl tI).R x4 v4) {K4 : Unit → Bool}
  (c6 : K4 () = res → PX Tryz.prog 4 S (QR Tryz.prog [(10, none)] (RF52 res)) [] ⟨0, []⟩) :
  ∀ {m : Nat} {a0 : Int} (c1 : m = Int.toNat ((x4.length : Int) - a0)) (b3 : 0 ≤ a0), ln x0 x1 x4 K4 m a0 = res → RC Tryz.prog (.loop cp2) S (QR Tryz.prog [(10, none)] (RF52 res)) [(13, vi a0), (6, .fp v1), (5, .fp v0), (4, v4)] ⟨0, []⟩ := by
 intro m
 induction m with
 | zero =>
  intro a0 c1 b3 s
  rw [ln] at s
  refine ct (aq (sR (mV rfl (mV rfl (ab (cy rfl (cm r4 Tryz.underlying29 _)) (bN cz rfl rfl (nS ?_)))))))
  refine cj rfl ?_ ?_ <;> intro c <;> try simp only [qa] at c
  ·omega
  refine ft (gk (ej ?_))
  exact wP (c6  s) rfl
 | succ m ih =>
  intro a0 c1 b3 s
  rw [ln] at s
  refine ct (aq (sR (mV rfl (mV rfl (ab (cy rfl (cm r4 Tryz.underlying29 _)) (bN cz rfl rfl (nS ?_)))))))
  refine cj rfl ?_ ?_ <;> intro c <;> try simp only [qa] at c
  rotate_left
  ·omega
  refine bb (am (aq (br (sR (mV rfl (mV rfl (ab (bh rfl rfl (slI r4 (by omega) (by omega))) (lR rfl rfl rfl ?_))))))))
  refine bN cz rfl rfl (mV rfl ?_)
  refine cn 9 (d := 109) (v := vb ((decide ((ix x4 a0) < 0)) || (decide ((x0.Regs.length : Int) ≤ (ix x4 a0))))) ?_ ?_
  ·intro S Q r
   cases b0 : (decide ((ix x4 a0) < 0))
   ·intro k
    have a5 := b0
    try simp only [qa] at a5
    refine ah rfl rfl (au rfl) (ah rfl rfl (au rfl) (ah rfl rfl (bh rfl rfl (slI r4 (by omega) (by omega))) (ah rfl rfl (ca rfl rfl rfl) ?_)))
    obtain ⟨c3, b9, a3⟩ := az.g_Regs r0
    refine ah rfl rfl (cd rfl b9) (ah rfl rfl (ca rfl (TR.cnt (tSl (tSl dm)) a3) (TR.agg (tSl (tSl dm)) a3)) (ah rfl rfl (cy rfl (cm a3 Tryz.underlying42 _)) (ah rfl rfl (bz rfl rfl mc) ?_)))
    exact gK rfl rfl rfl rfl rfl k
   ·exact gN 8 rfl rfl rfl rfl rfl rfl
  refine mV rfl ?_
  refine cn 9 (d := 119) (v := vb (((decide ((ix x4 a0) < 0)) || (decide ((x0.Regs.length : Int) ≤ (ix x4 a0)))) || (decide ((x1.Regs.length : Int) ≤ (ix x4 a0))))) ?_ ?_
  ·intro S Q r
   cases b1 : ((decide ((ix x4 a0) < 0)) || (decide ((x0.Regs.length : Int) ≤ (ix x4 a0))))
   ·intro k
    have a7 := b1
    try simp only [qa] at a7
    refine ah rfl rfl (au rfl) (ah rfl rfl (au rfl) (ah rfl rfl (bh rfl rfl (slI r4 (by omega) (by omega))) (ah rfl rfl (ca rfl rfl rfl) ?_)))
    obtain ⟨c8, c0, a9⟩ := az.g_Regs r1
    refine ah rfl rfl (cd rfl c0) (ah rfl rfl (ca rfl (TR.cnt (tSl (tSl dm)) a9) (TR.agg (tSl (tSl dm)) a9)) (ah rfl rfl (cy rfl (cm a9 Tryz.underlying42 _)) (ah rfl rfl (bz rfl rfl mc) ?_)))
    exact gK rfl rfl rfl rfl rfl k
   ·exact gN 8 rfl rfl rfl rfl rfl rfl
  refine mV rfl ?_
  refine cn 19 (d := 139) (v := vb ((((decide ((ix x4 a0) < 0)) || (decide ((x0.Regs.length : Int) ≤ (ix x4 a0)))) || (decide ((x1.Regs.length : Int) ≤ (ix x4 a0)))) || (!(jk (ix x0.Regs (ix x4 a0)) (ix x1.Regs (ix x4 a0)))))) ?_ ?_
  ·intro S Q r
   cases b2 : (((decide ((ix x4 a0) < 0)) || (decide ((x0.Regs.length : Int) ≤ (ix x4 a0)))) || (decide ((x1.Regs.length : Int) ≤ (ix x4 a0))))
   ·intro k
    have a8 := b2
    try simp only [qa] at a8
    obtain ⟨c7, b8, a6⟩ := az.g_Regs r0
    refine ah rfl rfl (cd rfl b8) (ah rfl rfl (ca rfl (TR.cnt (tSl (tSl dm)) a6) (TR.agg (tSl (tSl dm)) a6)) (ah rfl rfl (au rfl) (ah rfl rfl (au rfl) (ah rfl rfl (bh rfl rfl (slI r4 (by omega) (by omega))) (ah rfl rfl (ca rfl rfl rfl) ?_)))))
    obtain ⟨c2, b6, a2⟩ := dt (i := (ix x4 a0)) a6 (by omega) (by omega)
    refine ah rfl rfl (bh rfl rfl b6) (ah rfl rfl (ca rfl (TR.cnt (tSl dm) a2) (TR.agg (tSl dm) a2)) ?_)
    obtain ⟨c4, b7, a4⟩ := az.g_Regs r1
    refine ah rfl rfl (cd rfl b7) (ah rfl rfl (ca rfl (TR.cnt (tSl (tSl dm)) a4) (TR.agg (tSl (tSl dm)) a4)) (ah rfl rfl (au rfl) (ah rfl rfl (au rfl) (ah rfl rfl (bh rfl rfl (slI r4 (by omega) (by omega))) (ah rfl rfl (ca rfl rfl rfl) ?_)))))
    obtain ⟨c5, b5, a1⟩ := dt (i := (ix x4 a0)) a4 (by omega) (by omega)
    refine ah rfl rfl (bh rfl rfl b5) (ah rfl rfl (ca rfl (TR.cnt (tSl dm) a1) (TR.agg (tSl dm) a1)) ?_)
    have b4 := dc6  a2 a1 
    refine mb rfl rfl (si rfl rfl (ai (TR.clo (tSl dm) a2) (ai (TR.clo (tSl dm) a1) bg)) b4) (ah rfl rfl (ks rfl) ?_)
    exact gK rfl rfl rfl rfl rfl k
   ·exact gN 18 rfl rfl rfl rfl rfl rfl
  refine nS ?_
  refine ci s rfl ?_ ?_ <;> clear s <;> intro c s <;> try simp only [qa] at c
  ·refine sR (mB rfl (nS ?_))
   exact rR s rfl rfl rfl
  ·refine bb (de (am (ax (mV rfl (bN gm rfl rfl (mV rfl (bp (di ?_))))))))
   have hbd := ee r4
   have hinc : wr (a0 + 1) = a0 + 1 := gb (by omega) (by omega)
   erw [hinc]
   exact wC (ih   (by omega) (by omega) s) rfl

theorem ba4 {x0 : az} {x1 : az} {x2 : List aa} {x3 x4 : List Int} {v0 v1 v2 v3 v4 : PV} (r0 : az.t.R x0 v0) (r1 : az.t.R x1 v1) (r2 : (tSl aa.t).R x2 v2) (r3 : (tSl tI).R x3 v3) (r4 : (tSl tI).R x4 v4) : FnR Tryz.prog 52 [v0, v1, v2, v3, v4] (vb (oa x0 x1 x2 x3 x4)) := by
 refine fnS (R := RF52) dh4 (fun _ h => h) rfl fun res s => ?_
 unfold oa at s
 refine sR (ab (dq rfl (TR.cnt az.t r0)) (ab (dq rfl (TR.cnt az.t r1)) (mB rfl (nS (aq (sR (mI rfl (nS ?_))))))))
 refine br ?_
 refine wC (ym r0 r1 r2 ?_  rfl (by omega) s) rfl
 ·intro  s
  refine gw (am (aq (sR (mI rfl (nS (br ?_))))))
  refine wC (yf r0 r1 r3 ?_  rfl (by omega) s) rfl
  ·intro  s
   refine gw (am (aq (sR (mI rfl (nS (br ?_))))))
   refine wC (yg r0 r1 r4 ?_  rfl (by omega) s) rfl
   ·intro  s
    refine gw (am (sR (mB rfl (nS ?_))))
    exact rR s rfl rfl rfl

def RF185 (res : (List Bool)) (r : PV) : Prop := (tSl tB).R res r
theorem wk {S : List Fr} {res : (List Bool)} {x0 : List (List Bool)} {v0 : PV} (r0 : (tSl (tSl tB)).R x0 v0) (hb : ∀ l ∈ x0, l.length ≤ 1048576) (hc : x0.length ≤ 1) {K0 : (List Bool) → (List Bool)}
  (c4 : ∀ {zE102 : List Bool} {a0 : List PV} {a1 : PV} (a3 : All2 tB.R zE102 a0) (a5 : isL a1 = true) (a2 : Wri a1 a0) (a4 : zE102.length ≤ 4611686018427387904) {h : Heap} (M0 : Mem h [⟨a1, 4, 1, a0⟩]), K0 zE102 = res → PX Tryz.prog 0 S (QR Tryz.prog [(2, none)] (RF185 res)) [(3, a1)] h) :
  ∀ {m : Nat} {a6 : Int} {zE102 : List Bool} {a0 : List PV} {a1 : PV} (a3 : All2 tB.R zE102 a0) (a5 : isL a1 = true) (a2 : Wri a1 a0) (a4 : zE102.length ≤ 4611686018427387904) (c0 : m = Int.toNat ((x0.length : Int) - a6)) (b3 : 0 ≤ a6) (a9 : (zE102.length : Int) ≤ 1048576 * a6) {h : Heap} (M0 : Mem h [⟨a1, 4, 1, a0⟩]), jq x0 K0 m a6 zE102 = res → RC Tryz.prog (.loop as3) S (QR Tryz.prog [(2, none)] (RF185 res)) [(8, vi a6), (7, vi (x0.length : Int)), (6, v0), (3, a1)] h := by
 have hb' := hb
 try simp only [qa] at hb'
 have hc' := hc
 try simp only [qa] at hc'
 intro m
 induction m with
 | zero =>
  intro a6 zE102 a0 a1 a3 a5 a2 a4 c0 b3 a9 h M0 s
  rw [jq] at s
  refine ct (sR (bN cz rfl rfl (nS (aq ?_))))
  refine cj rfl ?_ ?_ <;> intro c <;> try simp only [qa] at c
  ·omega
  refine ft (gk (ej ?_))
  exact wP (c4 a3 a5 a2 a4 (Mem.sub M0 (.cons_cons _ .slnil)) s) rfl
 | succ m ih =>
  intro a6 zE102 a0 a1 a3 a5 a2 a4 c0 b3 a9 h M0 s
  rw [jq] at s
  refine ct (sR (bN cz rfl rfl (nS (aq ?_))))
  refine cj rfl ?_ ?_ <;> intro c <;> try simp only [qa] at c
  rotate_left
  ·omega
  refine bb (am (aq (br (sR ?_))))
  obtain ⟨c2, b7, b2⟩ := dt (i := a6) r0 (by omega) (by omega)
  refine ab (bh rfl rfl b7) (lD b2 rfl rfl rfl (mV rfl (nS (ax (mV rfl (mV rfl ?_))))))
  obtain ⟨a7, b1, a8⟩ := ol (t := tB) (h := h) b2
  have b6 : fits (a0.length + a7.length) 1 = true := by rw [All2.length_eq a3, All2.length_eq a8]; (try simp only [List.length_cons, List.length_nil]); exact lr (by (have hk := pk hb (i := a6) (by omega) (by omega); omega)) (by (have hk := pk hb (i := a6) (by omega) (by omega); omega))
  refine nj (k := 0) (es := a0) (news := a7) M0 rfl rfl rfl a5 a2 b1 b6 (fun c1 c3 b8 b0 b9 => ?_)
  have b5 : All2 tB.R (zE102 ++ (ix x0 a6)) (a0 ++ a7) := All2.app a3 a8
  have b4 : (zE102 ++ (ix x0 a6)).length ≤ 4611686018427387904 := by rw [← All2.length_eq b5, List.length_append]; exact lm b6
  refine mV rfl (bp (de (am (ax (bN gm rfl rfl (mV rfl (bp (di ?_))))))))
  have hbd := ee r0
  have hinc : wr (a6 + 1) = a6 + 1 := gb (by omega) (by omega)
  erw [hinc]
  exact wC (ih  b5 b8 b0 b4 (by omega) (by omega) (by (have hk := pk hb (i := a6) (by omega) (by omega); simp only [List.length_append]; omega)) (Mem.sub b9 (.cons_cons _ .slnil)) s) rfl

theorem dx7 {x0 : List (List Bool)} {v0 : PV} (r0 : (tSl (tSl tB)).R x0 v0) (hb : ∀ l ∈ x0, l.length ≤ 1048576) (hc : x0.length ≤ 1) : ∃ r, FnR Tryz.prog 185 [v0] r ∧ (tSl tB).R (nk x0) r := by
 refine fnT (R := RF185) an3 rfl fun res s => ?_
 unfold nk at s
 refine sR (ab (v := nilS) (au rfl) (nR (ab (v := nilS) (au rfl) (nS (aq (sR (mV rfl (ab (cy rfl (cm r0 Tryz.underlying213 _)) ?_))))))))
 refine mI rfl (nS (br ?_))
 have a7 := nm (sz := 1) (es := []) (Mem.nil ⟨0, []⟩) 4 (.inl ⟨none, rfl, rfl⟩) (by simp)
 refine wC (wk r0 hb hc ?_  aL rfl (.inl rfl) (by decide) rfl (by omega) (by simp) (Mem.sub a7 (.cons_cons _ .slnil)) s) rfl
 ·intro a3 a5 a6 a2 a1 a4 a0 b2 a9 s
  refine gw (am (sR (mV rfl (mV rfl (nS ?_)))))
  obtain ⟨b1, a8, b0⟩ := oq (P := Tryz.prog) (k := 0) (t := tB) a9 rfl a1 a2 (Nat.le_trans a0 (by decide))
  subst s
  exact fy (.tmp rfl .nil) a8 b0
def RF185x (R_ : List Ent) (res : (List Bool)) (r : PV) (h : Heap) : Prop := ∃ asR0_ : PV, ∃ esR0_ : List PV, Mem h (⟨asR0_, 4, 1, esR0_⟩ :: R_) ∧ (All2 tB.R res esR0_) ∧ (isL asR0_ = true) ∧ (res.length ≤ 4611686018427387904) ∧ (Wri asR0_ esR0_) ∧ r = asR0_
theorem um {S : List Fr} {res : (List Bool)} {x0 : List (List Bool)} {v0 : PV} {R_ : List Ent} (r0 : (tSl (tSl tB)).R x0 v0) (hb : ∀ l ∈ x0, l.length ≤ 1048576) (hc : x0.length ≤ 1) {K0 : (List Bool) → (List Bool)}
  (c4 : ∀ {zE102 : List Bool} {a0 : List PV} {a1 : PV} (a3 : All2 tB.R zE102 a0) (a5 : isL a1 = true) (a2 : Wri a1 a0) (a4 : zE102.length ≤ 4611686018427387904) {h : Heap} (M0 : Mem h (⟨a1, 4, 1, a0⟩ :: R_)), K0 zE102 = res → PX Tryz.prog 0 S (retPost Tryz.prog [(2, none)] (RF185x R_ res)) [(3, a1)] h) :
  ∀ {m : Nat} {a6 : Int} {zE102 : List Bool} {a0 : List PV} {a1 : PV} (a3 : All2 tB.R zE102 a0) (a5 : isL a1 = true) (a2 : Wri a1 a0) (a4 : zE102.length ≤ 4611686018427387904) (c0 : m = Int.toNat ((x0.length : Int) - a6)) (b3 : 0 ≤ a6) (a9 : (zE102.length : Int) ≤ 1048576 * a6) {h : Heap} (M0 : Mem h (⟨a1, 4, 1, a0⟩ :: R_)), jq x0 K0 m a6 zE102 = res → RC Tryz.prog (.loop as3) S (retPost Tryz.prog [(2, none)] (RF185x R_ res)) [(8, vi a6), (7, vi (x0.length : Int)), (6, v0), (3, a1)] h := by
 have hb' := hb
 try simp only [qa] at hb'
 have hc' := hc
 try simp only [qa] at hc'
 intro m
 induction m with
 | zero =>
  intro a6 zE102 a0 a1 a3 a5 a2 a4 c0 b3 a9 h M0 s
  rw [jq] at s
  refine ct (sR (bN cz rfl rfl (nS (aq ?_))))
  refine cj rfl ?_ ?_ <;> intro c <;> try simp only [qa] at c
  ·omega
  refine ft (gk (ej ?_))
  exact wP (c4 a3 a5 a2 a4 (Mem.sub M0 (.cons_cons _ (List.Sublist.refl R_))) s) rfl
 | succ m ih =>
  intro a6 zE102 a0 a1 a3 a5 a2 a4 c0 b3 a9 h M0 s
  rw [jq] at s
  refine ct (sR (bN cz rfl rfl (nS (aq ?_))))
  refine cj rfl ?_ ?_ <;> intro c <;> try simp only [qa] at c
  rotate_left
  ·omega
  refine bb (am (aq (br (sR ?_))))
  obtain ⟨c2, b7, b2⟩ := dt (i := a6) r0 (by omega) (by omega)
  refine ab (bh rfl rfl b7) (lD b2 rfl rfl rfl (mV rfl (nS (ax (mV rfl (mV rfl ?_))))))
  obtain ⟨a7, b1, a8⟩ := ol (t := tB) (h := h) b2
  have b6 : fits (a0.length + a7.length) 1 = true := by rw [All2.length_eq a3, All2.length_eq a8]; (try simp only [List.length_cons, List.length_nil]); exact lr (by (have hk := pk hb (i := a6) (by omega) (by omega); omega)) (by (have hk := pk hb (i := a6) (by omega) (by omega); omega))
  refine nj (k := 0) (es := a0) (news := a7) M0 rfl rfl rfl a5 a2 b1 b6 (fun c1 c3 b8 b0 b9 => ?_)
  have b5 : All2 tB.R (zE102 ++ (ix x0 a6)) (a0 ++ a7) := All2.app a3 a8
  have b4 : (zE102 ++ (ix x0 a6)).length ≤ 4611686018427387904 := by rw [← All2.length_eq b5, List.length_append]; exact lm b6
  refine mV rfl (bp (de (am (ax (bN gm rfl rfl (mV rfl (bp (di ?_))))))))
  have hbd := ee r0
  have hinc : wr (a6 + 1) = a6 + 1 := gb (by omega) (by omega)
  erw [hinc]
  exact wC (ih  b5 b8 b0 b4 (by omega) (by omega) (by (have hk := pk hb (i := a6) (by omega) (by omega); simp only [List.length_append]; omega)) (Mem.sub b9 (.cons_cons _ (List.Sublist.refl R_))) s) rfl

theorem ce5 {x0 : List (List Bool)} {v0 : PV} {R_ : List Ent} {h_ : Heap} (r0 : (tSl (tSl tB)).R x0 v0) (M_ : Mem h_ (R_)) (hb : ∀ l ∈ x0, l.length ≤ 1048576) (hc : x0.length ≤ 1) : ∃ r b1, FnX Tryz.prog 185 [v0] h_ r b1 ∧ RF185x R_ (nk x0) r b1 := by
 obtain ⟨res, s⟩ : ∃ res, nk x0 = res := ⟨_, rfl⟩
 suffices H : RC Tryz.prog cb4 [] (retPost Tryz.prog [(2, none)] (RF185x R_ res)) (argE 0 [v0]) h_ by
  rw [s]
  exact fnX an3 (by simp) H
 unfold nk at s
 refine sR (ab (v := nilS) (au rfl) (nR (ab (v := nilS) (au rfl) (nS (aq (sR (mV rfl (ab (cy rfl (cm r0 Tryz.underlying213 _)) ?_))))))))
 refine mI rfl (nS (br ?_))
 have a8 := nm (sz := 1) (es := []) M_ 4 (.inl ⟨none, rfl, rfl⟩) (by simp)
 refine wC (um r0 hb hc ?_  aL rfl (.inl rfl) (by decide) rfl (by omega) (by simp) (Mem.sub a8 (.cons_cons _ (List.Sublist.refl R_))) s) rfl
 ·intro a6 a0 a1 a5 a4 a2 a3 a9 b0 s
  refine gw (am (sR (mV rfl (mV rfl (nS ?_)))))
  have a7 : Mem a9 (⟨a1, 4, 1, a0⟩ :: R_) := (Mem.front (k := 0) b0 rfl)
  subst s
  exact ji (.tmp rfl .nil) ⟨a1, a0, Mem.sub a7 (.cons_cons _ (List.Sublist.refl R_)), a5, a4, a3, a2, rfl⟩

def RF186 (res : (List (BitVec 32))) (r : PV) : Prop := (tSl dm).R res r
theorem uh {S : List Fr} {res : (List (BitVec 32))} {x0 : List (List (BitVec 32))} {v0 : PV} (r0 : (tSl (tSl dm)).R x0 v0) (hb : ∀ l ∈ x0, l.length ≤ 1048576) (hc : x0.length ≤ 1) {K0 : (List (BitVec 32)) → (List (BitVec 32))}
  (c4 : ∀ {zE102 : List (BitVec 32)} {a0 : List PV} {a1 : PV} (a3 : All2 dm.R zE102 a0) (a5 : isL a1 = true) (a2 : Wri a1 a0) (a4 : zE102.length ≤ 4611686018427387904) {h : Heap} (M0 : Mem h [⟨a1, 89, 1, a0⟩]), K0 zE102 = res → PX Tryz.prog 0 S (QR Tryz.prog [(2, none)] (RF186 res)) [(3, a1)] h) :
  ∀ {m : Nat} {a6 : Int} {zE102 : List (BitVec 32)} {a0 : List PV} {a1 : PV} (a3 : All2 dm.R zE102 a0) (a5 : isL a1 = true) (a2 : Wri a1 a0) (a4 : zE102.length ≤ 4611686018427387904) (c0 : m = Int.toNat ((x0.length : Int) - a6)) (b3 : 0 ≤ a6) (a9 : (zE102.length : Int) ≤ 1048576 * a6) {h : Heap} (M0 : Mem h [⟨a1, 89, 1, a0⟩]), iv x0 K0 m a6 zE102 = res → RC Tryz.prog (.loop as1) S (QR Tryz.prog [(2, none)] (RF186 res)) [(8, vi a6), (7, vi (x0.length : Int)), (6, v0), (3, a1)] h := by
 have hb' := hb
 try simp only [qa] at hb'
 have hc' := hc
 try simp only [qa] at hc'
 intro m
 induction m with
 | zero =>
  intro a6 zE102 a0 a1 a3 a5 a2 a4 c0 b3 a9 h M0 s
  rw [iv] at s
  refine ct (sR (bN cz rfl rfl (nS (aq ?_))))
  refine cj rfl ?_ ?_ <;> intro c <;> try simp only [qa] at c
  ·omega
  refine ft (gk (ej ?_))
  exact wP (c4 a3 a5 a2 a4 (Mem.sub M0 (.cons_cons _ .slnil)) s) rfl
 | succ m ih =>
  intro a6 zE102 a0 a1 a3 a5 a2 a4 c0 b3 a9 h M0 s
  rw [iv] at s
  refine ct (sR (bN cz rfl rfl (nS (aq ?_))))
  refine cj rfl ?_ ?_ <;> intro c <;> try simp only [qa] at c
  rotate_left
  ·omega
  refine bb (am (aq (br (sR ?_))))
  obtain ⟨c2, b7, b2⟩ := dt (i := a6) r0 (by omega) (by omega)
  refine ab (bh rfl rfl b7) (lD b2 rfl rfl rfl (mV rfl (nS (ax (mV rfl (mV rfl ?_))))))
  obtain ⟨a7, b1, a8⟩ := ol (t := dm) (h := h) b2
  have b6 : fits (a0.length + a7.length) 4 = true := by rw [All2.length_eq a3, All2.length_eq a8]; (try simp only [List.length_cons, List.length_nil]); exact lr (by (have hk := pk hb (i := a6) (by omega) (by omega); omega)) (by (have hk := pk hb (i := a6) (by omega) (by omega); omega))
  refine nj (k := 0) (es := a0) (news := a7) M0 rfl rfl rfl a5 a2 b1 b6 (fun c1 c3 b8 b0 b9 => ?_)
  have b5 : All2 dm.R (zE102 ++ (ix x0 a6)) (a0 ++ a7) := All2.app a3 a8
  have b4 : (zE102 ++ (ix x0 a6)).length ≤ 4611686018427387904 := by rw [← All2.length_eq b5, List.length_append]; exact lm b6
  refine mV rfl (bp (de (am (ax (bN gm rfl rfl (mV rfl (bp (di ?_))))))))
  have hbd := ee r0
  have hinc : wr (a6 + 1) = a6 + 1 := gb (by omega) (by omega)
  erw [hinc]
  exact wC (ih  b5 b8 b0 b4 (by omega) (by omega) (by (have hk := pk hb (i := a6) (by omega) (by omega); simp only [List.length_append]; omega)) (Mem.sub b9 (.cons_cons _ .slnil)) s) rfl

theorem dx5 {x0 : List (List (BitVec 32))} {v0 : PV} (r0 : (tSl (tSl dm)).R x0 v0) (hb : ∀ l ∈ x0, l.length ≤ 1048576) (hc : x0.length ≤ 1) : ∃ r, FnR Tryz.prog 186 [v0] r ∧ (tSl dm).R (lx x0) r := by
 refine fnT (R := RF186) aq0 rfl fun res s => ?_
 unfold lx at s
 refine sR (ab (v := nilS) (au rfl) (nR (ab (v := nilS) (au rfl) (nS (aq (sR (mV rfl (ab (cy rfl (cm r0 Tryz.underlying42 _)) ?_))))))))
 refine mI rfl (nS (br ?_))
 have a7 := nm (sz := 1) (es := []) (Mem.nil ⟨0, []⟩) 89 (.inl ⟨none, rfl, rfl⟩) (by simp)
 refine wC (uh r0 hb hc ?_  aL rfl (.inl rfl) (by decide) rfl (by omega) (by simp) (Mem.sub a7 (.cons_cons _ .slnil)) s) rfl
 ·intro a3 a5 a6 a2 a1 a4 a0 b2 a9 s
  refine gw (am (sR (mV rfl (mV rfl (nS ?_)))))
  obtain ⟨b1, a8, b0⟩ := oq (P := Tryz.prog) (k := 0) (t := dm) a9 rfl a1 a2 (Nat.le_trans a0 (by decide))
  subst s
  exact fy (.tmp rfl .nil) a8 b0
def RF186x (R_ : List Ent) (res : (List (BitVec 32))) (r : PV) (h : Heap) : Prop := ∃ asR0_ : PV, ∃ esR0_ : List PV, Mem h (⟨asR0_, 89, 1, esR0_⟩ :: R_) ∧ (All2 dm.R res esR0_) ∧ (isL asR0_ = true) ∧ (res.length ≤ 4611686018427387904) ∧ (Wri asR0_ esR0_) ∧ r = asR0_
theorem uc {S : List Fr} {res : (List (BitVec 32))} {x0 : List (List (BitVec 32))} {v0 : PV} {R_ : List Ent} (r0 : (tSl (tSl dm)).R x0 v0) (hb : ∀ l ∈ x0, l.length ≤ 1048576) (hc : x0.length ≤ 1) {K0 : (List (BitVec 32)) → (List (BitVec 32))}
  (c4 : ∀ {zE102 : List (BitVec 32)} {a0 : List PV} {a1 : PV} (a3 : All2 dm.R zE102 a0) (a5 : isL a1 = true) (a2 : Wri a1 a0) (a4 : zE102.length ≤ 4611686018427387904) {h : Heap} (M0 : Mem h (⟨a1, 89, 1, a0⟩ :: R_)), K0 zE102 = res → PX Tryz.prog 0 S (retPost Tryz.prog [(2, none)] (RF186x R_ res)) [(3, a1)] h) :
  ∀ {m : Nat} {a6 : Int} {zE102 : List (BitVec 32)} {a0 : List PV} {a1 : PV} (a3 : All2 dm.R zE102 a0) (a5 : isL a1 = true) (a2 : Wri a1 a0) (a4 : zE102.length ≤ 4611686018427387904) (c0 : m = Int.toNat ((x0.length : Int) - a6)) (b3 : 0 ≤ a6) (a9 : (zE102.length : Int) ≤ 1048576 * a6) {h : Heap} (M0 : Mem h (⟨a1, 89, 1, a0⟩ :: R_)), iv x0 K0 m a6 zE102 = res → RC Tryz.prog (.loop as1) S (retPost Tryz.prog [(2, none)] (RF186x R_ res)) [(8, vi a6), (7, vi (x0.length : Int)), (6, v0), (3, a1)] h := by
 have hb' := hb
 try simp only [qa] at hb'
 have hc' := hc
 try simp only [qa] at hc'
 intro m
 induction m with
 | zero =>
  intro a6 zE102 a0 a1 a3 a5 a2 a4 c0 b3 a9 h M0 s
  rw [iv] at s
  refine ct (sR (bN cz rfl rfl (nS (aq ?_))))
  refine cj rfl ?_ ?_ <;> intro c <;> try simp only [qa] at c
  ·omega
  refine ft (gk (ej ?_))
  exact wP (c4 a3 a5 a2 a4 (Mem.sub M0 (.cons_cons _ (List.Sublist.refl R_))) s) rfl
 | succ m ih =>
  intro a6 zE102 a0 a1 a3 a5 a2 a4 c0 b3 a9 h M0 s
  rw [iv] at s
  refine ct (sR (bN cz rfl rfl (nS (aq ?_))))
  refine cj rfl ?_ ?_ <;> intro c <;> try simp only [qa] at c
  rotate_left
  ·omega
  refine bb (am (aq (br (sR ?_))))
  obtain ⟨c2, b7, b2⟩ := dt (i := a6) r0 (by omega) (by omega)
  refine ab (bh rfl rfl b7) (lD b2 rfl rfl rfl (mV rfl (nS (ax (mV rfl (mV rfl ?_))))))
  obtain ⟨a7, b1, a8⟩ := ol (t := dm) (h := h) b2
  have b6 : fits (a0.length + a7.length) 4 = true := by rw [All2.length_eq a3, All2.length_eq a8]; (try simp only [List.length_cons, List.length_nil]); exact lr (by (have hk := pk hb (i := a6) (by omega) (by omega); omega)) (by (have hk := pk hb (i := a6) (by omega) (by omega); omega))
  refine nj (k := 0) (es := a0) (news := a7) M0 rfl rfl rfl a5 a2 b1 b6 (fun c1 c3 b8 b0 b9 => ?_)
  have b5 : All2 dm.R (zE102 ++ (ix x0 a6)) (a0 ++ a7) := All2.app a3 a8
  have b4 : (zE102 ++ (ix x0 a6)).length ≤ 4611686018427387904 := by rw [← All2.length_eq b5, List.length_append]; exact lm b6
  refine mV rfl (bp (de (am (ax (bN gm rfl rfl (mV rfl (bp (di ?_))))))))
  have hbd := ee r0
  have hinc : wr (a6 + 1) = a6 + 1 := gb (by omega) (by omega)
  erw [hinc]
  exact wC (ih  b5 b8 b0 b4 (by omega) (by omega) (by (have hk := pk hb (i := a6) (by omega) (by omega); simp only [List.length_append]; omega)) (Mem.sub b9 (.cons_cons _ (List.Sublist.refl R_))) s) rfl

theorem bw3 {x0 : List (List (BitVec 32))} {v0 : PV} {R_ : List Ent} {h_ : Heap} (r0 : (tSl (tSl dm)).R x0 v0) (M_ : Mem h_ (R_)) (hb : ∀ l ∈ x0, l.length ≤ 1048576) (hc : x0.length ≤ 1) : ∃ r b1, FnX Tryz.prog 186 [v0] h_ r b1 ∧ RF186x R_ (lx x0) r b1 := by
 obtain ⟨res, s⟩ : ∃ res, lx x0 = res := ⟨_, rfl⟩
 suffices H : RC Tryz.prog cg0 [] (retPost Tryz.prog [(2, none)] (RF186x R_ res)) (argE 0 [v0]) h_ by
  rw [s]
  exact fnX aq0 (by simp) H
 unfold lx at s
 refine sR (ab (v := nilS) (au rfl) (nR (ab (v := nilS) (au rfl) (nS (aq (sR (mV rfl (ab (cy rfl (cm r0 Tryz.underlying42 _)) ?_))))))))
 refine mI rfl (nS (br ?_))
 have a8 := nm (sz := 1) (es := []) M_ 89 (.inl ⟨none, rfl, rfl⟩) (by simp)
 refine wC (uc r0 hb hc ?_  aL rfl (.inl rfl) (by decide) rfl (by omega) (by simp) (Mem.sub a8 (.cons_cons _ (List.Sublist.refl R_))) s) rfl
 ·intro a6 a0 a1 a5 a4 a2 a3 a9 b0 s
  refine gw (am (sR (mV rfl (mV rfl (nS ?_)))))
  have a7 : Mem a9 (⟨a1, 89, 1, a0⟩ :: R_) := (Mem.front (k := 0) b0 rfl)
  subst s
  exact ji (.tmp rfl .nil) ⟨a1, a0, Mem.sub a7 (.cons_cons _ (List.Sublist.refl R_)), a5, a4, a3, a2, rfl⟩

def RF187 (res : (List UInt8)) (r : PV) : Prop := (tSl tU8).R res r
theorem wh {S : List Fr} {res : (List UInt8)} {x0 : List (List UInt8)} {v0 : PV} (r0 : (tSl (tSl tU8)).R x0 v0) (hb : ∀ l ∈ x0, l.length ≤ 1048576) (hc : x0.length ≤ 1) {K0 : (List UInt8) → (List UInt8)}
  (c4 : ∀ {zE102 : List UInt8} {a0 : List PV} {a1 : PV} (a3 : All2 tU8.R zE102 a0) (a5 : isL a1 = true) (a2 : Wri a1 a0) (a4 : zE102.length ≤ 4611686018427387904) {h : Heap} (M0 : Mem h [⟨a1, 5, 1, a0⟩]), K0 zE102 = res → PX Tryz.prog 0 S (QR Tryz.prog [(2, none)] (RF187 res)) [(3, a1)] h) :
  ∀ {m : Nat} {a6 : Int} {zE102 : List UInt8} {a0 : List PV} {a1 : PV} (a3 : All2 tU8.R zE102 a0) (a5 : isL a1 = true) (a2 : Wri a1 a0) (a4 : zE102.length ≤ 4611686018427387904) (c0 : m = Int.toNat ((x0.length : Int) - a6)) (b3 : 0 ≤ a6) (a9 : (zE102.length : Int) ≤ 1048576 * a6) {h : Heap} (M0 : Mem h [⟨a1, 5, 1, a0⟩]), jn x0 K0 m a6 zE102 = res → RC Tryz.prog (.loop as7) S (QR Tryz.prog [(2, none)] (RF187 res)) [(8, vi a6), (7, vi (x0.length : Int)), (6, v0), (3, a1)] h := by
 have hb' := hb
 try simp only [qa] at hb'
 have hc' := hc
 try simp only [qa] at hc'
 intro m
 induction m with
 | zero =>
  intro a6 zE102 a0 a1 a3 a5 a2 a4 c0 b3 a9 h M0 s
  rw [jn] at s
  refine ct (sR (bN cz rfl rfl (nS (aq ?_))))
  refine cj rfl ?_ ?_ <;> intro c <;> try simp only [qa] at c
  ·omega
  refine ft (gk (ej ?_))
  exact wP (c4 a3 a5 a2 a4 (Mem.sub M0 (.cons_cons _ .slnil)) s) rfl
 | succ m ih =>
  intro a6 zE102 a0 a1 a3 a5 a2 a4 c0 b3 a9 h M0 s
  rw [jn] at s
  refine ct (sR (bN cz rfl rfl (nS (aq ?_))))
  refine cj rfl ?_ ?_ <;> intro c <;> try simp only [qa] at c
  rotate_left
  ·omega
  refine bb (am (aq (br (sR ?_))))
  obtain ⟨c2, b7, b2⟩ := dt (i := a6) r0 (by omega) (by omega)
  refine ab (bh rfl rfl b7) (lD b2 rfl rfl rfl (mV rfl (nS (ax (mV rfl (mV rfl ?_))))))
  obtain ⟨a7, b1, a8⟩ := ol (t := tU8) (h := h) b2
  have b6 : fits (a0.length + a7.length) 1 = true := by rw [All2.length_eq a3, All2.length_eq a8]; (try simp only [List.length_cons, List.length_nil]); exact lr (by (have hk := pk hb (i := a6) (by omega) (by omega); omega)) (by (have hk := pk hb (i := a6) (by omega) (by omega); omega))
  refine nj (k := 0) (es := a0) (news := a7) M0 rfl rfl rfl a5 a2 b1 b6 (fun c1 c3 b8 b0 b9 => ?_)
  have b5 : All2 tU8.R (zE102 ++ (ix x0 a6)) (a0 ++ a7) := All2.app a3 a8
  have b4 : (zE102 ++ (ix x0 a6)).length ≤ 4611686018427387904 := by rw [← All2.length_eq b5, List.length_append]; exact lm b6
  refine mV rfl (bp (de (am (ax (bN gm rfl rfl (mV rfl (bp (di ?_))))))))
  have hbd := ee r0
  have hinc : wr (a6 + 1) = a6 + 1 := gb (by omega) (by omega)
  erw [hinc]
  exact wC (ih  b5 b8 b0 b4 (by omega) (by omega) (by (have hk := pk hb (i := a6) (by omega) (by omega); simp only [List.length_append]; omega)) (Mem.sub b9 (.cons_cons _ .slnil)) s) rfl

theorem dx8 {x0 : List (List UInt8)} {v0 : PV} (r0 : (tSl (tSl tU8)).R x0 v0) (hb : ∀ l ∈ x0, l.length ≤ 1048576) (hc : x0.length ≤ 1) : ∃ r, FnR Tryz.prog 187 [v0] r ∧ (tSl tU8).R (nl x0) r := by
 refine fnT (R := RF187) an9 rfl fun res s => ?_
 unfold nl at s
 refine sR (ab (v := nilS) (au rfl) (nR (ab (v := nilS) (au rfl) (nS (aq (sR (mV rfl (ab (cy rfl (cm r0 Tryz.underlying259 _)) ?_))))))))
 refine mI rfl (nS (br ?_))
 have a7 := nm (sz := 1) (es := []) (Mem.nil ⟨0, []⟩) 5 (.inl ⟨none, rfl, rfl⟩) (by simp)
 refine wC (wh r0 hb hc ?_  aL rfl (.inl rfl) (by decide) rfl (by omega) (by simp) (Mem.sub a7 (.cons_cons _ .slnil)) s) rfl
 ·intro a3 a5 a6 a2 a1 a4 a0 b2 a9 s
  refine gw (am (sR (mV rfl (mV rfl (nS ?_)))))
  obtain ⟨b1, a8, b0⟩ := oq (P := Tryz.prog) (k := 0) (t := tU8) a9 rfl a1 a2 (Nat.le_trans a0 (by decide))
  subst s
  exact fy (.tmp rfl .nil) a8 b0
def RF187x (R_ : List Ent) (res : (List UInt8)) (r : PV) (h : Heap) : Prop := ∃ asR0_ : PV, ∃ esR0_ : List PV, Mem h (⟨asR0_, 5, 1, esR0_⟩ :: R_) ∧ (All2 tU8.R res esR0_) ∧ (isL asR0_ = true) ∧ (res.length ≤ 4611686018427387904) ∧ (Wri asR0_ esR0_) ∧ r = asR0_
theorem uw {S : List Fr} {res : (List UInt8)} {x0 : List (List UInt8)} {v0 : PV} {R_ : List Ent} (r0 : (tSl (tSl tU8)).R x0 v0) (hb : ∀ l ∈ x0, l.length ≤ 1048576) (hc : x0.length ≤ 1) {K0 : (List UInt8) → (List UInt8)}
  (c4 : ∀ {zE102 : List UInt8} {a0 : List PV} {a1 : PV} (a3 : All2 tU8.R zE102 a0) (a5 : isL a1 = true) (a2 : Wri a1 a0) (a4 : zE102.length ≤ 4611686018427387904) {h : Heap} (M0 : Mem h (⟨a1, 5, 1, a0⟩ :: R_)), K0 zE102 = res → PX Tryz.prog 0 S (retPost Tryz.prog [(2, none)] (RF187x R_ res)) [(3, a1)] h) :
  ∀ {m : Nat} {a6 : Int} {zE102 : List UInt8} {a0 : List PV} {a1 : PV} (a3 : All2 tU8.R zE102 a0) (a5 : isL a1 = true) (a2 : Wri a1 a0) (a4 : zE102.length ≤ 4611686018427387904) (c0 : m = Int.toNat ((x0.length : Int) - a6)) (b3 : 0 ≤ a6) (a9 : (zE102.length : Int) ≤ 1048576 * a6) {h : Heap} (M0 : Mem h (⟨a1, 5, 1, a0⟩ :: R_)), jn x0 K0 m a6 zE102 = res → RC Tryz.prog (.loop as7) S (retPost Tryz.prog [(2, none)] (RF187x R_ res)) [(8, vi a6), (7, vi (x0.length : Int)), (6, v0), (3, a1)] h := by
 have hb' := hb
 try simp only [qa] at hb'
 have hc' := hc
 try simp only [qa] at hc'
 intro m
 induction m with
 | zero =>
  intro a6 zE102 a0 a1 a3 a5 a2 a4 c0 b3 a9 h M0 s
  rw [jn] at s
  refine ct (sR (bN cz rfl rfl (nS (aq ?_))))
  refine cj rfl ?_ ?_ <;> intro c <;> try simp only [qa] at c
  ·omega
  refine ft (gk (ej ?_))
  exact wP (c4 a3 a5 a2 a4 (Mem.sub M0 (.cons_cons _ (List.Sublist.refl R_))) s) rfl
 | succ m ih =>
  intro a6 zE102 a0 a1 a3 a5 a2 a4 c0 b3 a9 h M0 s
  rw [jn] at s
  refine ct (sR (bN cz rfl rfl (nS (aq ?_))))
  refine cj rfl ?_ ?_ <;> intro c <;> try simp only [qa] at c
  rotate_left
  ·omega
  refine bb (am (aq (br (sR ?_))))
  obtain ⟨c2, b7, b2⟩ := dt (i := a6) r0 (by omega) (by omega)
  refine ab (bh rfl rfl b7) (lD b2 rfl rfl rfl (mV rfl (nS (ax (mV rfl (mV rfl ?_))))))
  obtain ⟨a7, b1, a8⟩ := ol (t := tU8) (h := h) b2
  have b6 : fits (a0.length + a7.length) 1 = true := by rw [All2.length_eq a3, All2.length_eq a8]; (try simp only [List.length_cons, List.length_nil]); exact lr (by (have hk := pk hb (i := a6) (by omega) (by omega); omega)) (by (have hk := pk hb (i := a6) (by omega) (by omega); omega))
  refine nj (k := 0) (es := a0) (news := a7) M0 rfl rfl rfl a5 a2 b1 b6 (fun c1 c3 b8 b0 b9 => ?_)
  have b5 : All2 tU8.R (zE102 ++ (ix x0 a6)) (a0 ++ a7) := All2.app a3 a8
  have b4 : (zE102 ++ (ix x0 a6)).length ≤ 4611686018427387904 := by rw [← All2.length_eq b5, List.length_append]; exact lm b6
  refine mV rfl (bp (de (am (ax (bN gm rfl rfl (mV rfl (bp (di ?_))))))))
  have hbd := ee r0
  have hinc : wr (a6 + 1) = a6 + 1 := gb (by omega) (by omega)
  erw [hinc]
  exact wC (ih  b5 b8 b0 b4 (by omega) (by omega) (by (have hk := pk hb (i := a6) (by omega) (by omega); simp only [List.length_append]; omega)) (Mem.sub b9 (.cons_cons _ (List.Sublist.refl R_))) s) rfl

theorem cd0 {x0 : List (List UInt8)} {v0 : PV} {R_ : List Ent} {h_ : Heap} (r0 : (tSl (tSl tU8)).R x0 v0) (M_ : Mem h_ (R_)) (hb : ∀ l ∈ x0, l.length ≤ 1048576) (hc : x0.length ≤ 1) : ∃ r b1, FnX Tryz.prog 187 [v0] h_ r b1 ∧ RF187x R_ (nl x0) r b1 := by
 obtain ⟨res, s⟩ : ∃ res, nl x0 = res := ⟨_, rfl⟩
 suffices H : RC Tryz.prog bx6 [] (retPost Tryz.prog [(2, none)] (RF187x R_ res)) (argE 0 [v0]) h_ by
  rw [s]
  exact fnX an9 (by simp) H
 unfold nl at s
 refine sR (ab (v := nilS) (au rfl) (nR (ab (v := nilS) (au rfl) (nS (aq (sR (mV rfl (ab (cy rfl (cm r0 Tryz.underlying259 _)) ?_))))))))
 refine mI rfl (nS (br ?_))
 have a8 := nm (sz := 1) (es := []) M_ 5 (.inl ⟨none, rfl, rfl⟩) (by simp)
 refine wC (uw r0 hb hc ?_  aL rfl (.inl rfl) (by decide) rfl (by omega) (by simp) (Mem.sub a8 (.cons_cons _ (List.Sublist.refl R_))) s) rfl
 ·intro a6 a0 a1 a5 a4 a2 a3 a9 b0 s
  refine gw (am (sR (mV rfl (mV rfl (nS ?_)))))
  have a7 : Mem a9 (⟨a1, 5, 1, a0⟩ :: R_) := (Mem.front (k := 0) b0 rfl)
  subst s
  exact ji (.tmp rfl .nil) ⟨a1, a0, Mem.sub a7 (.cons_cons _ (List.Sublist.refl R_)), a5, a4, a3, a2, rfl⟩

end Go.Proofs.YtmonnlkagniolaaGreat
