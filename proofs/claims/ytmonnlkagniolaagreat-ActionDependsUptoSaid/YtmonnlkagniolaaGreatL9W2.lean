/-
 The code of each function does what its plain program says.
-/
import Derived.Test.YtmonnlkagniolaaGreatL9W1
set_option linter.unusedVariables false
set_option linter.unusedSimpArgs false
set_option maxRecDepth 100000
namespace Go.Proofs.YtmonnlkagniolaaGreat
open Go Go.Pb Go.RowKit
def RF287 (res : Int × Int) (r : PV) : Prop := r = .tup [vi res.1, vi res.2]
theorem zy {x0 : Int} : FnR Tryz.prog 287 [vi x0] (.tup [vi ((pt x0).1), vi ((pt x0).2)]) := by
 refine fnS (R := RF287) bc8 (fun _ h => h) rfl fun res s => ?_
 unfold pt at s
 refine sR (mI rfl (mI rfl (nS (aq (sR (mV rfl (bN cz rfl rfl (mV rfl ?_))))))))
 refine cn 3 (d := 9) (v := vb ((decide (x0 < 1)) || (decide (32 < x0)))) ?_ ?_
 ·intro S Q r
  cases a1 : (decide (x0 < 1))
  ·intro k
   have a0 := a1
   try simp only [qa] at a0
   refine ah rfl rfl (au rfl) (ah rfl rfl (bz rfl rfl nu) ?_)
   exact gK rfl rfl rfl rfl rfl k
  ·exact gN 2 rfl rfl rfl rfl rfl rfl
 refine nS ?_
 refine ci s rfl ?_ ?_ <;> clear s <;> intro c s <;> try simp only [qa] at c
 ·refine sR (mI rfl (mI rfl (nS ?_)))
  exact rT s rfl rfl rfl rfl rfl
 ·refine bb (am (sR (mV rfl (mV rfl (mI rfl (nS ?_))))))
  exact rT s rfl rfl rfl rfl rfl

def RF181 (res : Bool) (r : PV) : Prop := r = vb res
theorem wx {S : List Fr} {res : Bool} {x0 : List Int} {v0 : PV} (r0 : (tSl tI).R x0 v0) {K0 : Unit → Bool}
  (a5 : K0 () = res → PX Tryz.prog 0 S (QR Tryz.prog [(2, none)] (RF181 res)) [] ⟨0, []⟩) :
  ∀ {m : Nat} {a0 : Int} (a4 : m = Int.toNat ((x0.length : Int) - a0)) (a3 : 0 ≤ a0), gq x0 K0 m a0 = res → RC Tryz.prog (.loop bv3) S (QR Tryz.prog [(2, none)] (RF181 res)) [(7, vi a0), (6, vi (x0.length : Int)), (5, v0)] ⟨0, []⟩ := by
 intro m
 induction m with
 | zero =>
  intro a0 a4 a3 s
  rw [gq] at s
  refine ct (sR (bN cz rfl rfl (nS (aq ?_))))
  refine cj rfl ?_ ?_ <;> intro c <;> try simp only [qa] at c
  ·omega
  refine ft (gk (ej ?_))
  exact wP (a5  s) rfl
 | succ m ih =>
  intro a0 a4 a3 s
  rw [gq] at s
  refine ct (sR (bN cz rfl rfl (nS (aq ?_))))
  refine cj rfl ?_ ?_ <;> intro c <;> try simp only [qa] at c
  rotate_left
  ·omega
  refine bb (am (aq (br (sR (ab (bh rfl rfl (slI r0 (by omega) (by omega))) (lR rfl rfl rfl (mV rfl (nR ?_))))))))
  refine mV rfl (bN cz rfl rfl (mV rfl ?_))
  refine cn 3 (d := 16) (v := vb ((decide ((ix x0 a0) < 1)) || (decide (32 < (ix x0 a0))))) ?_ ?_
  ·intro S Q r
   cases a2 : (decide ((ix x0 a0) < 1))
   ·intro k
    have a1 := a2
    try simp only [qa] at a1
    refine ah rfl rfl (au rfl) (ah rfl rfl (bz rfl rfl nu) ?_)
    exact gK rfl rfl rfl rfl rfl k
   ·exact gN 2 rfl rfl rfl rfl rfl rfl
  refine nS ?_
  refine ci s rfl ?_ ?_ <;> clear s <;> intro c s <;> try simp only [qa] at c
  ·refine sR (mB rfl (nS ?_))
   exact rR s rfl rfl rfl
  ·refine bb (de (am (ax (bN gm rfl rfl (mV rfl (bp (di ?_)))))))
   have hbd := ee r0
   have hinc : wr (a0 + 1) = a0 + 1 := gb (by omega) (by omega)
   erw [hinc]
   exact wC (ih   (by omega) (by omega) s) rfl

theorem ae1 {x0 : List Int} {v0 : PV} (r0 : (tSl tI).R x0 v0) : FnR Tryz.prog 181 [v0] (vb (jg x0)) := by
 refine fnS (R := RF181) bl4 (fun _ h => h) rfl fun res s => ?_
 unfold jg at s
 refine sR (mB rfl (nS (aq (sR (mV rfl (ab (cy rfl (cm r0 Tryz.underlying29 _)) (mI rfl (nS ?_))))))))
 refine br ?_
 refine wC (wx r0 ?_  rfl (by omega) s) rfl
 ·intro  s
  refine gw (am (sR (mB rfl (nS ?_))))
  exact rR s rfl rfl rfl

def RF182 (res : (BitVec 32)) (r : PV) : Prop := r = bm res
theorem lc {x0 : Int} : FnR Tryz.prog 182 [vi x0] (bm (ck x0)) := by
 refine fnS (R := RF182) bg5 (fun _ h => h) rfl fun res s => ?_
 unfold ck at s
 refine sR (ab (v := bm 0#32) (au rfl) (nS (aq (sR (mV rfl (ab (v := .fs true [vi x0]) (jh rfl (all_cons rfl lw)) ?_))))))
 have a1 : (tSl tI).R ([x0] : List Int) (.fs true [vi x0]) := qw ⟨rfl, trivial⟩ (by simp)
 obtain ⟨a3, a0, s⟩ := bn s
 have a2 := ae1  a1 
 rw [a0] at a2
 refine cL a2 rfl rfl (ai (TR.clo (tSl tI) a1) bg) (ab (ks rfl) (nS ?_))
 refine ci s rfl ?_ ?_ <;> clear s <;> intro c s <;> try simp only [qa] at c
 ·refine sR (ab (v := bm 0#32) (au rfl) (nS ?_))
  exact rR s rfl rfl rfl
 ·refine bb (am (sR (mV rfl (bN ai6 rfl rfl (ab (bz (a := bm 4294967295#32) (b := vi (wr (32 - x0))) rfl rfl (bu9 (by exact ct2 (by assumption) (by assumption)))) (mV rfl (nS ?_)))))))
  exact rR s rfl rfl rfl

def RF288 (res : ay × Bool) (r : PV) : Prop := ∃ c0, r = .tup [c0, vb res.2] ∧ ay.t.R res.1 c0
theorem cl2 {x0 : bd} {x1 x2 : Int} {v0 : PV} (r0 : bd.t.R x0 v0) : ∃ c0, FnR Tryz.prog 288 [v0, vi x1, vi x2] (.tup [c0, vb ((mq x0 x1 x2).2)]) ∧ ay.t.R (mq x0 x1 x2).1 c0 := by
 obtain ⟨res, s⟩ : ∃ res, mq x0 x1 x2 = res := ⟨_, rfl⟩
 suffices H : RC Tryz.prog cx7 [] (QR Tryz.prog [(6, some (2, true)), (7, none)] (RF288 res)) (argE 0 [v0, vi x1, vi x2]) ⟨0, []⟩ by
  rw [s]
  obtain ⟨r, h1, c0, rfl, d9⟩ := fnE bn7 (by simp) H
  exact ⟨c0, h1, d9⟩
 unfold mq at s
 refine sR (ab (dq rfl (TR.cnt bd.t r0)) ?_)
 refine dz (x := .agg [vs [], vi 0]) (Mem.nil ⟨0, []⟩) rfl rfl (fun a7 a4 e4 a8 => ?_)
 refine mB rfl (nR ?_)
 obtain ⟨e5, d4, b9⟩ := bd.g_Program r0
 refine fA rfl d4 (gL (ae.g_Metadata b9) rfl rfl rfl fun d7 d1 => (mV rfl (nS (aq (sR (mV rfl (bN (mw (b := -1)) rfl rfl (nS ?_))))))))
 obtain ⟨d6, b8, s⟩ := bn s
 refine po (F := fun b S Q => ∀ (a0 : List ay) (a2 : PV) (a1 : (tSl ay.t).R a0 a2) (a5 : Heap) (a6 : Mem a5 [⟨.op a7 a4 0, 166, 2, [.agg [vs [], vi 0]]⟩]), d6 a0 = res → RC Tryz.prog b S Q [(8, a2), (6, .op a7 a4 0), (2, vi x2)] a5) ?_ ?_
 ·intro a0 a2 a1 a5 a6 s
  rw [← b8] at s
  refine aq (sR (mV rfl (bN cz rfl rfl (mV rfl ?_))))
  refine cn 5 (d := 39) (v := vb ((decide (x2 < 0)) || (decide ((a0.length : Int) ≤ x2)))) ?_ ?_
  ·intro S Q r
   cases b7 : (decide (x2 < 0))
   ·intro k
    have b5 := b7
    try simp only [qa] at b5
    refine ah rfl rfl (au rfl) (ah rfl rfl (au rfl) (ah rfl rfl (cy rfl (cm a1 Tryz.underlying23 _)) (ah rfl rfl (bz rfl rfl mc) ?_)))
    exact gK rfl rfl rfl rfl rfl k
   ·exact gN 4 rfl rfl rfl rfl rfl rfl
  refine nS ?_
  refine ci s rfl ?_ ?_ <;> clear s <;> intro c s <;> try simp only [qa] at c
  ·refine sR (ab (v := .agg [vs [], vi 0]) (fu (cs := [vs [], vi 0]) rfl rfl) ?_)
   refine cw (k := 0) (v := .agg [vs [], vi 0]) a6 rfl rfl rfl rfl (fun c7 b1 => ?_)
   replace b1 : Mem c7 [⟨.op a7 a4 0, 166, 2, [.agg [vs [], vi 0]]⟩] := b1
   refine mB rfl (nS ?_)
   subst s
   exact fy (.cell rfl (dn (k := 0) b1 rfl rfl) (.tmp rfl .nil)) (cv (show closed (.tup _) = true from (ai (TR.clo ay.t (show ay.t.R ({ Name := ([] : List UInt8), Width := 0 } : ay) (.agg [vs [], vi 0]) from rfl)) (ai rfl bg)))) ⟨.agg [vs [], vi 0], rfl, rfl⟩
  ·refine bb (am (sR (mV rfl (mV rfl ?_))))
   obtain ⟨b3, c8, a3⟩ := dt (i := x2) a1 (by omega) (by omega)
   refine ab (bh rfl rfl c8) (lD a3 rfl rfl rfl ?_)
   refine cw (k := 0) (v := b3) a6 rfl rfl rfl (TR.cnt ay.t a3) (fun c9 b0 => ?_)
   replace b0 : Mem c9 [⟨.op a7 a4 0, 166, 2, [b3]⟩] := b0
   refine mB rfl (nS ?_)
   subst s
   exact fy (.cell rfl (dn (k := 0) b0 rfl (TR.agg ay.t a3)) (.tmp rfl .nil)) (cv (show closed (.tup _) = true from (ai (TR.clo ay.t a3) (ai rfl bg)))) ⟨b3, rfl, a3⟩
 ·intro J
  refine ci s rfl ?_ ?_ <;> clear s <;> intro c s <;> try simp only [qa] at c
  ·refine aq (sR (mV rfl (bN cz rfl rfl (mV rfl ?_))))
   refine cn 7 (d := 23) (v := vb ((decide (x1 < 0)) || (decide ((x0.Program.Headers.length : Int) ≤ x1)))) ?_ ?_
   ·intro S Q r
    cases b6 : (decide (x1 < 0))
    ·intro k
     have b4 := b6
     try simp only [qa] at b4
     refine ah rfl rfl (au rfl) ?_
     obtain ⟨e1, c4, d2⟩ := bd.g_Program r0
     refine ah rfl rfl (cd rfl c4) ?_
     obtain ⟨e3, c2, b2⟩ := ae.g_Headers d2
     refine ah rfl rfl (cd rfl c2) (ah rfl rfl (ca rfl (TR.cnt (tSl co.t) b2) (TR.agg (tSl co.t) b2)) (ah rfl rfl (cy rfl (cm b2 Tryz.underlying22 _)) (ah rfl rfl (bz rfl rfl mc) ?_)))
     exact gK rfl rfl rfl rfl rfl k
    ·exact gN 6 rfl rfl rfl rfl rfl rfl
   refine nS ?_
   refine ci s rfl ?_ ?_ <;> clear s <;> intro c s <;> try simp only [qa] at c
   ·refine sR (ab (v := .agg [vs [], vi 0]) (fu (cs := [vs [], vi 0]) rfl rfl) ?_)
    refine cw (k := 0) (v := .agg [vs [], vi 0]) a8 rfl rfl rfl rfl (fun d3 a9 => ?_)
    replace a9 : Mem d3 [⟨.op a7 a4 0, 166, 2, [.agg [vs [], vi 0]]⟩] := a9
    refine mB rfl (nS ?_)
    subst s
    exact fy (.cell rfl (dn (k := 0) a9 rfl rfl) (.tmp rfl .nil)) (cv (show closed (.tup _) = true from (ai (TR.clo ay.t (show ay.t.R ({ Name := ([] : List UInt8), Width := 0 } : ay) (.agg [vs [], vi 0]) from rfl)) (ai rfl bg)))) ⟨.agg [vs [], vi 0], rfl, rfl⟩
   ·refine bb (am (ax ?_))
    obtain ⟨e6, d0, c6⟩ := bd.g_Program r0
    refine fA rfl d0 (gL (ae.g_Headers c6) rfl rfl rfl fun e7 c3 => (mV rfl ?_))
    obtain ⟨d8, d5, c5⟩ := dt (i := x1) c3 (by omega) (by omega)
    refine ab (bh rfl rfl d5) (gL (co.g_Fields c5) rfl rfl rfl fun e2 c1 => (mV rfl (bp ?_)))
    refine am (wC (J _ _ c1 _ (Mem.sub a8 (.cons_cons _ .slnil)) s) rfl)
  ·refine bb ?_
   refine am (wC (J _ _ d1 _ (Mem.sub a8 (.cons_cons _ .slnil)) s) rfl)

def RF268 (res : Int × Int) (r : PV) : Prop := r = .tup [vi res.1, vi res.2]
theorem bm1 {x0 : bd} {x1 : af} {v0 v1 : PV} (r0 : bd.t.R x0 v0) (r1 : af.t.R x1 v1) : FnR Tryz.prog 268 [v0, v1] (.tup [vi ((fh x0 x1).1), vi ((fh x0 x1).2)]) := by
 refine fnS (R := RF268) be5 (fun _ h => h) rfl fun res s => ?_
 unfold fh at s
 refine sR (ab (dq rfl (TR.cnt bd.t r0)) (ab (dq rfl (TR.cnt af.t r1)) (mI rfl (mI rfl (nS (aq (sR (fL rfl (af.g_Op r1) rfl rfl ?_))))))))
 refine nS (br (sR (bN fe rfl rfl (mV rfl (nS ?_)))))
 refine ci s rfl ?_ ?_ <;> clear s <;> intro c s <;> try simp only [qa] at c
 ·refine sR (fL rfl (af.g_W r1) rfl rfl ?_)
  obtain ⟨a0, a9, s⟩ := bn s
  have c1 := zy (x0 := x1.W)  
  rw [a9] at c1
  refine cL c1 rfl rfl (ai rfl bg) (mV rfl (xT rfl rfl (xT rfl rfl (mV rfl (mV rfl (nS (aq (sR ?_))))))))
  refine mV rfl (bN fe rfl rfl (mV rfl ?_))
  refine cn 12 (d := 34) (v := vb ((decide (a0.2 = 0)) && ((decide (x1.N < 0)) || (decide (((ck a0.1).toNat : Int) < x1.N))))) ?_ ?_
  ·intro S Q r
   cases b0 : (decide (a0.2 = 0))
   ·exact gN 11 rfl rfl rfl rfl rfl rfl
   ·intro k
    have a3 := b0
    try simp only [qa] at a3
    refine ah rfl rfl (cd rfl (af.g_N r1)) (ah rfl rfl (ca rfl rfl rfl) (ah rfl rfl (bz rfl rfl cz) (ah rfl rfl (au rfl) ?_)))
    refine cn 7 (d := 33) (v := vb ((decide (x1.N < 0)) || (decide (((ck a0.1).toNat : Int) < x1.N)))) ?_ ?_
    ·intro S Q r
     cases c0 : (decide (x1.N < 0))
     ·intro k
      have a2 := c0
      try simp only [qa] at a2
      refine ah rfl rfl (cd rfl (af.g_N r1)) (ah rfl rfl (ca rfl rfl rfl) (ah rfl rfl (au rfl) ?_))
      have d3 := lc (x0 := a0.1)  
      refine mb rfl rfl (si rfl rfl (ai rfl bg) d3) (ah rfl rfl (yl (a := bm (ck a0.1)) rfl (c_wi Tryz.underlying89 Tryz.underlying3)) (ah rfl rfl (bz rfl rfl nu) (ah (v := vb (decide (((ck a0.1).toNat : Int) < x1.N))) rfl rfl (qx rfl rfl rfl rfl) ?_)))
      exact wD k rfl
     ·intro k
      refine qc rfl rfl (qc rfl rfl (qc rfl rfl (qc rfl rfl (qc rfl rfl (qc rfl rfl (ah (v := vb true) rfl rfl (qx rfl rfl rfl rfl) ?_))))))
      exact wD k rfl
    exact gK rfl rfl rfl rfl rfl k
  refine nS ?_
  refine ci s rfl ?_ ?_ <;> clear s <;> intro c s <;> try simp only [qa] at c
  ·refine sR (mI rfl (mI rfl (nS ?_)))
   exact rT s rfl rfl rfl rfl rfl
  ·refine bb (am (sR (mV rfl (mV rfl (mV rfl (mV rfl (nS ?_)))))))
   exact rT s rfl rfl rfl rfl rfl
 ·refine sR (bN fe rfl rfl (mV rfl (nS ?_)))
  refine ci s rfl ?_ ?_ <;> clear s <;> intro c s <;> try simp only [qa] at c
  ·refine sR (lD r0 rfl rfl rfl (fL rfl (af.g_N r1) rfl rfl (fL rfl (af.g_W r1) rfl rfl ?_)))
   obtain ⟨c2, b1, s⟩ := bn s
   obtain ⟨b7, b8, a6⟩ := cl2 (x1 := x1.N) (x2 := x1.W) r0 
   rw [b1] at b8 a6
   refine cL b8 rfl rfl (ai (TR.clo bd.t r0) (ai rfl (ai rfl bg))) (mV rfl (xT rfl rfl (xT rfl rfl ?_)))
   refine dz (x := .agg [vs [], vi 0]) (Mem.nil ⟨0, []⟩) rfl rfl (fun d0 d2 d7 c8 => ?_)
   refine cw (k := 0) (v := b7) c8 rfl rfl rfl (TR.cnt ay.t a6) (fun c3 a1 => ?_)
   replace a1 : Mem c3 [⟨.op d0 d2 0, 166, 2, [b7]⟩] := a1
   refine mV rfl (nS (aq (sR (mV rfl (ab (ks rfl) (nS ?_))))))
   refine ci s rfl ?_ ?_ <;> clear s <;> intro c s <;> try simp only [qa] at c
   ·refine sR (mI rfl (mI rfl (nS ?_)))
    exact rT s rfl rfl rfl rfl rfl
   ·refine bb (am (sR (ab (bf rfl) (ab (cg (k := 0) a1 rfl rfl (ay.g_Width a6)) ?_))))
    obtain ⟨d5, b5, s⟩ := bn s
    have b2 := zy (x0 := c2.1.Width)  
    rw [b5] at b2
    refine cL b2 rfl rfl (ai rfl bg) (xT rfl rfl (xT rfl rfl (mV rfl (mV rfl (nS ?_)))))
    exact rT s rfl rfl rfl rfl rfl
  ·refine sR (bN fe rfl rfl (mV rfl (nS ?_)))
   refine ci s rfl ?_ ?_ <;> clear s <;> intro c s <;> try simp only [qa] at c
   ·refine aq (sR (fL rfl (af.g_N r1) rfl rfl (bN cz rfl rfl (mV rfl ?_))))
    refine cn 7 (d := 67) (v := vb ((decide (x1.N < 0)) || (decide ((x0.Params.length : Int) ≤ x1.N)))) ?_ ?_
    ·intro S Q r
     cases b6 : (decide (x1.N < 0))
     ·intro k
      have a8 := b6
      try simp only [qa] at a8
      refine ah rfl rfl (cd rfl (af.g_N r1)) (ah rfl rfl (ca rfl rfl rfl) ?_)
      obtain ⟨d6, d4, a4⟩ := bd.g_Params r0
      refine ah rfl rfl (cd rfl d4) (ah rfl rfl (ca rfl (TR.cnt (tSl ay.t) a4) (TR.agg (tSl ay.t) a4)) (ah rfl rfl (cy rfl (cm a4 Tryz.underlying23 _)) (ah rfl rfl (bz rfl rfl mc) ?_)))
      exact gK rfl rfl rfl rfl rfl k
     ·exact gN 6 rfl rfl rfl rfl rfl rfl
    refine nS ?_
    refine ci s rfl ?_ ?_ <;> clear s <;> intro c s <;> try simp only [qa] at c
    ·refine sR (mI rfl (mI rfl (nS ?_)))
     exact rT s rfl rfl rfl rfl rfl
    ·refine bb (am (sR (gL (bd.g_Params r0) rfl rfl rfl fun e2 c4 => (fL rfl (af.g_N r1) rfl rfl ?_))))
     obtain ⟨e1, c9, c7⟩ := dt (i := x1.N) c4 (by omega) (by omega)
     refine ab (bh rfl rfl c9) (fL rfl (ay.g_Width c7) rfl rfl ?_)
     obtain ⟨e3, b9, s⟩ := bn s
     have b4 := zy (x0 := (ix x0.Params x1.N).Width)  
     rw [b9] at b4
     refine cL b4 rfl rfl (ai rfl bg) (xT rfl rfl (xT rfl rfl (mV rfl (mV rfl (nS ?_)))))
     exact rT s rfl rfl rfl rfl rfl
   ·refine bb (de (am (aq (sR (fL rfl (af.g_N r1) rfl rfl (bN cz rfl rfl (mV rfl ?_)))))))
    refine cn 8 (d := 89) (v := vb ((decide (x1.N < 0)) || (decide ((x0.Program.Headers.length : Int) ≤ x1.N)))) ?_ ?_
    ·intro S Q r
     cases b3 : (decide (x1.N < 0))
     ·intro k
      have a7 := b3
      try simp only [qa] at a7
      refine ah rfl rfl (cd rfl (af.g_N r1)) (ah rfl rfl (ca rfl rfl rfl) ?_)
      obtain ⟨d8, c6, d1⟩ := bd.g_Program r0
      refine ah rfl rfl (cd rfl c6) ?_
      obtain ⟨d9, c5, a5⟩ := ae.g_Headers d1
      refine ah rfl rfl (cd rfl c5) (ah rfl rfl (ca rfl (TR.cnt (tSl co.t) a5) (TR.agg (tSl co.t) a5)) (ah rfl rfl (cy rfl (cm a5 Tryz.underlying22 _)) (ah rfl rfl (bz rfl rfl mc) ?_)))
      exact gK rfl rfl rfl rfl rfl k
     ·exact gN 7 rfl rfl rfl rfl rfl rfl
    refine nS ?_
    refine ci s rfl ?_ ?_ <;> clear s <;> intro c s <;> try simp only [qa] at c
    ·refine sR (mI rfl (mI rfl (nS ?_)))
     exact rT s rfl rfl rfl rfl rfl
    ·refine bb (am (sR (mI rfl (mI rfl (nS ?_)))))
     exact rT s rfl rfl rfl rfl rfl

def RF269 (res : Int × Int) (r : PV) : Prop := r = .tup [vi res.1, vi res.2]
theorem ct4 {x0 : af} {x1 : List Int} {v0 v1 : PV} (r0 : af.t.R x0 v0) (r1 : (tAr 3 tI).R x1 v1) : FnR Tryz.prog 269 [v0, v1] (.tup [vi ((lb x0 x1).1), vi ((lb x0 x1).2)]) := by
 refine fnS (R := RF269) bo0 (fun _ h => h) rfl fun res s => ?_
 unfold lb at s
 refine sR (ab (dq rfl (TR.cnt af.t r0)) (ab (dq rfl (TR.cnt (tAr 3 tI) r1)) (mI rfl (mI rfl (nS (aq (sR (fL rfl (af.g_Op r0) rfl rfl ?_))))))))
 refine nS (br (aq (sR (bN fe rfl rfl (mV rfl (nS ?_))))))
 obtain ⟨g0, d9, s⟩ := bn s
 refine po (F := fun b S Q => ∀ (a0 : Bool), g0 a0 = res → RC Tryz.prog b S Q [(10, vb a0), (9, vi x0.Op), (3, .fp v1), (2, .fp v0)] ⟨0, []⟩) ?_ ?_
 ·intro a0  s
  rw [← d9] at s
  refine ci s rfl ?_ ?_ <;> clear s <;> intro c s <;> try simp only [qa] at c
  ·refine sR (fL rfl (af.g_N r0) rfl rfl (bN cz rfl rfl (mV rfl ?_)))
   refine cn 4 (d := 20) (v := vb ((decide (x0.N < 0)) || (decide (31 < x0.N)))) ?_ ?_
   ·intro S Q r
    cases d1 : (decide (x0.N < 0))
    ·intro k
     have a4 := d1
     try simp only [qa] at a4
     refine ah rfl rfl (cd rfl (af.g_N r0)) (ah rfl rfl (ca rfl rfl rfl) (ah rfl rfl (bz rfl rfl nu) ?_))
     exact gK rfl rfl rfl rfl rfl k
    ·exact gN 3 rfl rfl rfl rfl rfl rfl
   refine nS ?_
   refine ci s rfl ?_ ?_ <;> clear s <;> intro c s <;> try simp only [qa] at c
   ·refine sR (mI rfl (mI rfl (nS ?_)))
    exact rT s rfl rfl rfl rfl rfl
   ·refine bb (de (am (aq (sR (fL rfl (af.g_Op r0) rfl rfl ?_)))))
    obtain ⟨c6, c2, s⟩ := bn s
    have d4 := ad2 (x0 := x0.Op)  
    rw [c2] at d4
    refine cL d4 rfl rfl (ai rfl bg) (bN fe rfl rfl (mV rfl ?_))
    refine cn 6 (d := 80) (v := vb ((decide (c6 = 2)) && (!decide ((ix x1 0) = (ix x1 1))))) ?_ ?_
    ·intro S Q r
     cases d2 : (decide (c6 = 2))
     ·exact gN 5 rfl rfl rfl rfl rfl rfl
     ·intro k
      have b1 := d2
      try simp only [qa] at b1
      obtain ⟨e3, g3, a3⟩ := nr (t := tI) r1 (i := 0) (by omega) (by omega)
      have a3 : e3 = vi (ix x1 0) := a3; subst a3
      refine ah rfl rfl (mj rfl rfl g3) (ah rfl rfl (ca rfl rfl rfl) ?_)
      obtain ⟨f0, e9, a7⟩ := nr (t := tI) r1 (i := 1) (by omega) (by omega)
      have a7 : f0 = vi (ix x1 1) := a7; subst a7
      refine ah rfl rfl (mj rfl rfl e9) (ah rfl rfl (ca rfl rfl rfl) (ah rfl rfl (bz rfl rfl mw) ?_))
      exact gK rfl rfl rfl rfl rfl k
    refine nS ?_
    refine ci s rfl ?_ ?_ <;> clear s <;> intro c s <;> try simp only [qa] at c
    ·refine sR (mI rfl (mI rfl (nS ?_)))
     exact rT s rfl rfl rfl rfl rfl
    ·refine bb (am (aq (sR (fL rfl (af.g_Op r0) rfl rfl (bN fe rfl rfl (mV rfl ?_))))))
     refine cn 4 (d := 88) (v := vb ((decide (x0.Op = 15)) || (decide (x0.Op = 16)))) ?_ ?_
     ·intro S Q r
      cases c8 : (decide (x0.Op = 15))
      ·intro k
       have b9 := c8
       try simp only [qa] at b9
       refine ah rfl rfl (cd rfl (af.g_Op r0)) (ah rfl rfl (ca rfl rfl rfl) (ah rfl rfl (bz rfl rfl fe) ?_))
       exact gK rfl rfl rfl rfl rfl k
      ·exact gN 3 rfl rfl rfl rfl rfl rfl
     refine nS ?_
     refine ci s rfl ?_ ?_ <;> clear s <;> intro c s <;> try simp only [qa] at c
     ·refine sR (mI rfl (mI rfl (nS ?_)))
      exact rT s rfl rfl rfl rfl rfl
     ·refine bb (am (sR ?_))
      obtain ⟨f4, f9, b3⟩ := nr (t := tI) r1 (i := 0) (by omega) (by omega)
      have b3 : f4 = vi (ix x1 0) := b3; subst b3
      refine ab (mj rfl rfl f9) (lR rfl rfl rfl (mV rfl (mI rfl (nS ?_))))
      exact rT s rfl rfl rfl rfl rfl
  ·refine sR (bN fe rfl rfl (mV rfl (nS ?_)))
   refine ci s rfl ?_ ?_ <;> clear s <;> intro c s <;> try simp only [qa] at c
   ·refine aq (sR (fL rfl (af.g_N r0) rfl rfl (bN cz rfl rfl (nS ?_))))
    refine ci s rfl ?_ ?_ <;> clear s <;> intro c s <;> try simp only [qa] at c
    ·refine sR (mI rfl (mI rfl (nS ?_)))
     exact rT s rfl rfl rfl rfl rfl
    ·refine bb (am (aq (sR (fL rfl (af.g_W r0) rfl rfl ?_))))
     obtain ⟨c5, c9, s⟩ := bn s
     have c3 := zy (x0 := x0.W)  
     rw [c9] at c3
     refine cL c3 rfl rfl (ai rfl bg) (mV rfl (xT rfl rfl (xT rfl rfl (mV rfl (mV rfl (nR (mV rfl (bN mw rfl rfl ?_))))))))
     refine mV rfl ?_
     refine cn 9 (d := 43) (v := vb ((!decide (c5.2 = 0)) || (decide ((wr ((ix x1 0) - x0.W)) < x0.N)))) ?_ ?_
     ·intro S Q r
      cases d3 : (!decide (c5.2 = 0))
      ·intro k
       have b5 := d3
       try simp only [qa] at b5
       refine ah rfl rfl (cd rfl (af.g_N r0)) (ah rfl rfl (ca rfl rfl rfl) ?_)
       obtain ⟨g1, e4, b7⟩ := nr (t := tI) r1 (i := 0) (by omega) (by omega)
       have b7 : g1 = vi (ix x1 0) := b7; subst b7
       refine ah rfl rfl (mj rfl rfl e4) (ah rfl rfl (ca rfl rfl rfl) (ah rfl rfl (cd rfl (af.g_W r0)) (ah rfl rfl (ca rfl rfl rfl) (ah rfl rfl (bz rfl rfl ai6) (ah rfl rfl (bz rfl rfl nu) ?_)))))
       exact gK rfl rfl rfl rfl rfl k
      ·exact gN 8 rfl rfl rfl rfl rfl rfl
     refine nS ?_
     refine ci s rfl ?_ ?_ <;> clear s <;> intro c s <;> try simp only [qa] at c
     ·refine sR (mI rfl (mI rfl (nS ?_)))
      exact rT s rfl rfl rfl rfl rfl
     ·refine bb (am (sR (fL rfl (af.g_W r0) rfl rfl (mV rfl (mI rfl (nS ?_))))))
      exact rT s rfl rfl rfl rfl rfl
   ·refine sR (bN fe rfl rfl (mV rfl (nS ?_)))
    refine ci s rfl ?_ ?_ <;> clear s <;> intro c s <;> try simp only [qa] at c
    ·refine sR ?_
     obtain ⟨f3, f5, c0⟩ := nr (t := tI) r1 (i := 0) (by omega) (by omega)
     have c0 : f3 = vi (ix x1 0) := c0; subst c0
     refine ab (mj rfl rfl f5) (lR rfl rfl rfl ?_)
     obtain ⟨e7, e6, a6⟩ := nr (t := tI) r1 (i := 1) (by omega) (by omega)
     have a6 : e7 = vi (ix x1 1) := a6; subst a6
     refine ab (mj rfl rfl e6) (lR rfl rfl rfl (bN gm rfl rfl ?_))
     obtain ⟨g8, d5, s⟩ := bn s
     have d7 := zy (x0 := (wr ((ix x1 0) + (ix x1 1))))  
     rw [d5] at d7
     refine cL d7 rfl rfl (ai rfl bg) (xT rfl rfl (xT rfl rfl (mV rfl (mV rfl (nS ?_)))))
     exact rT s rfl rfl rfl rfl rfl
    ·refine sR (bN fe rfl rfl (mV rfl (nS ?_)))
     refine ci s rfl ?_ ?_ <;> clear s <;> intro c s <;> try simp only [qa] at c
     ·refine aq (sR ?_)
      obtain ⟨f1, e1, a2⟩ := nr (t := tI) r1 (i := 0) (by omega) (by omega)
      have a2 : f1 = vi (ix x1 0) := a2; subst a2
      refine ab (mj rfl rfl e1) (lR rfl rfl rfl (bN mw rfl rfl (mV rfl ?_)))
      refine cn 6 (d := 67) (v := vb ((!decide ((ix x1 0) = 1)) || (!decide ((ix x1 1) = (ix x1 2))))) ?_ ?_
      ·intro S Q r
       cases c1 : (!decide ((ix x1 0) = 1))
       ·intro k
        have b8 := c1
        try simp only [qa] at b8
        obtain ⟨g6, e5, b0⟩ := nr (t := tI) r1 (i := 1) (by omega) (by omega)
        have b0 : g6 = vi (ix x1 1) := b0; subst b0
        refine ah rfl rfl (mj rfl rfl e5) (ah rfl rfl (ca rfl rfl rfl) ?_)
        obtain ⟨f8, f6, a9⟩ := nr (t := tI) r1 (i := 2) (by omega) (by omega)
        have a9 : f8 = vi (ix x1 2) := a9; subst a9
        refine ah rfl rfl (mj rfl rfl f6) (ah rfl rfl (ca rfl rfl rfl) (ah rfl rfl (bz rfl rfl mw) ?_))
        exact gK rfl rfl rfl rfl rfl k
       ·exact gN 5 rfl rfl rfl rfl rfl rfl
      refine nS ?_
      refine ci s rfl ?_ ?_ <;> clear s <;> intro c s <;> try simp only [qa] at c
      ·refine sR (mI rfl (mI rfl (nS ?_)))
       exact rT s rfl rfl rfl rfl rfl
      ·refine bb (am (sR ?_))
       obtain ⟨f2, g7, b6⟩ := nr (t := tI) r1 (i := 1) (by omega) (by omega)
       have b6 : f2 = vi (ix x1 1) := b6; subst b6
       refine ab (mj rfl rfl g7) (lR rfl rfl rfl (mV rfl (mI rfl (nS ?_))))
       exact rT s rfl rfl rfl rfl rfl
     ·refine bb (de (am (aq (sR (fL rfl (af.g_Op r0) rfl rfl ?_)))))
      obtain ⟨d6, d8, s⟩ := bn s
      have c7 := ad2 (x0 := x0.Op)  
      rw [d8] at c7
      refine cL c7 rfl rfl (ai rfl bg) (bN fe rfl rfl (mV rfl ?_))
      refine cn 6 (d := 80) (v := vb ((decide (d6 = 2)) && (!decide ((ix x1 0) = (ix x1 1))))) ?_ ?_
      ·intro S Q r
       cases c4 : (decide (d6 = 2))
       ·exact gN 5 rfl rfl rfl rfl rfl rfl
       ·intro k
        have b2 := c4
        try simp only [qa] at b2
        obtain ⟨g5, g4, a1⟩ := nr (t := tI) r1 (i := 0) (by omega) (by omega)
        have a1 : g5 = vi (ix x1 0) := a1; subst a1
        refine ah rfl rfl (mj rfl rfl g4) (ah rfl rfl (ca rfl rfl rfl) ?_)
        obtain ⟨e2, g2, a8⟩ := nr (t := tI) r1 (i := 1) (by omega) (by omega)
        have a8 : e2 = vi (ix x1 1) := a8; subst a8
        refine ah rfl rfl (mj rfl rfl g2) (ah rfl rfl (ca rfl rfl rfl) (ah rfl rfl (bz rfl rfl mw) ?_))
        exact gK rfl rfl rfl rfl rfl k
      refine nS ?_
      refine ci s rfl ?_ ?_ <;> clear s <;> intro c s <;> try simp only [qa] at c
      ·refine sR (mI rfl (mI rfl (nS ?_)))
       exact rT s rfl rfl rfl rfl rfl
      ·refine bb (am (aq (sR (fL rfl (af.g_Op r0) rfl rfl (bN fe rfl rfl (mV rfl ?_))))))
       refine cn 4 (d := 88) (v := vb ((decide (x0.Op = 15)) || (decide (x0.Op = 16)))) ?_ ?_
       ·intro S Q r
        cases d0 : (decide (x0.Op = 15))
        ·intro k
         have b4 := d0
         try simp only [qa] at b4
         refine ah rfl rfl (cd rfl (af.g_Op r0)) (ah rfl rfl (ca rfl rfl rfl) (ah rfl rfl (bz rfl rfl fe) ?_))
         exact gK rfl rfl rfl rfl rfl k
        ·exact gN 3 rfl rfl rfl rfl rfl rfl
       refine nS ?_
       refine ci s rfl ?_ ?_ <;> clear s <;> intro c s <;> try simp only [qa] at c
       ·refine sR (mI rfl (mI rfl (nS ?_)))
        exact rT s rfl rfl rfl rfl rfl
       ·refine bb (am (sR ?_))
        obtain ⟨f7, e8, a5⟩ := nr (t := tI) r1 (i := 0) (by omega) (by omega)
        have a5 : f7 = vi (ix x1 0) := a5; subst a5
        refine ab (mj rfl rfl e8) (lR rfl rfl rfl (mV rfl (mI rfl (nS ?_))))
        exact rT s rfl rfl rfl rfl rfl
 ·intro J
  refine ci s rfl ?_ ?_ <;> clear s <;> intro c s <;> try simp only [qa] at c
  ·refine bb ?_
   refine am (wC (J _  s) rfl)
  ·refine ax (bN fe rfl rfl (mV rfl (bp ?_)))
   refine am (wC (J _  s) rfl)

def RF226 (res : Int × Int × Int) (r : PV) : Prop := r = .tup [vi res.1, vi res.2.1, vi res.2.2]
theorem sq {S : List Fr} {res : Int × Int × Int} {x0 : bd} {x1 : List af} {x2 : Int} {rec_ : bd → (List af) → Int → (Int × Int × Int)} {mu_ : Nat} {a8 : Int} {v0 v1 : PV} {a7 a6 : Nat} (r0 : bd.t.R x0 v0) (r1 : (tSl af.t).R x1 v1) (h0 : 0 ≤ x2) (hb : x1.length ≤ 1000000) (ihR : ∀ {z0 : bd} {z1 : List af} {z2 : Int} {c8 d1 : PV} (d3 : bd.t.R z0 c8) (d4 : (tSl af.t).R z1 d1) (h0 : 0 ≤ z2) (hb : z1.length ≤ 1000000), (z1.length - z2.toNat) < mu_ → FnR Tryz.prog 226 [c8, d1, vi z2] (.tup [vi ((rec_ z0 z1 z2).1), vi ((rec_ z0 z1 z2).2.1), vi ((rec_ z0 z1 z2).2.2)])) (hmu : mu_ = (x1.length - x2.toNat)) (hrec : ∀ (z0 : bd) (z1 : List af) (z2 : Int), 0 ≤ z2 → z1.length ≤ 1000000 → (rec_ z0 z1 z2).2.2 = 0 → z2 < (rec_ z0 z1 z2).2.1) (c1 : (decide ((x1.length : Int) ≤ x2)) = false) (c9 : dw ((ix x1 x2).Op) = a8) (c0 : (decide (a8 < 0)) = false) (c3 : (decide (a8 = 0)) = false) {K1 : Int → (List Int) → (Int × Int × Int)}
  (d2 : ∀ {b0 : Int} {a2 : List Int} {a1 : PV} (a3 : (tAr 3 tI).R a2 a1) {h : Heap} (M0 : Mem h [⟨.op a7 a6 0, 293, 3, [a1]⟩]), K1 b0 a2 = res → PX Tryz.prog 1 S (QR Tryz.prog [(6, none), (7, none), (8, none)] (RF226 res)) [(1, v1), (2, vi x2), (7, vi b0), (10, .op a7 a6 0)] h) :
  ∀ {m : Nat} {b0 a0 : Int} {a2 : List Int} {a1 : PV} (a3 : (tAr 3 tI).R a2 a1) (d0 : m = Int.toNat (a8 - a0)) (c2 : 0 ≤ a0) (b2 : x2 < b0) {h : Heap} (M0 : Mem h [⟨.op a7 a6 0, 293, 3, [a1]⟩]), dc x0 x1 rec_ K1 m b0 a0 a2 = res → RC Tryz.prog (.loop cc6) S (QR Tryz.prog [(6, none), (7, none), (8, none)] (RF226 res)) [(44, vi a0), (43, vi a8), (10, .op a7 a6 0), (7, vi b0), (3, .fp v0), (2, vi x2), (1, v1)] h := by
 have hb' := hb
 try simp only [qa] at hb'
 have b7 := c1
 try simp only [qa] at b7
 have b6 := c0
 try simp only [qa] at b6
 have b5 := c3
 try simp only [qa] at b5
 intro m
 induction m with
 | zero =>
  intro b0 a0 a2 a1 a3 d0 c2 b2 h M0 s
  rw [dc] at s
  refine ct (sR (bN cz rfl rfl (nS (aq ?_))))
  refine cj rfl ?_ ?_ <;> intro c <;> try simp only [qa] at c
  ·omega
  refine ft (gk (ej ?_))
  exact wP (d2 a3 (Mem.sub M0 (.cons_cons _ .slnil)) s) rfl
 | succ m ih =>
  intro b0 a0 a2 a1 a3 d0 c2 b2 h M0 s
  rw [dc] at s
  refine ct (sR (bN cz rfl rfl (nS (aq ?_))))
  refine cj rfl ?_ ?_ <;> intro c <;> try simp only [qa] at c
  rotate_left
  ·omega
  refine bb (am (aq (br (sR (mV rfl (mV rfl (nR (mV rfl ?_))))))))
  refine lD r0 rfl rfl rfl (mV rfl (mV rfl ?_))
  obtain ⟨a4, b1, s⟩ := bn s
  have b8 := ihR (z0 := x0) (z1 := x1) (z2 := b0) r0 r1 (by omega) (by assumption) (by omega)
  rw [b1] at b8
  have c7 : a4.2.2 = 0 → b0 < a4.2.1 := by rw [← b1]; exact hrec _ _ _ (by omega) (by omega)
  refine cL b8 rfl rfl (ai (TR.clo bd.t r0) (ai (TR.clo (tSl af.t) r1) (ai rfl bg))) (mV rfl (xT rfl rfl (xT rfl rfl (xT rfl rfl ?_))))
  have a9 : 0 ≤ a0 := by omega
  have a5 : a0 < 3 := by ((have hk := ar (by assumption); omega))
  refine ab (az9 rfl rfl a9 a5) ?_
  obtain ⟨b9, c5, b3, c4⟩ := bp4 (t := tI) (i := a0) a3 a9 a5 (show tI.R a4.1 (vi a4.1) from rfl) rfl
  refine ay5 (k := 0) (v := vi a4.1) M0 rfl rfl rfl c5 rfl b3.1 b3.2 (fun c6 b4 => ?_)
  replace b4 : Mem c6 [⟨.op a7 a6 0, 293, 3, [.agg (spl b9 (a0.toNat * 1) [vi a4.1])]⟩] := b4
  refine mV rfl (mV rfl (nR (mV rfl (bN mw rfl rfl (nS ?_)))))
  refine ci s rfl ?_ ?_ <;> clear s <;> intro c s <;> try simp only [qa] at c
  ·refine sR (mV rfl (mI rfl (mI rfl (mV rfl (nS ?_)))))
   subst s
   exact fy (.tmp rfl (.tmp rfl (.tmp rfl .nil))) (cv (show closed (.tup _) = true from (ai rfl (ai rfl (ai rfl bg))))) rfl
  ·refine bb (de (am (ax (bN gm rfl rfl (mV rfl (bp (di ?_)))))))
   have hinc : wr (a0 + 1) = a0 + 1 := gb (by omega) (by omega)
   erw [hinc]
   exact wC (ih  c4 (by omega) (by omega) (by omega) (Mem.sub b4 (.cons_cons _ .slnil)) s) rfl

theorem bz2 {rec_ : bd → (List af) → Int → (Int × Int × Int)} {mu_ : Nat} {x0 : bd} {x1 : List af} {x2 : Int} {v0 v1 : PV} (r0 : bd.t.R x0 v0) (r1 : (tSl af.t).R x1 v1) (h0 : 0 ≤ x2) (hb : x1.length ≤ 1000000) (hmu : mu_ = (x1.length - x2.toNat)) (hrec : ∀ (z0 : bd) (z1 : List af) (z2 : Int), 0 ≤ z2 → z1.length ≤ 1000000 → (rec_ z0 z1 z2).2.2 = 0 → z2 < (rec_ z0 z1 z2).2.1) (ihR : ∀ {z0 : bd} {z1 : List af} {z2 : Int} {c4 c5 : PV} (d6 : bd.t.R z0 c4) (d7 : (tSl af.t).R z1 c5) (h0 : 0 ≤ z2) (hb : z1.length ≤ 1000000), (z1.length - z2.toNat) < mu_ → FnR Tryz.prog 226 [c4, c5, vi z2] (.tup [vi ((rec_ z0 z1 z2).1), vi ((rec_ z0 z1 z2).2.1), vi ((rec_ z0 z1 z2).2.2)])) : FnR Tryz.prog 226 [v0, v1, vi x2] (.tup [vi ((ek rec_ x0 x1 x2).1), vi ((ek rec_ x0 x1 x2).2.1), vi ((ek rec_ x0 x1 x2).2.2)]) := by
 refine fnS (R := RF226) bg2 (fun _ h => h) rfl fun res s => ?_
 unfold ek at s
 refine sR (ab (dq rfl (TR.cnt bd.t r0)) (mI rfl (mI rfl (mI rfl (nS (aq (sR (mV rfl ?_))))))))
 refine mV rfl (ab (cy rfl (cm r1 Tryz.underlying32 _)) (bN mc rfl rfl (nS ?_)))
 refine ci s rfl ?_ ?_ <;> clear s <;> intro a2 s <;> have a9 := a2 <;> try simp only [qa] at a9
 ·refine sR (mI rfl (mI rfl (mI rfl (nS ?_))))
  subst s
  exact fy (.tmp rfl (.tmp rfl (.tmp rfl .nil))) (cv (show closed (.tup _) = true from (ai rfl (ai rfl (ai rfl bg))))) rfl
 ·refine bb (am (sR (mV rfl (mV rfl ?_))))
  obtain ⟨d3, c1, c0⟩ := dt (i := x2) r1 (by omega) (by omega)
  refine ab (bh rfl rfl c1) (fL rfl (af.g_Op c0) rfl rfl ?_)
  obtain ⟨d4, a4, s⟩ := bn s
  have b4 := ad2 (x0 := (ix x1 x2).Op)  
  rw [a4] at b4
  refine cL b4 rfl rfl (ai rfl bg) (mV rfl (nS (aq (br (sR (mV rfl (bN cz rfl rfl (mV rfl ?_))))))))
  refine nS ?_
  refine ci s rfl ?_ ?_ <;> clear s <;> intro a1 s <;> have a7 := a1 <;> try simp only [qa] at a7
  ·refine sR (mI rfl (mI rfl (mI rfl (nS ?_))))
   subst s
   exact fy (.tmp rfl (.tmp rfl (.tmp rfl .nil))) (cv (show closed (.tup _) = true from (ai rfl (ai rfl (ai rfl bg))))) rfl
  ·refine sR (mV rfl (bN fe rfl rfl (mV rfl (nS ?_))))
   refine ci s rfl ?_ ?_ <;> clear s <;> intro a3 s <;> have a6 := a3 <;> try simp only [qa] at a6
   ·refine sR (lD r0 rfl rfl rfl (mV rfl (mV rfl ?_)))
    obtain ⟨d5, b7, a5⟩ := dt (i := x2) r1 (by omega) (by omega)
    refine ab (bh rfl rfl b7) (lD a5 rfl rfl rfl ?_)
    obtain ⟨d0, b6, s⟩ := bn s
    have b2 := bm1  r0 a5 
    rw [b6] at b2
    refine cL b2 rfl rfl (ai (TR.clo bd.t r0) (ai (TR.clo af.t a5) bg)) (mV rfl (xT rfl rfl (xT rfl rfl (mV rfl (mV rfl (nR (mV rfl (mV rfl ?_))))))))
    refine bN gm rfl rfl (mV rfl (mV rfl (mV rfl (mV rfl (nS ?_)))))
    subst s
    exact fy (.tmp rfl (.tmp rfl (.tmp rfl .nil))) (cv (show closed (.tup _) = true from (ai rfl (ai rfl (ai rfl bg))))) rfl
   ·refine bb (de (am (sR ?_)))
    refine dz (x := .agg [vi 0, vi 0, vi 0]) (Mem.nil ⟨0, []⟩) rfl rfl (fun d2 d1 c7 b8 => ?_)
    refine nR (mV rfl (bN gm rfl rfl (mV rfl (nS (aq (sR (mV rfl (mI rfl ?_))))))))
    refine nS (br ?_)
    refine wC (sq r0 r1 h0 hb ihR hmu hrec a2 a4 a1 a3 ?_  (show (tAr 3 tI).R ([0, 0, 0] : List Int) (.agg [vi 0, vi 0, vi 0]) from ⟨rfl, [vi 0, vi 0, vi 0], [vi 0, vi 0, vi 0], ⟨rfl, ⟨rfl, ⟨rfl, trivial⟩⟩⟩, rfl, rfl⟩) rfl (by omega) (by (rw [gb (by omega) (by omega)]; omega)) (Mem.sub b8 (.cons_cons _ .slnil)) s) rfl
    ·intro c2 b0 b3 a0 c9 b9 s
     refine gw (am (sR (mV rfl (mV rfl ?_))))
     obtain ⟨c6, c3, a8⟩ := dt (i := x2) r1 (by omega) (by omega)
     refine ab (bh rfl rfl c3) (lD a8 rfl rfl rfl (ab (iw (k := 0) b9 rfl rfl (TR.agg (tAr 3 tI) a0)) ?_))
     obtain ⟨c8, b1, s⟩ := bn s
     have b5 := ct4  a8 a0 
     rw [b1] at b5
     refine cL b5 rfl rfl (ai (TR.clo af.t a8) (ai (TR.clo (tAr 3 tI) a0) bg)) (mV rfl (xT rfl rfl (xT rfl rfl (mV rfl (mV rfl (nR (mV rfl (mV rfl ?_))))))))
     refine mV rfl (mV rfl (mV rfl (mV rfl (nS ?_))))
     subst s
     exact fy (.tmp rfl (.tmp rfl (.tmp rfl .nil))) (cv (show closed (.tup _) = true from (ai rfl (ai rfl (ai rfl bg))))) rfl
theorem cb3 : ∀ (n_ : Nat) {x0 : bd} {x1 : List af} {x2 : Int} {v0 v1 : PV} (r0 : bd.t.R x0 v0) (r1 : (tSl af.t).R x1 v1) (h0 : 0 ≤ x2) (hb : x1.length ≤ 1000000), (x1.length - x2.toNat) < n_ → FnR Tryz.prog 226 [v0, v1, vi x2] (.tup [vi ((dg n_ x0 x1 x2).1), vi ((dg n_ x0 x1 x2).2.1), vi ((dg n_ x0 x1 x2).2.2)]) := by
 intro n_
 induction n_ with
 | zero => intros; rename_i hlt; exact absurd hlt (Nat.not_lt_zero _)
 | succ n_ ihn =>
  intro x0 x1 x2 v0 v1 r0 r1 h0 hb hlt
  have e_ : dg (n_ + 1) x0 x1 x2 = ek (dg n_) x0 x1 x2 := by rw [dg]
  rw [e_]
  exact bz2 r0 r1 h0 hb rfl (rm n_) (fun {z0} {z1} {z2} {zv0} {zv1} zr0 zr1 h0 hb hz => ihn zr0 zr1 h0 hb (by omega))
theorem cp0 {x0 : bd} {x1 : List af} {x2 : Int} {v0 v1 : PV} (r0 : bd.t.R x0 v0) (r1 : (tSl af.t).R x1 v1) (h0 : 0 ≤ x2) (hb : x1.length ≤ 1000000) : FnR Tryz.prog 226 [v0, v1, vi x2] (.tup [vi ((cq x0 x1 x2).1), vi ((cq x0 x1 x2).2.1), vi ((cq x0 x1 x2).2.2)]) := cb3 _ r0 r1 h0 hb (Nat.lt_succ_self _)

end Go.Proofs.YtmonnlkagniolaaGreat
