/-
 The code of each function does what its plain program says.
-/
import Derived.Test.YtmonnlkagniolaaGreatL7W9
set_option linter.unusedVariables false
set_option linter.unusedSimpArgs false
set_option maxRecDepth 100000
namespace Go.Proofs.YtmonnlkagniolaaGreat
open Go Go.Pb Go.RowKit
def RF24 (res : Bool) (r : PV) : Prop := r = vb res
theorem ui {S : List Fr} {res : Bool} {x0 : List (BitVec 32)} {x1 : List (BitVec 32)} {v0 v1 : PV} (r0 : (tSl dg).R x0 v0) (r1 : (tSl dg).R x1 v1) (a3 : (!decide ((x0.length : Int) = (x1.length : Int))) = false) {K0 : Unit → Bool}
  (a5 : K0 () = res → PX Tryz.prog 0 S (QR Tryz.prog [(4, none)] (RF24 res)) [] ⟨0, []⟩) :
  ∀ {m : Nat} {a0 : Int} (a4 : m = Int.toNat ((x0.length : Int) - a0)) (a2 : 0 ≤ a0), jb x0 x1 K0 m a0 = res → RC Tryz.prog (.loop ct3) S (QR Tryz.prog [(4, none)] (RF24 res)) [(5, vi a0), (1, v1), (0, v0)] ⟨0, []⟩ := by
 have a1 := a3
 try simp only [qa] at a1
 intro m
 induction m with
 | zero =>
  intro a0 a4 a2 s
  rw [jb] at s
  refine de (au (sR (mV rfl (mV rfl (ae (cy rfl (co r0 Tryz.underlying43 _)) (bN ct rfl rfl (nS ?_)))))))
  refine cw rfl ?_ ?_ <;> intro c <;> try simp only [qa] at c
  ·omega
  refine fc (gh (dy ?_))
  exact wP (a5  s) rfl
 | succ m ih =>
  intro a0 a4 a2 s
  rw [jb] at s
  refine de (au (sR (mV rfl (mV rfl (ae (cy rfl (co r0 Tryz.underlying43 _)) (bN ct rfl rfl (nS ?_)))))))
  refine cw rfl ?_ ?_ <;> intro c <;> try simp only [qa] at c
  rotate_left
  ·omega
  refine ba (aq (au (cb (sR (mV rfl (mV rfl (ae (bh rfl rfl (vv r0 (by omega) (by omega))) (lR rfl rfl rfl ?_))))))))
  refine mV rfl (mV rfl (ae (bh rfl rfl (vv r1 (by omega) (by omega))) (lR rfl rfl rfl (ae (bp (a := bd (ix x0 a0)) (b := bd (ix x1 a0)) rfl rfl dt5) (nS ?_)))))
  refine bt s rfl ?_ ?_ <;> clear s <;> intro c s <;> try simp only [qa] at c
  ·refine sR (mB rfl (nS ?_))
   exact rR s rfl rfl rfl
  ·refine ba (dj (aq (bb (mV rfl (bN fy rfl rfl (mV rfl (cf (du ?_))))))))
   have hbd := fg r0
   have u : wr (a0 + 1) = a0 + 1 := ek (by omega) (by omega)
   erw [u]
   exact wC (ih   (by omega) (by omega) s) rfl

theorem ba7 {x0 : List (BitVec 32)} {x1 : List (BitVec 32)} {v0 v1 : PV} (r0 : (tSl dg).R x0 v0) (r1 : (tSl dg).R x1 v1) : FnR Tryz.prog 24 [v0, v1] (vb (ka x0 x1)) := by
 refine fnS (R := RF24) dp3 (fun _ h => h) rfl fun res s => ?_
 unfold ka at s
 refine sR (mB rfl (nS (au (sR (mV rfl (ae (cy rfl (co r0 Tryz.underlying43 _)) (mV rfl (ae (cy rfl (co r1 Tryz.underlying43 _)) ?_))))))))
 refine bN kg rfl rfl (nS ?_)
 refine bt s rfl ?_ ?_ <;> clear s <;> intro a0 s <;> have a1 := a0 <;> try simp only [qa] at a1
 ·refine sR (mB rfl (nS ?_))
  exact rR s rfl rfl rfl
 ·refine ba (aq (au (sR (mI rfl (nS (cb ?_))))))
  refine wC (ui r0 r1 a0 ?_  rfl (by omega) s) rfl
  ·intro  s
   refine gy (aq (sR (mB rfl (nS ?_))))
   exact rR s rfl rfl rfl

def RF45 (res : Bool) (r : PV) : Prop := r = vb res
theorem zm {S : List Fr} {res : Bool} {x0 : ai} {x1 : ai} {v0 v1 : PV} (r0 : ai.t.R x0 v0) (r1 : ai.t.R x1 v1) (a2 : (((!decide ((x0.Valid.length : Int) = (x1.Valid.length : Int))) || (!decide ((x0.Fields.length : Int) = (x1.Fields.length : Int)))) || (!decide (x0.Payload = x1.Payload))) = false) {K0 : Unit → Bool}
  (b1 : K0 () = res → PX Tryz.prog 0 S (QR Tryz.prog [(4, none)] (RF45 res)) [(2, .fp v0), (3, .fp v1)] ⟨0, []⟩) :
  ∀ {m : Nat} {a0 : Int} (a8 : m = Int.toNat ((x0.Valid.length : Int) - a0)) (a4 : 0 ≤ a0), me x0 x1 K0 m a0 = res → RC Tryz.prog (.loop cp7) S (QR Tryz.prog [(4, none)] (RF45 res)) [(5, vi a0), (3, .fp v1), (2, .fp v0)] ⟨0, []⟩ := by
 have a1 := a2
 try simp only [qa] at a1
 intro m
 induction m with
 | zero =>
  intro a0 a8 a4 s
  rw [me] at s
  refine de (au (sR (mV rfl (gL (ai.g_Valid r0) rfl rfl rfl fun b3 a5 => (ae (cy rfl (co a5 Tryz.underlying41 _)) (bN ct rfl rfl (nS ?_)))))))
  refine cw rfl ?_ ?_ <;> intro c <;> try simp only [qa] at c
  ·omega
  refine fc (gh (dy ?_))
  exact wP (b1  s) rfl
 | succ m ih =>
  intro a0 a8 a4 s
  rw [me] at s
  refine de (au (sR (mV rfl (gL (ai.g_Valid r0) rfl rfl rfl fun a9 a3 => (ae (cy rfl (co a3 Tryz.underlying41 _)) (bN ct rfl rfl (nS ?_)))))))
  refine cw rfl ?_ ?_ <;> intro c <;> try simp only [qa] at c
  rotate_left
  ·omega
  refine ba (aq (au (cb (sR (gL (ai.g_Valid r0) rfl rfl rfl fun b0 a7 => (mV rfl (ae (bh rfl rfl (slB a7 (by omega) (by omega))) (lR rfl rfl rfl ?_))))))))
  refine gL (ai.g_Valid r1) rfl rfl rfl fun b2 a6 => (mV rfl (ae (bh rfl rfl (slB a6 (by omega) (by omega))) (lR rfl rfl rfl (bN (at8 (by rw [Tryz.underlying4]; rfl)) rfl rfl (nS ?_)))))
  refine bt s rfl ?_ ?_ <;> clear s <;> intro c s <;> try simp only [qa] at c
  ·refine sR (mB rfl (nS ?_))
   exact rR s rfl rfl rfl
  ·refine ba (dj (aq (bb (mV rfl (bN fy rfl rfl (mV rfl (cf (du ?_))))))))
   have hbd := fg a3
   have u : wr (a0 + 1) = a0 + 1 := ek (by omega) (by omega)
   erw [u]
   exact wC (ih   (by omega) (by omega) s) rfl

theorem zq {S : List Fr} {res : Bool} {x0 : ai} {x1 : ai} {v0 v1 : PV} (r0 : ai.t.R x0 v0) (r1 : ai.t.R x1 v1) (a5 : (((!decide ((x0.Valid.length : Int) = (x1.Valid.length : Int))) || (!decide ((x0.Fields.length : Int) = (x1.Fields.length : Int)))) || (!decide (x0.Payload = x1.Payload))) = false) {K2 : Unit → Bool}
  (b9 : K2 () = res → PX Tryz.prog 2 S (QR Tryz.prog [(4, none)] (RF45 res)) [(2, .fp v0), (3, .fp v1)] ⟨0, []⟩) :
  ∀ {m : Nat} {a0 : Int} (b5 : m = Int.toNat ((x0.Fields.length : Int) - a0)) (a7 : 0 ≤ a0), lu x0 x1 K2 m a0 = res → RC Tryz.prog (.loop cq4) S (QR Tryz.prog [(4, none)] (RF45 res)) [(6, vi a0), (3, .fp v1), (2, .fp v0)] ⟨0, []⟩ := by
 have a2 := a5
 try simp only [qa] at a2
 intro m
 induction m with
 | zero =>
  intro a0 b5 a7 s
  rw [lu] at s
  refine de (au (sR (mV rfl (gL (ai.g_Fields r0) rfl rfl rfl fun b8 b2 => (ae (cy rfl (co b2 Tryz.underlying42 _)) (bN ct rfl rfl (nS ?_)))))))
  refine cw rfl ?_ ?_ <;> intro c <;> try simp only [qa] at c
  ·omega
  refine fc (gh (dy ?_))
  exact wP (b9  s) rfl
 | succ m ih =>
  intro a0 b5 a7 s
  rw [lu] at s
  refine de (au (sR (mV rfl ?_)))
  obtain ⟨b6, a9, a3⟩ := ai.g_Fields r0
  refine fA rfl a9 (lD a3 rfl rfl rfl (ae (cy rfl (co a3 Tryz.underlying42 _)) (bN ct rfl rfl (nS ?_))))
  refine cw rfl ?_ ?_ <;> intro c <;> try simp only [qa] at c
  rotate_left
  ·omega
  refine ba (aq (au (cb (sR (gL (ai.g_Fields r0) rfl rfl rfl fun c5 b3 => (mV rfl ?_))))))
  obtain ⟨c6, b0, a4⟩ := cr (i := a0) b3 (by omega) (by omega)
  refine ae (bh rfl rfl b0) (lD a4 rfl rfl rfl (gL (ai.g_Fields r1) rfl rfl rfl fun c1 b1 => (mV rfl ?_)))
  obtain ⟨c4, b4, a1⟩ := cr (i := a0) b1 (by omega) (by omega)
  refine ae (bh rfl rfl b4) (lD a1 rfl rfl rfl ?_)
  obtain ⟨b7, a6, s⟩ := bn s
  have a8 := ba7  a4 a1 
  rw [a6] at a8
  refine cL a8 rfl rfl (ab (TR.clo (tSl dg) a4) (ab (TR.clo (tSl dg) a1) ay)) (ae (gv rfl) (nS ?_))
  refine bt s rfl ?_ ?_ <;> clear s <;> intro c s <;> try simp only [qa] at c
  ·refine sR (mB rfl (nS ?_))
   exact rR s rfl rfl rfl
  ·refine ba (dj (aq (bb (mV rfl (bN fy rfl rfl (mV rfl (cf (du ?_))))))))
   have hbd := fg a3
   have u : wr (a0 + 1) = a0 + 1 := ek (by omega) (by omega)
   erw [u]
   exact wC (ih   (by omega) (by omega) s) rfl

theorem dl6 {x0 : ai} {x1 : ai} {v0 v1 : PV} (r0 : ai.t.R x0 v0) (r1 : ai.t.R x1 v1) : FnR Tryz.prog 45 [v0, v1] (vb (sb x0 x1)) := by
 refine fnS (R := RF45) dm7 (fun _ h => h) rfl fun res s => ?_
 unfold sb at s
 refine sR (ae (cz rfl (TR.cnt ai.t r0)) (ae (cz rfl (TR.cnt ai.t r1)) (mB rfl (nS (au (sR ?_))))))
 obtain ⟨d2, b7, b3⟩ := ai.g_Valid r0
 refine fA rfl b7 (lD b3 rfl rfl rfl (ae (cy rfl (co b3 Tryz.underlying41 _)) (gL (ai.g_Valid r1) rfl rfl rfl fun c8 b9 => (ae (cy rfl (co b9 Tryz.underlying41 _)) (bN kg rfl rfl (mV rfl ?_))))))
 refine bw 8 (d := 22) (v := vb ((!decide ((x0.Valid.length : Int) = (x1.Valid.length : Int))) || (!decide ((x0.Fields.length : Int) = (x1.Fields.length : Int))))) ?_ ?_
 ·intro S Q r
  cases b0 : (!decide ((x0.Valid.length : Int) = (x1.Valid.length : Int)))
  ·intro k
   have a7 := b0
   try simp only [qa] at a7
   obtain ⟨c9, c5, a3⟩ := ai.g_Fields r0
   refine ah rfl rfl (br rfl c5) (ah rfl rfl (bq rfl (TR.cnt (tSl (tSl dg)) a3) (TR.agg (tSl (tSl dg)) a3)) (ah rfl rfl (cy rfl (co a3 Tryz.underlying42 _)) ?_))
   obtain ⟨c7, b8, a4⟩ := ai.g_Fields r1
   refine ah rfl rfl (br rfl b8) (ah rfl rfl (bq rfl (TR.cnt (tSl (tSl dg)) a4) (TR.agg (tSl (tSl dg)) a4)) (ah rfl rfl (cy rfl (co a4 Tryz.underlying42 _)) (ah rfl rfl (bp rfl rfl kg) ?_)))
   exact gK rfl rfl rfl rfl rfl k
  ·exact gN 7 rfl rfl rfl rfl rfl rfl
 refine mV rfl ?_
 refine bw 8 (d := 31) (v := vb (((!decide ((x0.Valid.length : Int) = (x1.Valid.length : Int))) || (!decide ((x0.Fields.length : Int) = (x1.Fields.length : Int)))) || (!decide (x0.Payload = x1.Payload)))) ?_ ?_
 ·intro S Q r
  cases b1 : ((!decide ((x0.Valid.length : Int) = (x1.Valid.length : Int))) || (!decide ((x0.Fields.length : Int) = (x1.Fields.length : Int))))
  ·intro k
   have a2 := b1
   try simp only [qa] at a2
   obtain ⟨b5, b6, a5⟩ := ai.g_Payload r0
   refine ah rfl rfl (br rfl b6) (ah rfl rfl (bq rfl (TR.cnt (tSl tU8) a5) (TR.agg (tSl tU8) a5)) (ah rfl rfl (gi (a := b5) rfl (c_sb a5 Tryz.underlying44 Tryz.underlying5 Tryz.underlying9)) ?_))
   obtain ⟨c1, c4, a6⟩ := ai.g_Payload r1
   refine ah rfl rfl (br rfl c4) (ah rfl rfl (bq rfl (TR.cnt (tSl tU8) a6) (TR.agg (tSl tU8) a6)) (ah rfl rfl (gi (a := c1) rfl (c_sb a6 Tryz.underlying44 Tryz.underlying5 Tryz.underlying9)) (ah rfl rfl (bp (a := vs x0.Payload) (b := vs x1.Payload) rfl rfl cx3) ?_)))
   exact gK rfl rfl rfl rfl rfl k
  ·exact gN 7 rfl rfl rfl rfl rfl rfl
 refine nS ?_
 refine bt s rfl ?_ ?_ <;> clear s <;> intro a0 s <;> have a1 := a0 <;> try simp only [qa] at a1
 ·refine sR (mB rfl (nS ?_))
  exact rR s rfl rfl rfl
 ·refine ba (aq (au (sR (mI rfl (nS (cb ?_))))))
  refine wC (zm r0 r1 a0 ?_  rfl (by omega) s) rfl
  ·intro  s
   refine gy (aq (au (sR (mI rfl (nS (cb ?_))))))
   refine wC (zq r0 r1 a0 ?_  rfl (by omega) s) rfl
   ·intro  s
    refine gy (aq (sR (gL (ai.g_Meta r0) rfl rfl rfl fun d0 b2 => (gL (ai.g_Meta r1) rfl rfl rfl fun d1 a8 => ?_))))
    obtain ⟨c6, b4, s⟩ := bn s
    have a9 := ba7  b2 a8 
    rw [b4] at a9
    refine cL a9 rfl rfl (ab (TR.clo (tSl dg) b2) (ab (TR.clo (tSl dg) a8) ay)) (mV rfl (nS ?_))
    exact rR s rfl rfl rfl

def RF46 (res : Bool) (r : PV) : Prop := r = vb res
theorem zd {S : List Fr} {res : Bool} {x0 : List (List (BitVec 32))} {x1 : List (List (BitVec 32))} {v0 v1 : PV} (r0 : (tSl (tSl dg)).R x0 v0) (r1 : (tSl (tSl dg)).R x1 v1) (a7 : (!decide ((x0.length : Int) = (x1.length : Int))) = false) {K0 : Unit → Bool}
  (b4 : K0 () = res → PX Tryz.prog 0 S (QR Tryz.prog [(4, none)] (RF46 res)) [] ⟨0, []⟩) :
  ∀ {m : Nat} {a0 : Int} (b0 : m = Int.toNat ((x0.length : Int) - a0)) (a6 : 0 ≤ a0), mb x0 x1 K0 m a0 = res → RC Tryz.prog (.loop cq7) S (QR Tryz.prog [(4, none)] (RF46 res)) [(5, vi a0), (1, v1), (0, v0)] ⟨0, []⟩ := by
 have a2 := a7
 try simp only [qa] at a2
 intro m
 induction m with
 | zero =>
  intro a0 b0 a6 s
  rw [mb] at s
  refine de (au (sR (mV rfl (mV rfl (ae (cy rfl (co r0 Tryz.underlying42 _)) (bN ct rfl rfl (nS ?_)))))))
  refine cw rfl ?_ ?_ <;> intro c <;> try simp only [qa] at c
  ·omega
  refine fc (gh (dy ?_))
  exact wP (b4  s) rfl
 | succ m ih =>
  intro a0 b0 a6 s
  rw [mb] at s
  refine de (au (sR (mV rfl (mV rfl (ae (cy rfl (co r0 Tryz.underlying42 _)) (bN ct rfl rfl (nS ?_)))))))
  refine cw rfl ?_ ?_ <;> intro c <;> try simp only [qa] at c
  rotate_left
  ·omega
  refine ba (aq (au (cb (sR (mV rfl (mV rfl ?_))))))
  obtain ⟨b2, a9, a1⟩ := cr (i := a0) r0 (by omega) (by omega)
  refine ae (bh rfl rfl a9) (lD a1 rfl rfl rfl (mV rfl (mV rfl ?_)))
  obtain ⟨b1, a8, a3⟩ := cr (i := a0) r1 (by omega) (by omega)
  refine ae (bh rfl rfl a8) (lD a3 rfl rfl rfl ?_)
  obtain ⟨b3, a5, s⟩ := bn s
  have a4 := ba7  a1 a3 
  rw [a5] at a4
  refine cL a4 rfl rfl (ab (TR.clo (tSl dg) a1) (ab (TR.clo (tSl dg) a3) ay)) (ae (gv rfl) (nS ?_))
  refine bt s rfl ?_ ?_ <;> clear s <;> intro c s <;> try simp only [qa] at c
  ·refine sR (mB rfl (nS ?_))
   exact rR s rfl rfl rfl
  ·refine ba (dj (aq (bb (mV rfl (bN fy rfl rfl (mV rfl (cf (du ?_))))))))
   have hbd := fg r0
   have u : wr (a0 + 1) = a0 + 1 := ek (by omega) (by omega)
   erw [u]
   exact wC (ih   (by omega) (by omega) s) rfl

theorem dl1 {x0 : List (List (BitVec 32))} {x1 : List (List (BitVec 32))} {v0 v1 : PV} (r0 : (tSl (tSl dg)).R x0 v0) (r1 : (tSl (tSl dg)).R x1 v1) : FnR Tryz.prog 46 [v0, v1] (vb (nn x0 x1)) := by
 refine fnS (R := RF46) dh6 (fun _ h => h) rfl fun res s => ?_
 unfold nn at s
 refine sR (mB rfl (nS (au (sR (mV rfl (ae (cy rfl (co r0 Tryz.underlying42 _)) (mV rfl (ae (cy rfl (co r1 Tryz.underlying42 _)) ?_))))))))
 refine bN kg rfl rfl (nS ?_)
 refine bt s rfl ?_ ?_ <;> clear s <;> intro a0 s <;> have a1 := a0 <;> try simp only [qa] at a1
 ·refine sR (mB rfl (nS ?_))
  exact rR s rfl rfl rfl
 ·refine ba (aq (au (sR (mI rfl (nS (cb ?_))))))
  refine wC (zd r0 r1 a0 ?_  rfl (by omega) s) rfl
  ·intro  s
   refine gy (aq (sR (mB rfl (nS ?_))))
   exact rR s rfl rfl rfl

def RF7 (res : Bool) (r : PV) : Prop := r = vb res
theorem ed5 {x0 : dm} {v0 : PV} (r0 : dm.t.R x0 v0) (hE : EB x0.E) (hR : RB x0.Regs) : FnR Tryz.prog 7 [v0] (vb (ku x0)) := by
 refine fnS (R := RF7) ds1 (fun _ h => h) rfl fun res s => ?_
 unfold ku at s
 refine sR (ae (cz rfl (TR.cnt dm.t r0)) (mB rfl (nS (au (sR (gL (dm.g_P r0) rfl rfl rfl fun g1 d2 => ?_))))))
 obtain ⟨e0, d0, s⟩ := bn s
 have d1 := dq1  d2 
 rw [d0] at d1
 refine cL d1 rfl rfl (ab (TR.clo af.t d2) ay) (ae (gv rfl) (mV rfl ?_))
 refine bw 6 (d := 17) (v := vb ((!e0) || (decide (40 < (x0.Call.Args.length : Int))))) ?_ ?_
 ·intro S Q r
  cases b6 : (!e0)
  ·intro k
   have a7 := b6
   try simp only [qa] at a7
   obtain ⟨f6, f3, f0⟩ := dm.g_Call r0
   refine ah rfl rfl (br rfl f3) ?_
   obtain ⟨g3, e7, a9⟩ := bm.g_Args f0
   refine ah rfl rfl (br rfl e7) (ah rfl rfl (bq rfl (TR.cnt (tSl dg) a9) (TR.agg (tSl dg) a9)) (ah rfl rfl (cy rfl (co a9 Tryz.underlying43 _)) (ah rfl rfl (bp rfl rfl ki) ?_)))
   exact gK rfl rfl rfl rfl rfl k
  ·exact gN 5 rfl rfl rfl rfl rfl rfl
 refine nS ?_
 refine bt s rfl ?_ ?_ <;> clear s <;> intro c s <;> try simp only [qa] at c
 ·refine sR ?_
  obtain ⟨g9, b9, s⟩ := bn s
  have c6 := bs5   
  rw [b9] at c6
  refine cL c6 rfl rfl ay (mV rfl (nS ?_))
  exact rR s rfl rfl rfl
 ·refine ba (aq (sR (gL (dm.g_P r0) rfl rfl rfl fun g0 d8 => (gL (dm.g_Call r0) rfl rfl rfl fun g8 d6 => (gL (dm.g_E r0) rfl rfl rfl fun f8 b8 => (gL (dm.g_Regs r0) rfl rfl rfl fun f7 b5 => ?_))))))
  obtain ⟨a8, c5, s⟩ := bn s
  obtain ⟨b2, g6, e5, a1, b1⟩ := do0  d8 d6 b8 b5 (by assumption) (by assumption)
  rw [c5] at a1 b1
  refine cL e5 rfl rfl (ab (TR.clo af.t d8) (ab (TR.clo bm.t d6) (ab (TR.clo ai.t b8) (ab (TR.clo (tSl (tSl dg)) b5) ay)))) (mV rfl (xT rfl rfl (xT rfl rfl ?_)))
  refine di (x := .agg [nilS, nilS, nilS, nilS]) (Mem.nil ⟨0, []⟩) rfl rfl (fun d9 b4 f9 f1 => ?_)
  refine ci (k := 0) (v := b2) f1 rfl rfl rfl (TR.cnt ai.t a1) (fun e1 a5 => ?_)
  replace a5 : Mem e1 [⟨.op d9 b4 0, 46, 4, [b2]⟩] := a5
  refine mV rfl (nR (gL (dm.g_P r0) rfl rfl rfl fun f5 c8 => (gL (dm.g_Call r0) rfl rfl rfl fun g4 d4 => (gL (dm.g_E r0) rfl rfl rfl fun g2 d3 => (gL (dm.g_Regs r0) rfl rfl rfl fun f4 c1 => ?_)))))
  obtain ⟨b0, c7, s⟩ := bn s
  obtain ⟨d7, g7, e8, a0, a4⟩ := dk3  c8 d4 d3 c1 (by assumption) (by assumption)
  rw [c7] at a0 a4
  refine cL e8 rfl rfl (ab (TR.clo af.t c8) (ab (TR.clo bm.t d4) (ab (TR.clo ai.t d3) (ab (TR.clo (tSl (tSl dg)) c1) ay)))) (mV rfl (xT rfl rfl (xT rfl rfl ?_)))
  refine di (x := .agg [nilS, nilS, nilS, nilS]) a5 rfl rfl (fun e3 e2 g5 f2 => ?_)
  refine ci (k := 0) (v := d7) f2 rfl rfl rfl (TR.cnt ai.t a0) (fun e6 a2 => ?_)
  replace a2 : Mem e6 [⟨.op e3 e2 0, 46, 4, [d7]⟩, ⟨.op d9 b4 0, 46, 4, [b2]⟩] := a2
  refine mV rfl (nR (ae (fq (k := 1) a2 rfl rfl (TR.agg ai.t a1)) (ae (fq (k := 0) a2 rfl rfl (TR.agg ai.t a0)) ?_)))
  obtain ⟨a3, c9, s⟩ := bn s
  have c4 := dl6  a1 a0 
  rw [c9] at c4
  refine cL c4 rfl rfl (ab (TR.clo ai.t a1) (ab (TR.clo ai.t a0) ay)) (mV rfl ?_)
  refine bw 4 (d := 50) (v := vb (a3 && (nn a8.2 b0.2))) ?_ ?_
  ·intro S Q r
   cases b7 : a3
   ·exact gN 3 rfl rfl rfl rfl rfl rfl
   ·intro k
    have b3 := b7
    try simp only [qa] at b3
    refine ah rfl rfl (ax rfl) (ah rfl rfl (ax rfl) ?_)
    have e4 := dl1  b1 a4 
    refine jm rfl rfl (qq rfl rfl (ab (TR.clo (tSl (tSl dg)) b1) (ab (TR.clo (tSl (tSl dg)) a4) ay)) e4) ?_
    exact gK rfl rfl rfl rfl rfl k
  refine mV rfl ?_
  refine bw 2 (d := 53) (v := vb ((a3 && (nn a8.2 b0.2)) && (tn))) ?_ ?_
  ·intro S Q r
   cases d5 : (a3 && (nn a8.2 b0.2))
   ·exact gN 1 rfl rfl rfl rfl rfl rfl
   ·intro k
    have a6 := d5
    try simp only [qa] at a6
    have e9 := bs5   
    refine jm rfl rfl (qq rfl rfl ay e9) ?_
    exact gK rfl rfl rfl rfl rfl k
  refine mV rfl (nS ?_)
  exact rR s rfl rfl rfl

end Go.Proofs.YtmonnlkagniolaaGreat
