/-
 The code of each function does what its plain program says.
-/
import Derived.Test.YtmonnlkagniolaaGreatL7W7
set_option linter.unusedVariables false
set_option linter.unusedSimpArgs false
set_option maxRecDepth 100000
namespace Go.Proofs.YtmonnlkagniolaaGreat
open Go Go.Pb Go.RowKit
def RF124 (res : Bool) (r : PV) : Prop := r = vb res
theorem bl4 {x0 : ai} {x1 : ak} {v0 v1 : PV} (r0 : ai.t.R x0 v0) (r1 : ak.t.R x1 v1) : FnR Tryz.prog 124 [v0, v1] (vb (gb x0 x1)) := by
 refine fnS (R := RF124) cj3 (fun _ h => h) rfl fun res s => ?_
 unfold gb at s
 refine sR (ae (cz rfl (TR.cnt ai.t r0)) (ae (cz rfl (TR.cnt ak.t r1)) (mB rfl (nS (au (sR (fL rfl (ak.g_Header r1) rfl rfl (bN (dn (b := -1)) rfl rfl ?_))))))))
 refine nS ?_
 refine bt s rfl ?_ ?_ <;> clear s <;> intro c s <;> try simp only [qa] at c
 ·refine sR (fL rfl (ak.g_Field r1) rfl rfl (bN ja rfl rfl (mV rfl ?_)))
  refine bw 7 (d := 18) (v := vb ((decide (0 ≤ x1.Field)) && (decide (x1.Field < (x0.Metd.length : Int))))) ?_ ?_
  ·intro S Q r
   cases b1 : (decide (0 ≤ x1.Field))
   ·exact gN 6 rfl rfl rfl rfl rfl rfl
   ·intro k
    have a2 := b1
    try simp only [qa] at a2
    refine ah rfl rfl (br rfl (ak.g_Field r1)) (ah rfl rfl (bq rfl rfl rfl) ?_)
    obtain ⟨b8, b4, a0⟩ := ai.g_Meta r0
    refine ah rfl rfl (br rfl b4) (ah rfl rfl (bq rfl (TR.cnt (tSl dg) a0) (TR.agg (tSl dg) a0)) (ah rfl rfl (cy rfl (co a0 Tryz.underlying43 _)) (ah rfl rfl (bp rfl rfl ct) ?_)))
    exact gK rfl rfl rfl rfl rfl k
  refine mV rfl (nS ?_)
  exact rR s rfl rfl rfl
 ·refine ba (aq (sR (fL rfl (ak.g_Header r1) rfl rfl (bN ja rfl rfl (mV rfl ?_)))))
  refine bw 7 (d := 29) (v := vb ((decide (0 ≤ x1.Header)) && (decide (x1.Header < (x0.Fields.length : Int))))) ?_ ?_
  ·intro S Q r
   cases b0 : (decide (0 ≤ x1.Header))
   ·exact gN 6 rfl rfl rfl rfl rfl rfl
   ·intro k
    have a3 := b0
    try simp only [qa] at a3
    refine ah rfl rfl (br rfl (ak.g_Header r1)) (ah rfl rfl (bq rfl rfl rfl) ?_)
    obtain ⟨b6, b3, a4⟩ := ai.g_Fields r0
    refine ah rfl rfl (br rfl b3) (ah rfl rfl (bq rfl (TR.cnt (tSl (tSl dg)) a4) (TR.agg (tSl (tSl dg)) a4)) (ah rfl rfl (cy rfl (co a4 Tryz.underlying42 _)) (ah rfl rfl (bp rfl rfl ct) ?_)))
    exact gK rfl rfl rfl rfl rfl k
  refine mV rfl ?_
  refine bw 4 (d := 34) (v := vb (((decide (0 ≤ x1.Header)) && (decide (x1.Header < (x0.Fields.length : Int)))) && (decide (0 ≤ x1.Field)))) ?_ ?_
  ·intro S Q r
   cases a8 : ((decide (0 ≤ x1.Header)) && (decide (x1.Header < (x0.Fields.length : Int))))
   ·exact gN 3 rfl rfl rfl rfl rfl rfl
   ·intro k
    have a1 := a8
    try simp only [qa] at a1
    refine ah rfl rfl (br rfl (ak.g_Field r1)) (ah rfl rfl (bq rfl rfl rfl) (ah rfl rfl (bp rfl rfl ja) ?_))
    exact gK rfl rfl rfl rfl rfl k
  refine mV rfl ?_
  refine bw 11 (d := 46) (v := vb ((((decide (0 ≤ x1.Header)) && (decide (x1.Header < (x0.Fields.length : Int)))) && (decide (0 ≤ x1.Field))) && (decide (x1.Field < ((ix x0.Fields x1.Header).length : Int))))) ?_ ?_
  ·intro S Q r
   cases a9 : (((decide (0 ≤ x1.Header)) && (decide (x1.Header < (x0.Fields.length : Int)))) && (decide (0 ≤ x1.Field)))
   ·exact gN 10 rfl rfl rfl rfl rfl rfl
   ·intro k
    have a5 := a9
    try simp only [qa] at a5
    refine ah rfl rfl (br rfl (ak.g_Field r1)) (ah rfl rfl (bq rfl rfl rfl) ?_)
    obtain ⟨b9, b5, a7⟩ := ai.g_Fields r0
    refine ah rfl rfl (br rfl b5) (ah rfl rfl (bq rfl (TR.cnt (tSl (tSl dg)) a7) (TR.agg (tSl (tSl dg)) a7)) (ah rfl rfl (br rfl (ak.g_Header r1)) (ah rfl rfl (bq rfl rfl rfl) ?_)))
    obtain ⟨b7, b2, a6⟩ := cr (i := x1.Header) a7 (by omega) (by omega)
    refine ah rfl rfl (bh rfl rfl b2) (ah rfl rfl (bq rfl (TR.cnt (tSl dg) a6) (TR.agg (tSl dg) a6)) (ah rfl rfl (cy rfl (co a6 Tryz.underlying43 _)) (ah rfl rfl (bp rfl rfl ct) ?_)))
    exact gK rfl rfl rfl rfl rfl k
  refine mV rfl (nS ?_)
  exact rR s rfl rfl rfl

def RF93 (res : Bool) (r : PV) : Prop := r = vb res
theorem bs3 {x0 : ai} {x1 : Int} {v0 : PV} (r0 : ai.t.R x0 v0) : FnR Tryz.prog 93 [v0, vi x1] (vb (pf x0 x1)) := by
 refine fnS (R := RF93) dg1 (fun _ h => h) rfl fun res s => ?_
 unfold pf at s
 refine sR (ae (cz rfl (TR.cnt ai.t r0)) (mB rfl (nR (mV rfl (bN ja rfl rfl (mV rfl ?_))))))
 refine bw 6 (d := 13) (v := vb ((decide (0 ≤ x1)) && (decide (x1 < (x0.Valid.length : Int))))) ?_ ?_
 ·intro S Q r
  cases a5 : (decide (0 ≤ x1))
  ·exact gN 5 rfl rfl rfl rfl rfl rfl
  ·intro k
   have a0 := a5
   try simp only [qa] at a0
   refine ah rfl rfl (ax rfl) ?_
   obtain ⟨a8, a6, a2⟩ := ai.g_Valid r0
   refine ah rfl rfl (br rfl a6) (ah rfl rfl (bq rfl (TR.cnt (tSl tB) a2) (TR.agg (tSl tB) a2)) (ah rfl rfl (cy rfl (co a2 Tryz.underlying41 _)) (ah rfl rfl (bp rfl rfl ct) ?_)))
   exact gK rfl rfl rfl rfl rfl k
 refine mV rfl ?_
 refine bw 6 (d := 20) (v := vb (((decide (0 ≤ x1)) && (decide (x1 < (x0.Valid.length : Int)))) && (ix x0.Valid x1))) ?_ ?_
 ·intro S Q r
  cases a4 : ((decide (0 ≤ x1)) && (decide (x1 < (x0.Valid.length : Int))))
  ·exact gN 5 rfl rfl rfl rfl rfl rfl
  ·intro k
   have a3 := a4
   try simp only [qa] at a3
   obtain ⟨a9, a7, a1⟩ := ai.g_Valid r0
   refine ah rfl rfl (br rfl a7) (ah rfl rfl (bq rfl (TR.cnt (tSl tB) a1) (TR.agg (tSl tB) a1)) (ah rfl rfl (ax rfl) (ah rfl rfl (bh rfl rfl (slB a1 (by omega) (by omega))) (ah rfl rfl (bq rfl rfl rfl) ?_))))
   exact gK rfl rfl rfl rfl rfl k
 refine mV rfl (nS ?_)
 exact rR s rfl rfl rfl

def RF49 (res : (BitVec 32)) (r : PV) : Prop := r = bd res
theorem dj5 {x0 : ai} {x1 : ak} {v0 v1 : PV} (r0 : ai.t.R x0 v0) (r1 : ak.t.R x1 v1) : FnR Tryz.prog 49 [v0, v1] (bd (sn x0 x1)) := by
 refine fnS (R := RF49) dp9 (fun _ h => h) rfl fun res s => ?_
 unfold sn at s
 refine sR (ae (cz rfl (TR.cnt ai.t r0)) (ae (cz rfl (TR.cnt ak.t r1)) (ae (v := bd 0#32) (ax rfl) (nS (au (sR (lD r0 rfl rfl rfl (lD r1 rfl rfl rfl ?_))))))))
 obtain ⟨b1, a1, s⟩ := bn s
 have a4 := bl4  r0 r1 
 rw [a1] at a4
 refine cL a4 rfl rfl (ab (TR.clo ai.t r0) (ab (TR.clo ak.t r1) ay)) (ae (gv rfl) (nS ?_))
 refine bt s rfl ?_ ?_ <;> clear s <;> intro c s <;> try simp only [qa] at c
 ·refine sR (ae (v := bd 0#32) (ax rfl) (nS ?_))
  exact rR s rfl rfl rfl
 ·refine ba (aq (au (sR (fL rfl (ak.g_Header r1) rfl rfl (bN (dn (b := -1)) rfl rfl (nS ?_))))))
  refine bt s rfl ?_ ?_ <;> clear s <;> intro c s <;> try simp only [qa] at c
  ·refine sR (gL (ai.g_Meta r0) rfl rfl rfl fun a9 a5 => (fL rfl (ak.g_Field r1) rfl rfl (ae (bh rfl rfl (vv a5 (by ((have hk := cd0 (by assumption) (by assumption) (by assumption); omega))) (by ((have hk := cd0 (by assumption) (by assumption) (by assumption); omega))))) (lR rfl rfl rfl (mV rfl (nS ?_))))))
   exact rR s rfl rfl rfl
  ·refine ba (aq (au (sR (lD r0 rfl rfl rfl (fL rfl (ak.g_Header r1) rfl rfl ?_)))))
   obtain ⟨a8, a0, s⟩ := bn s
   have a2 := bs3 (x1 := x1.Header) r0 
   rw [a0] at a2
   refine cL a2 rfl rfl (ab (TR.clo ai.t r0) (ab rfl ay)) (ae (gv rfl) (nS ?_))
   refine bt s rfl ?_ ?_ <;> clear s <;> intro c s <;> try simp only [qa] at c
   ·refine sR (ae (v := bd 0#32) (ax rfl) (nS ?_))
    exact rR s rfl rfl rfl
   ·refine ba (aq (sR (gL (ai.g_Fields r0) rfl rfl rfl fun b0 a6 => (fL rfl (ak.g_Header r1) rfl rfl ?_))))
    obtain ⟨b2, a7, a3⟩ := cr (i := x1.Header) a6 (by ((have hk := av5 (by assumption) (by assumption) (by assumption); omega))) (by ((have hk := av5 (by assumption) (by assumption) (by assumption); omega)))
    refine ae (bh rfl rfl a7) (lD a3 rfl rfl rfl (fL rfl (ak.g_Field r1) rfl rfl (ae (bh rfl rfl (vv a3 (by ((have hk := av5 (by assumption) (by assumption) (by assumption); omega))) (by ((have hk := av5 (by assumption) (by assumption) (by assumption); omega))))) (lR rfl rfl rfl (mV rfl (nS ?_))))))
    exact rR s rfl rfl rfl

def RF217 (res : (BitVec 32)) (r : PV) : Prop := r = bd res
theorem pk {x0 : BitVec 64} {x1 : Int} : FnR Tryz.prog 217 [jl x0, vi x1] (bd (ee x0 x1)) := by
 refine fnS (R := RF217) cw5 (fun _ h => h) rfl fun res s => ?_
 unfold ee at s
 refine sR (ae (v := bd 0#32) (ax rfl) (nS (au (sR (mV rfl ?_)))))
 obtain ⟨a5, a2, s⟩ := bn s
 have a0 := ux (x0 := x1)  
 rw [a2] at a0
 refine cL a0 rfl rfl (ab rfl ay) (ae (gv rfl) (nS ?_))
 refine bt s rfl ?_ ?_ <;> clear s <;> intro c s <;> try simp only [qa] at c
 ·refine sR (ae (v := bd 0#32) (ax rfl) (nS ?_))
  exact rR s rfl rfl rfl
 ·refine ba (aq (sR (mV rfl (mV rfl ?_))))
  obtain ⟨a4, a3, s⟩ := bn s
  have a1 := xc (x0 := x1)  (by ((have hk := rval (by assumption) (by assumption); omega)))
  rw [a3] at a1
  refine cL a1 rfl rfl (ab rfl ay) (ae (bp (a := jl x0) (b := jl a4) rfl rfl (ca7 (ct6 (by assumption) (by assumption) (by assumption)))) (ae (gi (a := jl (x0 % a4)) rfl (c_dw Tryz.underlying201 Tryz.underlying89)) (mV rfl (nS ?_))))
  exact rR s rfl rfl rfl

def RF218 (res : (BitVec 32)) (r : PV) : Prop := r = bd res
theorem ao1 {x0 : Bool} : FnR Tryz.prog 218 [vb x0] (bd (pm x0)) := by
 refine fnS (R := RF218) ci9 (fun _ h => h) rfl fun res s => ?_
 unfold pm at s
 refine sR (ae (v := bd 0#32) (ax rfl) (nS (au (sR (mV rfl (nS ?_))))))
 refine bt s rfl ?_ ?_ <;> clear s <;> intro c s <;> try simp only [qa] at c
 ·refine sR (ae (v := bd 1#32) (ax rfl) (nS ?_))
  exact rR s rfl rfl rfl
 ·refine ba (aq (sR (ae (v := bd 0#32) (ax rfl) (nS ?_))))
  exact rR s rfl rfl rfl

def RF260 (res : (BitVec 32)) (r : PV) : Prop := r = bd res
theorem cj6 {x0 : BitVec 32} {x1 : Int} : FnR Tryz.prog 260 [bd x0, vi x1] (bd (uc x0 x1)) := by
 refine fnS (R := RF260) cr0 (fun _ h => h) rfl fun res s => ?_
 unfold uc at s
 refine sR (ae (v := bd 0#32) (ax rfl) (nR (mV rfl ?_)))
 obtain ⟨a5, a3, s⟩ := bn s
 have a0 := bg2 (x0 := x1)  
 rw [a3] at a0
 refine cL a0 rfl rfl (ab rfl ay) (mV rfl (ae (gi (a := bd x0) rfl (c_wd Tryz.underlying89 Tryz.underlying201)) (mV rfl ?_)))
 obtain ⟨a4, a2, s⟩ := bn s
 have a1 := pk (x0 := (BitVec.setWidth 64 x0)) (x1 := x1)  
 rw [a2] at a1
 refine cL a1 rfl rfl (ab rfl (ab rfl ay)) (ae (bp (a := bd a5) (b := bd a4) rfl rfl da9) (mV rfl (nS ?_)))
 exact rR s rfl rfl rfl

def RF261 (res : (BitVec 32)) (r : PV) : Prop := r = bd res
theorem ab6 {S : List Fr} {res : (BitVec 32)} {x0 : BitVec 32} {x1 x2 : Int} {a9 : (BitVec 32)} (b1 : ee (BitVec.setWidth 64 x0) x2 = a9) {K0 : (BitVec 32) → (BitVec 32)}
  (b2 : ∀ {a1 : BitVec 32}, K0 a1 = res → PX Tryz.prog 0 S (QR Tryz.prog [(6, none)] (RF261 res)) [(7, bd a1)] ⟨0, []⟩) :
  ∀ {m : Nat} {a1 : BitVec 32} {a0 : Int} (b0 : m = Int.toNat (x1 - a0)) (a6 : 0 ≤ a0), mj x1 x2 K0 m a1 a0 = res → RC Tryz.prog (.loop by3) S (QR Tryz.prog [(6, none)] (RF261 res)) [(8, vi a0), (7, bd a1), (2, vi x2), (1, vi x1)] ⟨0, []⟩ := by
 intro m
 induction m with
 | zero =>
  intro a1 a0 b0 a6 s
  rw [mj] at s
  refine de (au (sR (mV rfl (mV rfl (bN ct rfl rfl (mV rfl ?_))))))
  refine bw 3 (d := 19) (v := vb ((decide (a0 < x1)) && (decide (a0 < 32)))) ?_ ?_
  ·intro S Q r
   cases a8 : (decide (a0 < x1))
   ·exact gN 2 rfl rfl rfl rfl rfl rfl
   ·intro k
    have a2 := a8
    try simp only [qa] at a2
    refine ah rfl rfl (ax rfl) (ah rfl rfl (bp rfl rfl ct) ?_)
    exact gK rfl rfl rfl rfl rfl k
  refine nS ?_
  refine cw rfl ?_ ?_ <;> intro c <;> try simp only [qa] at c
  ·omega
  refine fc (gh (dy ?_))
  exact wP (b2  s) rfl
 | succ m ih =>
  intro a1 a0 b0 a6 s
  rw [mj] at s
  refine de (au (sR (mV rfl (mV rfl (bN ct rfl rfl (mV rfl ?_))))))
  refine bw 3 (d := 19) (v := vb ((decide (a0 < x1)) && (decide (a0 < 32)))) ?_ ?_
  ·intro S Q r
   cases a7 : (decide (a0 < x1))
   ·exact gN 2 rfl rfl rfl rfl rfl rfl
   ·intro k
    have a3 := a7
    try simp only [qa] at a3
    refine ah rfl rfl (ax rfl) (ah rfl rfl (bp rfl rfl ct) ?_)
    exact gK rfl rfl rfl rfl rfl k
  refine nS ?_
  refine bt s rfl ?_ ?_ <;> clear s <;> intro c s <;> try simp only [qa] at c
  ·refine ba (aq (au (cb (bb (mV rfl (ae (gi (a := bd a1) rfl (c_wd Tryz.underlying89 Tryz.underlying201)) (ae (bp (a := jl 2#64) (b := jl (BitVec.setWidth 64 a1)) rfl rfl av0) (mV rfl ?_))))))))
   obtain ⟨b3, a5, s⟩ := bn s
   have a4 := pk (x0 := (2#64 * (BitVec.setWidth 64 a1))) (x1 := x2)  
   rw [a5] at a4
   refine cL a4 rfl rfl (ab rfl (ab rfl ay)) (mV rfl (cf (dj (aq (bb (mV rfl (bN fy rfl rfl (mV rfl ?_))))))))
   refine cf (du ?_)
   have u : wr (a0 + 1) = a0 + 1 := ek (by omega) (by omega)
   erw [u]
   exact wC (ih   (by omega) (by omega) s) rfl
  ·refine fc (gh (dy ?_))
   exact wP (b2  s) rfl

theorem ci3 {x0 : BitVec 32} {x1 x2 : Int} : FnR Tryz.prog 261 [bd x0, vi x1, vi x2] (bd (ug x0 x1 x2)) := by
 refine fnS (R := RF261) cw7 (fun _ h => h) rfl fun res s => ?_
 unfold ug at s
 refine sR (ae (v := bd 0#32) (ax rfl) (nR (mV rfl (ae (gi (a := bd x0) rfl (c_wd Tryz.underlying89 Tryz.underlying201)) (mV rfl ?_)))))
 obtain ⟨a3, a0, s⟩ := bn s
 have a1 := pk (x0 := (BitVec.setWidth 64 x0)) (x1 := x2)  
 rw [a0] at a1
 refine cL a1 rfl rfl (ab rfl (ab rfl ay)) (mV rfl (nS (au (sR (mI rfl (nS (cb ?_)))))))
 refine wC (ab6 a0 ?_  rfl (by omega) s) rfl
 ·intro a2 s
  refine gy (aq (sR (mV rfl (mV rfl (nS ?_)))))
  exact rR s rfl rfl rfl

def RF262 (res : (BitVec 32)) (r : PV) : Prop := r = bd res
theorem ac0 {S : List Fr} {res : (BitVec 32)} {x0 : BitVec 32} {x1 x2 : Int} {a7 : (BitVec 32)} (a9 : ee (BitVec.setWidth 64 x0) x2 = a7) {K0 : (BitVec 32) → (BitVec 32)}
  (b0 : ∀ {a1 : BitVec 32}, K0 a1 = res → PX Tryz.prog 0 S (QR Tryz.prog [(6, none)] (RF262 res)) [(7, bd a1)] ⟨0, []⟩) :
  ∀ {m : Nat} {a1 : BitVec 32} {a0 : Int} (a8 : m = Int.toNat (x1 - a0)) (a4 : 0 ≤ a0), mh x1 K0 m a1 a0 = res → RC Tryz.prog (.loop br1) S (QR Tryz.prog [(6, none)] (RF262 res)) [(8, vi a0), (7, bd a1), (1, vi x1)] ⟨0, []⟩ := by
 intro m
 induction m with
 | zero =>
  intro a1 a0 a8 a4 s
  rw [mh] at s
  refine de (au (sR (mV rfl (mV rfl (bN ct rfl rfl (mV rfl ?_))))))
  refine bw 3 (d := 19) (v := vb ((decide (a0 < x1)) && (decide (a0 < 32)))) ?_ ?_
  ·intro S Q r
   cases a6 : (decide (a0 < x1))
   ·exact gN 2 rfl rfl rfl rfl rfl rfl
   ·intro k
    have a2 := a6
    try simp only [qa] at a2
    refine ah rfl rfl (ax rfl) (ah rfl rfl (bp rfl rfl ct) ?_)
    exact gK rfl rfl rfl rfl rfl k
  refine nS ?_
  refine cw rfl ?_ ?_ <;> intro c <;> try simp only [qa] at c
  ·omega
  refine fc (gh (dy ?_))
  exact wP (b0  s) rfl
 | succ m ih =>
  intro a1 a0 a8 a4 s
  rw [mh] at s
  refine de (au (sR (mV rfl (mV rfl (bN ct rfl rfl (mV rfl ?_))))))
  refine bw 3 (d := 19) (v := vb ((decide (a0 < x1)) && (decide (a0 < 32)))) ?_ ?_
  ·intro S Q r
   cases a5 : (decide (a0 < x1))
   ·exact gN 2 rfl rfl rfl rfl rfl rfl
   ·intro k
    have a3 := a5
    try simp only [qa] at a3
    refine ah rfl rfl (ax rfl) (ah rfl rfl (bp rfl rfl ct) ?_)
    exact gK rfl rfl rfl rfl rfl k
  refine nS ?_
  refine bt s rfl ?_ ?_ <;> clear s <;> intro c s <;> try simp only [qa] at c
  ·refine ba (aq (au (cb (bb (mV rfl (ae (bp (a := bd a1) (b := bd 2#32) rfl rfl (dz6 (by decide))) (mV rfl (cf ?_))))))))
   refine dj (aq (bb (mV rfl (bN fy rfl rfl (mV rfl (cf (du ?_)))))))
   have u : wr (a0 + 1) = a0 + 1 := ek (by omega) (by omega)
   erw [u]
   exact wC (ih   (by omega) (by omega) s) rfl
  ·refine fc (gh (dy ?_))
   exact wP (b0  s) rfl

theorem ck4 {x0 : BitVec 32} {x1 x2 : Int} : FnR Tryz.prog 262 [bd x0, vi x1, vi x2] (bd (ue x0 x1 x2)) := by
 refine fnS (R := RF262) ct5 (fun _ h => h) rfl fun res s => ?_
 unfold ue at s
 refine sR (ae (v := bd 0#32) (ax rfl) (nR (mV rfl (ae (gi (a := bd x0) rfl (c_wd Tryz.underlying89 Tryz.underlying201)) (mV rfl ?_)))))
 obtain ⟨a3, a0, s⟩ := bn s
 have a1 := pk (x0 := (BitVec.setWidth 64 x0)) (x1 := x2)  
 rw [a0] at a1
 refine cL a1 rfl rfl (ab rfl (ab rfl ay)) (mV rfl (nS (au (sR (mI rfl (nS (cb ?_)))))))
 refine wC (ac0 a0 ?_  rfl (by omega) s) rfl
 ·intro a2 s
  refine gy (aq (sR (mV rfl (mV rfl (nS ?_)))))
  exact rR s rfl rfl rfl

def RF263 (res : (BitVec 32)) (r : PV) : Prop := r = bd res
theorem cw4 {x0 : BitVec 32} {x1 x2 : Int} : FnR Tryz.prog 263 [bd x0, vi x1, vi x2] (bd (sd x0 x1 x2)) := by
 refine fnS (R := RF263) co0 (fun _ h => h) rfl fun res s => ?_
 unfold sd at s
 refine sR (ae (v := bd 0#32) (ax rfl) (nS (au (sR (mV rfl ?_)))))
 obtain ⟨a0, a6, s⟩ := bn s
 have b0 := ux (x0 := x2)  
 rw [a6] at b0
 refine cL b0 rfl rfl (ab rfl ay) (ae (gv rfl) (mV rfl ?_))
 refine bw 3 (d := 13) (v := vb ((!a0) || (decide (x1 < 0)))) ?_ ?_
 ·intro S Q r
  cases b1 : (!a0)
  ·intro k
   have a1 := b1
   try simp only [qa] at a1
   refine ah rfl rfl (ax rfl) (ah rfl rfl (bp rfl rfl ct) ?_)
   exact gK rfl rfl rfl rfl rfl k
  ·exact gN 2 rfl rfl rfl rfl rfl rfl
 refine mV rfl ?_
 refine bw 5 (d := 19) (v := vb (((!a0) || (decide (x1 < 0))) || (decide ((wr (32 - x2)) < x1)))) ?_ ?_
 ·intro S Q r
  cases a7 : ((!a0) || (decide (x1 < 0)))
  ·intro k
   have a2 := a7
   try simp only [qa] at a2
   refine ah rfl rfl (ax rfl) (ah rfl rfl (ax rfl) (ah rfl rfl (bp rfl rfl au3) (ah rfl rfl (bp rfl rfl ki) ?_)))
   exact gK rfl rfl rfl rfl rfl k
  ·exact gN 4 rfl rfl rfl rfl rfl rfl
 refine nS ?_
 refine bt s rfl ?_ ?_ <;> clear s <;> intro c s <;> try simp only [qa] at c
 ·refine sR (ae (v := bd 0#32) (ax rfl) (nS ?_))
  exact rR s rfl rfl rfl
 ·refine ba (aq (sR (mV rfl (ae (gi (a := bd x0) rfl (c_wd Tryz.underlying89 Tryz.underlying201)) (mV rfl ?_)))))
  obtain ⟨a4, a5, s⟩ := bn s
  have a9 := xc (x0 := x1)  (by ((have hk := rval (by assumption) (And.left (And.left (by assumption))); have hz := rslc (by assumption); omega)))
  rw [a5] at a9
  refine cL a9 rfl rfl (ab rfl ay) (ae (bp (a := jl (BitVec.setWidth 64 x0)) (b := jl a4) rfl rfl (ea0 (cd2 (by assumption) (by assumption) (by assumption)))) (mV rfl ?_))
  obtain ⟨b2, a8, s⟩ := bn s
  have a3 := pk (x0 := ((BitVec.setWidth 64 x0) / a4)) (x1 := x2)  
  rw [a8] at a3
  refine cL a3 rfl rfl (ab rfl (ab rfl ay)) (mV rfl (nS ?_))
  exact rR s rfl rfl rfl

def RF264 (res : (BitVec 32)) (r : PV) : Prop := r = bd res
theorem cz1 {x0 : BitVec 32} {x1 : BitVec 32} {x2 : Int} : FnR Tryz.prog 264 [bd x0, bd x1, vi x2] (bd (uf x0 x1 x2)) := by
 refine fnS (R := RF264) cr4 (fun _ h => h) rfl fun res s => ?_
 unfold uf at s
 refine sR (ae (v := bd 0#32) (ax rfl) (nR (mV rfl (ae (gi (a := bd x0) rfl (c_wd Tryz.underlying89 Tryz.underlying201)) (mV rfl (ae (gi (a := bd x1) rfl (c_wd Tryz.underlying89 Tryz.underlying201)) (ae (bp (a := jl (BitVec.setWidth 64 x0)) (b := jl (BitVec.setWidth 64 x1)) rfl rfl db2) (mV rfl ?_))))))))
 obtain ⟨a2, a1, s⟩ := bn s
 have a0 := pk (x0 := ((BitVec.setWidth 64 x0) + (BitVec.setWidth 64 x1))) (x1 := x2)  
 rw [a1] at a0
 refine cL a0 rfl rfl (ab rfl (ab rfl ay)) (mV rfl (nS ?_))
 exact rR s rfl rfl rfl

def RF265 (res : (BitVec 32)) (r : PV) : Prop := r = bd res
theorem cn6 {x0 : BitVec 32} {x1 : BitVec 32} {x2 : Int} : FnR Tryz.prog 265 [bd x0, bd x1, vi x2] (bd (uj x0 x1 x2)) := by
 refine fnS (R := RF265) cr9 (fun _ h => h) rfl fun res s => ?_
 unfold uj at s
 refine sR (ae (v := bd 0#32) (ax rfl) (nS (au (sR (mV rfl ?_)))))
 obtain ⟨b4, a6, s⟩ := bn s
 have b2 := ux (x0 := x2)  
 rw [a6] at b2
 refine cL b2 rfl rfl (ab rfl ay) (ae (gv rfl) (nS ?_))
 refine bt s rfl ?_ ?_ <;> clear s <;> intro c s <;> try simp only [qa] at c
 ·refine sR (ae (v := bd 0#32) (ax rfl) (nS ?_))
  exact rR s rfl rfl rfl
 ·refine ba (aq (sR (mV rfl ?_)))
  obtain ⟨a2, b1, s⟩ := bn s
  have a8 := xc (x0 := x2)  (by ((have hk := rval (by assumption) (by assumption); omega)))
  rw [b1] at a8
  refine cL a8 rfl rfl (ab rfl ay) (mV rfl (ae (gi (a := bd x0) rfl (c_wd Tryz.underlying89 Tryz.underlying201)) (mV rfl ?_)))
  obtain ⟨a0, a4, s⟩ := bn s
  have a7 := pk (x0 := (BitVec.setWidth 64 x0)) (x1 := x2)  
  rw [a4] at a7
  refine cL a7 rfl rfl (ab rfl (ab rfl ay)) (ae (gi (a := bd a0) rfl (c_wd Tryz.underlying89 Tryz.underlying201)) (ae (bp (a := jl a2) (b := jl (BitVec.setWidth 64 a0)) rfl rfl db2) (mV rfl (ae (gi (a := bd x1) rfl (c_wd Tryz.underlying89 Tryz.underlying201)) (mV rfl ?_)))))
  obtain ⟨a1, a5, s⟩ := bn s
  have b0 := pk (x0 := (BitVec.setWidth 64 x1)) (x1 := x2)  
  rw [a5] at b0
  refine cL b0 rfl rfl (ab rfl (ab rfl ay)) (ae (gi (a := bd a1) rfl (c_wd Tryz.underlying89 Tryz.underlying201)) (ae (bp (a := jl (a2 + (BitVec.setWidth 64 a0))) (b := jl (BitVec.setWidth 64 a1)) rfl rfl dd1) (mV rfl ?_)))
  obtain ⟨b3, a9, s⟩ := bn s
  have a3 := pk (x0 := ((a2 + (BitVec.setWidth 64 a0)) - (BitVec.setWidth 64 a1))) (x1 := x2)  
  rw [a9] at a3
  refine cL a3 rfl rfl (ab rfl (ab rfl ay)) (mV rfl (nS ?_))
  exact rR s rfl rfl rfl

def RF266 (res : (BitVec 32) × Bool) (r : PV) : Prop := r = .tup [bd res.1, vb res.2]
theorem cl5 {x0 : BitVec 32} {x1 : Int} {x2 : BitVec 32} {x3 : Int} : FnR Tryz.prog 266 [bd x0, vi x1, bd x2, vi x3] (.tup [bd ((ph x0 x1 x2 x3).1), vb ((ph x0 x1 x2 x3).2)]) := by
 refine fnS (R := RF266) cv6 (fun _ h => h) rfl fun res s => ?_
 unfold ph at s
 refine sR (ae (v := bd 0#32) (ax rfl) (mB rfl (nS (au (sR (mV rfl ?_))))))
 obtain ⟨a1, a6, s⟩ := bn s
 have b3 := ux (x0 := x1)  
 rw [a6] at b3
 refine cL b3 rfl rfl (ab rfl ay) (ae (gv rfl) (mV rfl ?_))
 refine bw 4 (d := 17) (v := vb ((!a1) || (!(en x3)))) ?_ ?_
 ·intro S Q r
  cases b4 : (!a1)
  ·intro k
   have a2 := b4
   try simp only [qa] at a2
   refine ah rfl rfl (ax rfl) ?_
   have b5 := ux (x0 := x3)  
   refine jm rfl rfl (qq rfl rfl (ab rfl ay) b5) (ah rfl rfl (gv rfl) ?_)
   exact gK rfl rfl rfl rfl rfl k
  ·exact gN 3 rfl rfl rfl rfl rfl rfl
 refine mV rfl ?_
 refine bw 5 (d := 23) (v := vb (((!a1) || (!(en x3))) || (decide (32 < (wr (x1 + x3)))))) ?_ ?_
 ·intro S Q r
  cases b1 : ((!a1) || (!(en x3)))
  ·intro k
   have a3 := b1
   try simp only [qa] at a3
   refine ah rfl rfl (ax rfl) (ah rfl rfl (ax rfl) (ah rfl rfl (bp rfl rfl fy) (ah rfl rfl (bp rfl rfl ki) ?_)))
   exact gK rfl rfl rfl rfl rfl k
  ·exact gN 4 rfl rfl rfl rfl rfl rfl
 refine nS ?_
 refine bt s rfl ?_ ?_ <;> clear s <;> intro c s <;> try simp only [qa] at c
 ·refine sR (ae (v := bd 0#32) (ax rfl) (mB rfl (nS ?_)))
  exact rT s rfl rfl rfl rfl rfl
 ·refine ba (aq (sR (mV rfl (ae (gi (a := bd x0) rfl (c_wd Tryz.underlying89 Tryz.underlying201)) (mV rfl ?_)))))
  obtain ⟨a0, a9, s⟩ := bn s
  have a5 := pk (x0 := (BitVec.setWidth 64 x0)) (x1 := x1)  
  rw [a9] at a5
  refine cL a5 rfl rfl (ab rfl (ab rfl ay)) (ae (gi (a := bd a0) rfl (c_wd Tryz.underlying89 Tryz.underlying201)) (mV rfl ?_))
  obtain ⟨a4, b2, s⟩ := bn s
  have a7 := xc (x0 := x3)  (by ((have hk := rval rfl (And.right (And.left (by assumption))); omega)))
  rw [b2] at a7
  refine cL a7 rfl rfl (ab rfl ay) (ae (bp (a := jl (BitVec.setWidth 64 a0)) (b := jl a4) rfl rfl av0) (ae (gi (a := jl ((BitVec.setWidth 64 a0) * a4)) rfl (c_dw Tryz.underlying201 Tryz.underlying89)) (mV rfl (ae (gi (a := bd x2) rfl (c_wd Tryz.underlying89 Tryz.underlying201)) (mV rfl ?_)))))
  obtain ⟨b6, a8, s⟩ := bn s
  have b0 := pk (x0 := (BitVec.setWidth 64 x2)) (x1 := x3)  
  rw [a8] at b0
  refine cL b0 rfl rfl (ab rfl (ab rfl ay)) (ae (bp (a := bd (BitVec.setWidth 32 ((BitVec.setWidth 64 a0) * a4))) (b := bd b6) rfl rfl dc4) (mV rfl (mB rfl (nS ?_))))
  exact rT s rfl rfl rfl rfl rfl

def RF220 (res : (BitVec 32)) (r : PV) : Prop := r = bd res
theorem ch1 {x0 : aa} {x1 : List az} {v0 v1 : PV} (r0 : aa.t.R x0 v0) (r1 : (tSl az.t).R x1 v1) (hl : (x1.length : Int) = fe x0.Op) (h1 : 1 ≤ x1.length) : FnR Tryz.prog 220 [v0, v1] (bd (im x0 x1)) := by
 refine fnS (R := RF220) cu6 (fun _ h => h) rfl fun res s => ?_
 unfold im at s
 refine sR (ae (cz rfl (TR.cnt aa.t r0)) (ae (v := bd 0#32) (ax rfl) (nR (mV rfl ?_))))
 obtain ⟨i6, e1, f3⟩ := cr (i := 0) r1 (by omega) (by omega)
 refine ae (bh rfl rfl e1) (fL rfl (az.g_W f3) rfl rfl (mV rfl (nS (au (sR (fL rfl (aa.g_Op r0) rfl rfl (nS (cb ?_))))))))
 refine sR (bN dn rfl rfl (mV rfl (nS ?_)))
 refine bt s rfl ?_ ?_ <;> clear s <;> intro c s <;> try simp only [qa] at c
 ·refine sR (mV rfl ?_)
  obtain ⟨i3, f1, e4⟩ := cr (i := 0) r1 (by omega) (by omega)
  refine ae (bh rfl rfl f1) (fL rfl (az.g_V e4) rfl rfl (mV rfl ?_))
  obtain ⟨k4, a8, s⟩ := bn s
  have b3 := cj6 (x0 := (ix x1 0).V) (x1 := (ix x1 0).W)  
  rw [a8] at b3
  refine cL b3 rfl rfl (ab rfl (ab rfl ay)) (mV rfl (nS ?_))
  exact rR s rfl rfl rfl
 ·refine sR (bN dn rfl rfl (mV rfl (nS ?_)))
  refine bt s rfl ?_ ?_ <;> clear s <;> intro c s <;> try simp only [qa] at c
  ·refine sR (mV rfl ?_)
   obtain ⟨i1, e5, c4⟩ := cr (i := 0) r1 (by omega) (by omega)
   refine ae (bh rfl rfl e5) (fL rfl (az.g_V c4) rfl rfl (fL rfl (aa.g_N r0) rfl rfl (mV rfl ?_)))
   obtain ⟨j6, a4, s⟩ := bn s
   have a6 := ci3 (x0 := (ix x1 0).V) (x1 := x0.N) (x2 := (ix x1 0).W)  
   rw [a4] at a6
   refine cL a6 rfl rfl (ab rfl (ab rfl (ab rfl ay))) (mV rfl (nS ?_))
   exact rR s rfl rfl rfl
  ·refine sR (bN dn rfl rfl (mV rfl (nS ?_)))
   refine bt s rfl ?_ ?_ <;> clear s <;> intro c s <;> try simp only [qa] at c
   ·refine sR (mV rfl ?_)
    obtain ⟨j5, g1, g7⟩ := cr (i := 0) r1 (by omega) (by omega)
    refine ae (bh rfl rfl g1) (fL rfl (az.g_V g7) rfl rfl (fL rfl (aa.g_N r0) rfl rfl (mV rfl ?_)))
    obtain ⟨i0, a5, s⟩ := bn s
    have b7 := ck4 (x0 := (ix x1 0).V) (x1 := x0.N) (x2 := (ix x1 0).W)  
    rw [a5] at b7
    refine cL b7 rfl rfl (ab rfl (ab rfl (ab rfl ay))) (mV rfl (nS ?_))
    exact rR s rfl rfl rfl
   ·refine sR (bN dn rfl rfl (mV rfl (nS ?_)))
    refine bt s rfl ?_ ?_ <;> clear s <;> intro c s <;> try simp only [qa] at c
    ·refine sR (mV rfl ?_)
     obtain ⟨h4, e2, g5⟩ := cr (i := 0) r1 (by omega) (by omega)
     refine ae (bh rfl rfl e2) (fL rfl (az.g_V g5) rfl rfl (fL rfl (aa.g_N r0) rfl rfl (fL rfl (aa.g_W r0) rfl rfl ?_)))
     obtain ⟨k6, a9, s⟩ := bn s
     have b4 := cw4 (x0 := (ix x1 0).V) (x1 := x0.N) (x2 := x0.W)  
     rw [a9] at b4
     refine cL b4 rfl rfl (ab rfl (ab rfl (ab rfl ay))) (mV rfl (nS ?_))
     exact rR s rfl rfl rfl
    ·refine sR (bN dn rfl rfl (mV rfl (nS ?_)))
     refine bt s rfl ?_ ?_ <;> clear s <;> intro c s <;> try simp only [qa] at c
     ·refine sR (mV rfl ?_)
      obtain ⟨j3, b8, f2⟩ := cr (i := 0) r1 (by omega) (by omega)
      refine ae (bh rfl rfl b8) (fL rfl (az.g_V f2) rfl rfl (mV rfl ?_))
      obtain ⟨i5, d0, c1⟩ := cr (i := 1) r1 (by omega) (by ((have hk := opl hl; omega)))
      refine ae (bh rfl rfl d0) (fL rfl (az.g_V c1) rfl rfl (mV rfl ?_))
      obtain ⟨h6, b1, s⟩ := bn s
      have a7 := cz1 (x0 := (ix x1 0).V) (x1 := (ix x1 1).V) (x2 := (ix x1 0).W)  
      rw [b1] at a7
      refine cL a7 rfl rfl (ab rfl (ab rfl (ab rfl ay))) (mV rfl (nS ?_))
      exact rR s rfl rfl rfl
     ·refine sR (bN dn rfl rfl (mV rfl (nS ?_)))
      refine bt s rfl ?_ ?_ <;> clear s <;> intro c s <;> try simp only [qa] at c
      ·refine sR (mV rfl ?_)
       obtain ⟨i9, c5, g3⟩ := cr (i := 0) r1 (by omega) (by omega)
       refine ae (bh rfl rfl c5) (fL rfl (az.g_V g3) rfl rfl (mV rfl ?_))
       obtain ⟨i7, b9, f9⟩ := cr (i := 1) r1 (by omega) (by ((have hk := opl hl; omega)))
       refine ae (bh rfl rfl b9) (fL rfl (az.g_V f9) rfl rfl (mV rfl ?_))
       obtain ⟨i2, b2, s⟩ := bn s
       have b0 := cn6 (x0 := (ix x1 0).V) (x1 := (ix x1 1).V) (x2 := (ix x1 0).W)  
       rw [b2] at b0
       refine cL b0 rfl rfl (ab rfl (ab rfl (ab rfl ay))) (mV rfl (nS ?_))
       exact rR s rfl rfl rfl
      ·refine sR (bN dn rfl rfl (mV rfl (nS ?_)))
       refine bt s rfl ?_ ?_ <;> clear s <;> intro c s <;> try simp only [qa] at c
       ·refine sR (mV rfl ?_)
        obtain ⟨k5, c6, d5⟩ := cr (i := 0) r1 (by omega) (by omega)
        refine ae (bh rfl rfl c6) (fL rfl (az.g_V d5) rfl rfl (mV rfl ?_))
        obtain ⟨j1, f8, d3⟩ := cr (i := 1) r1 (by omega) (by ((have hk := opl hl; omega)))
        refine ae (bh rfl rfl f8) (fL rfl (az.g_V d3) rfl rfl (ae (bp (a := bd ((ix x1 0).V)) (b := bd ((ix x1 1).V)) rfl rfl qe) (mV rfl (nS ?_))))
        exact rR s rfl rfl rfl
       ·refine sR (bN dn rfl rfl (mV rfl (nS ?_)))
        refine bt s rfl ?_ ?_ <;> clear s <;> intro c s <;> try simp only [qa] at c
        ·refine sR (mV rfl ?_)
         obtain ⟨j2, g2, e8⟩ := cr (i := 0) r1 (by omega) (by omega)
         refine ae (bh rfl rfl g2) (fL rfl (az.g_V e8) rfl rfl (mV rfl ?_))
         obtain ⟨j4, d8, f6⟩ := cr (i := 1) r1 (by omega) (by ((have hk := opl hl; omega)))
         refine ae (bh rfl rfl d8) (fL rfl (az.g_V f6) rfl rfl (ae (bp (a := bd ((ix x1 0).V)) (b := bd ((ix x1 1).V)) rfl rfl w_or) (mV rfl (nS ?_))))
         exact rR s rfl rfl rfl
        ·refine sR (bN dn rfl rfl (mV rfl (nS ?_)))
         refine bt s rfl ?_ ?_ <;> clear s <;> intro c s <;> try simp only [qa] at c
         ·refine sR (mV rfl ?_)
          obtain ⟨i4, h0, g6⟩ := cr (i := 0) r1 (by omega) (by omega)
          refine ae (bh rfl rfl h0) (fL rfl (az.g_V g6) rfl rfl (mV rfl ?_))
          obtain ⟨j9, e0, e7⟩ := cr (i := 1) r1 (by omega) (by ((have hk := opl hl; omega)))
          refine ae (bh rfl rfl e0) (fL rfl (az.g_V e7) rfl rfl (ae (bp (a := bd ((ix x1 0).V)) (b := bd ((ix x1 1).V)) rfl rfl da6) (mV rfl (nS ?_))))
          exact rR s rfl rfl rfl
         ·refine sR (bN dn rfl rfl (mV rfl (nS ?_)))
          refine bt s rfl ?_ ?_ <;> clear s <;> intro c s <;> try simp only [qa] at c
          ·refine sR (mV rfl ?_)
           obtain ⟨h5, d1, g4⟩ := cr (i := 0) r1 (by omega) (by omega)
           refine ae (bh rfl rfl d1) (fL rfl (az.g_V g4) rfl rfl (mV rfl (mV rfl ?_)))
           obtain ⟨k3, e9, f7⟩ := cr (i := 1) r1 (by omega) (by ((have hk := opl hl; omega)))
           refine ae (bh rfl rfl e9) (fL rfl (az.g_V f7) rfl rfl (mV rfl ?_))
           obtain ⟨k7, f5, c7⟩ := cr (i := 1) r1 (by omega) (by ((have hk := opl hl; omega)))
           refine ae (bh rfl rfl f5) (fL rfl (az.g_W c7) rfl rfl ?_)
           obtain ⟨j7, a2, s⟩ := bn s
           have a1 := cl5 (x0 := (ix x1 0).V) (x1 := (ix x1 0).W) (x2 := (ix x1 1).V) (x3 := (ix x1 1).W)  
           rw [a2] at a1
           refine cL a1 rfl rfl (ab rfl (ab rfl (ab rfl (ab rfl ay)))) (mV rfl (xT rfl rfl (xT rfl rfl (mV rfl (mV rfl (nR (mV rfl (mV rfl ?_))))))))
           refine nS ?_
           exact rR s rfl rfl rfl
          ·refine sR (bN dn rfl rfl (mV rfl (nS ?_)))
           refine bt s rfl ?_ ?_ <;> clear s <;> intro c s <;> try simp only [qa] at c
           ·refine sR (mV rfl ?_)
            obtain ⟨h9, c9, d2⟩ := cr (i := 0) r1 (by omega) (by omega)
            refine ae (bh rfl rfl c9) (fL rfl (az.g_V d2) rfl rfl (mV rfl ?_))
            obtain ⟨h7, d6, g9⟩ := cr (i := 1) r1 (by omega) (by ((have hk := opl hl; omega)))
            refine ae (bh rfl rfl d6) (fL rfl (az.g_V g9) rfl rfl (ae (bp (a := bd ((ix x1 0).V)) (b := bd ((ix x1 1).V)) rfl rfl av6) ?_))
            obtain ⟨h8, b5, s⟩ := bn s
            have a3 := ao1 (x0 := (decide (((ix x1 0).V) = ((ix x1 1).V))))  
            rw [b5] at a3
            refine cL a3 rfl rfl (ab rfl ay) (mV rfl (nS ?_))
            exact rR s rfl rfl rfl
           ·refine sR (bN dn rfl rfl (mV rfl (nS ?_)))
            refine bt s rfl ?_ ?_ <;> clear s <;> intro c s <;> try simp only [qa] at c
            ·refine sR (mV rfl ?_)
             obtain ⟨h3, d4, c8⟩ := cr (i := 0) r1 (by omega) (by omega)
             refine ae (bh rfl rfl d4) (fL rfl (az.g_V c8) rfl rfl (mV rfl ?_))
             obtain ⟨h2, e3, g0⟩ := cr (i := 1) r1 (by omega) (by ((have hk := opl hl; omega)))
             refine ae (bh rfl rfl e3) (fL rfl (az.g_V g0) rfl rfl (ae (bp (a := bd ((ix x1 0).V)) (b := bd ((ix x1 1).V)) rfl rfl dc5) ?_))
             obtain ⟨j8, b6, s⟩ := bn s
             have a0 := ao1 (x0 := (decide (((ix x1 0).V) < ((ix x1 1).V))))  
             rw [b6] at a0
             refine cL a0 rfl rfl (ab rfl ay) (mV rfl (nS ?_))
             exact rR s rfl rfl rfl
            ·refine ba (dj (aq (au (sR (mV rfl ?_)))))
             obtain ⟨i8, f0, f4⟩ := cr (i := 0) r1 (by omega) (by omega)
             refine ae (bh rfl rfl f0) (fL rfl (az.g_V f4) rfl rfl (ae (bp (a := bd ((ix x1 0).V)) (b := bd 1#32) rfl rfl av6) (nS ?_)))
             refine bt s rfl ?_ ?_ <;> clear s <;> intro c s <;> try simp only [qa] at c
             ·refine sR (mV rfl ?_)
              obtain ⟨k0, d7, d9⟩ := cr (i := 1) r1 (by omega) (by ((have hk := opl hl; omega)))
              refine ae (bh rfl rfl d7) (fL rfl (az.g_V d9) rfl rfl (mV rfl (nS ?_)))
              exact rR s rfl rfl rfl
             ·refine ba (aq (sR (mV rfl ?_)))
              obtain ⟨j0, g8, e6⟩ := cr (i := 2) r1 (by omega) (by ((have hk := opl hl; omega)))
              refine ae (bh rfl rfl g8) (fL rfl (az.g_V e6) rfl rfl (mV rfl (nS ?_)))
              exact rR s rfl rfl rfl

def RF157 (res : az) (r : PV) : Prop := az.t.R res r
theorem aa4 {S : List Fr} {res : az} {x0 : List aa} {x1 : Int} {x2 : aj} {x3 : ai} {x4 : List (BitVec 32)} {rec_ : (List aa) → Int → aj → ai → (List (BitVec 32)) → az} {mu_ : Nat} {d2 : Int × Int × Int} {v0 v2 v3 v4 b6 : PV} {b2 b1 b0 b3 : Nat} (r0 : (tSl aa.t).R x0 v0) (r2 : aj.t.R x2 v2) (r3 : ai.t.R x3 v3) (r4 : (tSl dg).R x4 v4) (hv : Ok x2 x0 x1) (ihR : ∀ {z0 : List aa} {z1 : Int} {z2 : aj} {z3 : ai} {z4 : List (BitVec 32)} {g2 f9 f8 g0 : PV} (g8 : (tSl aa.t).R z0 g2) (g9 : aj.t.R z2 f9) (h2 : ai.t.R z3 f8) (h1 : (tSl dg).R z4 g0) (hv : Ok z2 z0 z1), (z0.length - z1.toNat) < mu_ → ∃ r, FnR Tryz.prog 157 [g2, vi z1, f9, f8, g0] r ∧ az.t.R (rec_ z0 z1 z2 z3 z4) r) (hmu : mu_ = (x0.length - x1.toNat)) (hrec : ∀ (z0 : List aa) (z1 : Int) (z2 : aj) (z3 : ai) (z4 : List (BitVec 32)), Ok z2 z0 z1 → (rec_ z0 z1 z2 z3 z4).To = nx z2 z0 z1) (e1 : aa.t.R (ix x0 x1) b6) (f5 : nk x0 x1 x2 = d2) (d7 : (decide (((ix x0 x1).Op) = 1)) = false) (d5 : (decide (((ix x0 x1).Op) = 2)) = false) (e3 : (decide (((ix x0 x1).Op) = 3)) = false) (d3 : (decide (((ix x0 x1).Op) = 4)) = false) {K1 : Int → (List az) → az}
  (f6 : ∀ {a6 : Int} {a1 : List az} {a0 : List PV} {a2 : PV} (a5 : All2 az.t.R a1 a0) (a7 : isL a2 = true) (a3 : Wri a2 a0) (a4 : a1.length ≤ 4611686018427387904) (h0 : (a1.length : Int) = fe ((ix x0 x1).Op)) {h : Heap} (M0 : Mem h [⟨a2, 204, 3, a0⟩, ⟨.op b0 b3 0, 113, 3, [b6]⟩, ⟨.op b2 b1 0, 204, 3, [.agg [bd 0#32, vi 0, vi 0]]⟩]), K1 a6 a1 = res → PX Tryz.prog 1 S (QR Tryz.prog [(10, some (3, true))] (RF157 res)) [(10, .op b2 b1 0), (11, .op b0 b3 0), (12, vi d2.1), (16, a2), (17, vi a6)] h) :
  ∀ {m : Nat} {a6 a8 : Int} {a1 : List az} {a0 : List PV} {a2 : PV} (a5 : All2 az.t.R a1 a0) (a7 : isL a2 = true) (a3 : Wri a2 a0) (a4 : a1.length ≤ 4611686018427387904) (f7 : (fe ((ix x0 x1).Op) - a8) ≤ (m : Int)) (c7 : EI x2 x0 x1 a6 a8) (c1 : (a1.length : Int) = a8) (b9 : a8 ≤ fe ((ix x0 x1).Op)) (c6 : 0 ≤ a8) {h : Heap} (M0 : Mem h [⟨a2, 204, 3, a0⟩, ⟨.op b0 b3 0, 113, 3, [b6]⟩, ⟨.op b2 b1 0, 204, 3, [.agg [bd 0#32, vi 0, vi 0]]⟩]), jc x0 x1 x2 x3 x4 rec_ K1 m a6 a8 a1 = res → RC Tryz.prog (.loop bs6) S (QR Tryz.prog [(10, some (3, true))] (RF157 res)) [(18, vi a8), (17, vi a6), (16, a2), (12, vi d2.1), (11, .op b0 b3 0), (10, .op b2 b1 0), (8, .fp v3), (7, .fp v2), (4, v4), (0, v0)] h := by
 have c9 := d7
 try simp only [qa] at c9
 have d1 := d5
 try simp only [qa] at d1
 have c8 := e3
 try simp only [qa] at c8
 have d0 := d3
 try simp only [qa] at d0
 intro m
 induction m with
 | zero =>
  intro a6 a8 a1 a0 a2 a5 a7 a3 a4 f7 c7 c1 b9 c6 h M0 s
  rw [jc] at s
  refine de (au (sR (mV rfl (ae (bv rfl) (ae (cq (k := 1) M0 rfl rfl (aa.g_Op e1)) ?_)))))
  obtain ⟨g7, d4⟩ : ∃ y_, fe ((ix x0 x1).Op) = y_ := ⟨_, rfl⟩
  have d8 := an7 (x0 := (ix x0 x1).Op)  
  rw [d4] at d8
  refine cL d8 rfl rfl (ab rfl ay) (bN ct rfl rfl (nS ?_))
  refine cw rfl ?_ ?_ <;> intro c <;> try simp only [qa] at c
  ·omega
  refine fc (gh (dy ?_))
  exact wP (f6 a5 a7 a3 a4 (by omega) (Mem.sub M0 (.cons_cons _ (.cons_cons _ (.cons_cons _ .slnil)))) s) rfl
 | succ m ih =>
  intro a6 a8 a1 a0 a2 a5 a7 a3 a4 f7 c7 c1 b9 c6 h M0 s
  rw [jc] at s
  refine de (au (sR (mV rfl (ae (bv rfl) (ae (cq (k := 1) M0 rfl rfl (aa.g_Op e1)) ?_)))))
  obtain ⟨g4, e6, s⟩ := bn s
  have e4 := an7 (x0 := (ix x0 x1).Op)  
  rw [e6] at e4
  refine cL e4 rfl rfl (ab rfl ay) (bN ct rfl rfl (nS ?_))
  refine bt s rfl ?_ ?_ <;> clear s <;> intro c s <;> try simp only [qa] at c
  ·refine ba (aq (au (cb (sR (mV rfl (mV rfl (lD r2 rfl rfl rfl (lD r3 rfl rfl rfl ?_))))))))
   refine mV rfl ?_
   obtain ⟨b5, c4, s⟩ := bn s
   obtain ⟨b7, f0, a9⟩ := ihR (z0 := x0) (z1 := a6) (z2 := x2) (z3 := x3) (z4 := x4) r0 r2 r3 r4 (by exact cz7 hv (by assumption) (by assumption) (by omega)) (by rw [hmu]; exact do4 hv (by assumption) (by assumption) (by omega))
   rw [c4] at a9
   have g1 : b5.To = nx x2 x0 a6 := by rw [← c4]; exact hrec _ _ _ _ _ (cz7 hv (by assumption) (by assumption) (by omega))
   refine cL f0 rfl rfl (ab (TR.clo (tSl aa.t) r0) (ab rfl (ab (TR.clo aj.t r2) (ab (TR.clo ai.t r3) (ab (TR.clo (tSl dg) r4) ay))))) ?_
   refine di (x := .agg [bd 0#32, vi 0, vi 0]) M0 rfl rfl (fun e9 f2 g3 f3 => ?_)
   refine ci (k := 0) (v := b7) f3 rfl rfl rfl (TR.cnt az.t a9) (fun e7 b8 => ?_)
   replace b8 : Mem e7 [⟨.op e9 f2 0, 204, 3, [b7]⟩, ⟨a2, 204, 3, a0⟩, ⟨.op b0 b3 0, 113, 3, [b6]⟩, ⟨.op b2 b1 0, 204, 3, [.agg [bd 0#32, vi 0, vi 0]]⟩] := b8
   refine nR (mV rfl (ae (fq (k := 0) b8 rfl rfl (TR.agg az.t a9)) (ae (v := .fs true [b7]) (ko rfl (all_cons (TR.cnt az.t a9) oa)) ?_)))
   have f4 : (tSl az.t).R ([b5] : List az) (.fs true [b7]) := ah1 ⟨a9, trivial⟩ (by simp)
   obtain ⟨b4, e8, c5⟩ := qr (t := az.t) (h := e7) f4
   have d6 : fits (a0.length + b4.length) 24 = true := by rw [All2.length_eq a5, All2.length_eq c5]; (try simp only [List.length_cons, List.length_nil]); exact li (by ((have hk := au8 (ix x0 x1).Op; omega))) (by ((have hk := au8 (ix x0 x1).Op; omega)))
   refine pe (k := 1) (es := a0) (news := b4) b8 rfl rfl rfl a7 a3 e8 d6 (fun g6 g5 f1 e2 e0 => ?_)
   have d9 : All2 az.t.R (a1 ++ ([b5] : List az)) (a0 ++ b4) := All2.app a5 c5
   have e5 : (a1 ++ ([b5] : List az)).length ≤ 4611686018427387904 := by rw [← All2.length_eq d9, List.length_append]; exact rz d6
   refine mV rfl (nS (bb (ae (bv rfl) (ae (cq (k := 0) e0 rfl rfl (az.g_To a9)) (mV rfl (cf (dj (aq ?_))))))))
   refine bb (mV rfl (bN fy rfl rfl (mV rfl (cf (du ?_)))))
   exact wC (ih  d9 f1 e2 e5 (by (have hk := au8 (ix x0 x1).Op; rw [ek (by omega) (by omega)]; omega)) (by (have hk := au8 (ix x0 x1).Op; have hq := av2 (by assumption); ((rw [ek (by omega) (by omega)]; (exact cm9 (by assumption) (by assumption)))))) (by (have hk := au8 (ix x0 x1).Op; have hq := av2 (by assumption); ((rw [ek (by omega) (by omega)]; ((simp only [List.length_append, List.length_cons, List.length_nil]; omega)))))) (by (have hk := au8 (ix x0 x1).Op; have hq := av2 (by assumption); ((rw [ek (by omega) (by omega)]; omega)))) (by (have hk := au8 (ix x0 x1).Op; have hq := av2 (by assumption); ((rw [ek (by omega) (by omega)]; omega)))) (Mem.sub e0 (.cons _ (.cons_cons _ (.cons_cons _ (.cons_cons _ .slnil))))) s) rfl
  ·refine fc (gh (dy ?_))
   exact wP (f6 a5 a7 a3 a4 (by omega) (Mem.sub M0 (.cons_cons _ (.cons_cons _ (.cons_cons _ .slnil)))) s) rfl

theorem ce3 {rec_ : (List aa) → Int → aj → ai → (List (BitVec 32)) → az} {mu_ : Nat} {x0 : List aa} {x1 : Int} {x2 : aj} {x3 : ai} {x4 : List (BitVec 32)} {v0 v2 v3 v4 : PV} (r0 : (tSl aa.t).R x0 v0) (r2 : aj.t.R x2 v2) (r3 : ai.t.R x3 v3) (r4 : (tSl dg).R x4 v4) (hv : Ok x2 x0 x1) (hmu : mu_ = (x0.length - x1.toNat)) (hrec : ∀ (z0 : List aa) (z1 : Int) (z2 : aj) (z3 : ai) (z4 : List (BitVec 32)), Ok z2 z0 z1 → (rec_ z0 z1 z2 z3 z4).To = nx z2 z0 z1) (ihR : ∀ {z0 : List aa} {z1 : Int} {z2 : aj} {z3 : ai} {z4 : List (BitVec 32)} {h5 h3 h2 h4 : PV} (i4 : (tSl aa.t).R z0 h5) (i5 : aj.t.R z2 h3) (i7 : ai.t.R z3 h2) (i6 : (tSl dg).R z4 h4) (hv : Ok z2 z0 z1), (z0.length - z1.toNat) < mu_ → ∃ r, FnR Tryz.prog 157 [h5, vi z1, h3, h2, h4] r ∧ az.t.R (rec_ z0 z1 z2 z3 z4) r) : ∃ r, FnR Tryz.prog 157 [v0, vi x1, v2, v3, v4] r ∧ az.t.R (jv rec_ x0 x1 x2 x3 x4) r := by
 refine fnT (R := RF157) cv0 rfl fun res s => ?_
 unfold jv at s
 refine sR (ae (cz rfl (TR.cnt aj.t r2)) (ae (cz rfl (TR.cnt ai.t r3)) ?_))
 refine di (x := .agg [bd 0#32, vi 0, vi 0]) (Mem.nil ⟨0, []⟩) rfl rfl (fun a8 a6 h7 g1 => ?_)
 refine nR (mV rfl (mV rfl ?_))
 obtain ⟨b0, g5, a4⟩ := cr (i := x1) r0 (by exact hv.lo) (by exact hv.lt)
 refine ae (bh rfl rfl g5) (lD a4 rfl rfl rfl ?_)
 refine di (x := .agg [vi 0, vi 0, vi 0]) g1 rfl rfl (fun b3 b8 h6 g0 => ?_)
 refine ci (k := 0) (v := b0) g0 rfl rfl rfl (TR.cnt aa.t a4) (fun g9 a3 => ?_)
 replace a3 : Mem g9 [⟨.op b3 b8 0, 113, 3, [b0]⟩, ⟨.op a8 a6 0, 204, 3, [.agg [bd 0#32, vi 0, vi 0]]⟩] := a3
 refine nR (mV rfl (mV rfl (lD r2 rfl rfl rfl ?_)))
 obtain ⟨a0, c5, s⟩ := bn s
 have e5 := bb8 (x1 := x1) r0 r2 (by exact hv.lo) (by exact hv.len)
 rw [c5] at e5
 refine cL e5 rfl rfl (ab (TR.clo (tSl aa.t) r0) (ab rfl (ab (TR.clo aj.t r2) ay))) (mV rfl (xT rfl rfl (xT rfl rfl (xT rfl rfl (mV rfl (mV rfl (mV rfl (nS ?_))))))))
 refine au (sR (ae (bv rfl) (ae (cq (k := 0) a3 rfl rfl (aa.g_Op a4)) (nS (cb (sR (bN dn rfl rfl (mV rfl ?_))))))))
 refine nS ?_
 refine bt s rfl ?_ ?_ <;> clear s <;> intro c4 s <;> have d0 := c4 <;> try simp only [qa] at d0
 ·refine sR (ae (bv rfl) (ae (cq (k := 0) a3 rfl rfl (aa.g_N a4)) (ae (gi (a := vi ((ix x0 x1).N)) rfl (c_iw Tryz.underlying3 Tryz.underlying89)) (mV rfl (mV rfl (bN fy rfl rfl (ae (v := .agg [bd (BitVec.ofInt 32 ((ix x0 x1).N)), vi a0.1, vi (wr (x1 + 1))]) (eg (cs := [bd (BitVec.ofInt 32 ((ix x0 x1).N)), vi a0.1, vi (wr (x1 + 1))]) rfl rfl) ?_)))))))
  refine ci (k := 1) (v := .agg [bd (BitVec.ofInt 32 ((ix x0 x1).N)), vi a0.1, vi (wr (x1 + 1))]) a3 rfl rfl rfl rfl (fun g6 d1 => ?_)
  replace d1 : Mem g6 [⟨.op b3 b8 0, 113, 3, [b0]⟩, ⟨.op a8 a6 0, 204, 3, [.agg [bd (BitVec.ofInt 32 ((ix x0 x1).N)), vi a0.1, vi (wr (x1 + 1))]]⟩] := d1
  refine nS ?_
  subst s
  exact dw (.cell rfl (cv (k := 1) d1 rfl rfl) .nil) (cd (TR.clo az.t (show az.t.R ({ V := (BitVec.ofInt 32 ((ix x0 x1).N)), W := a0.1, To := (wr (x1 + 1)) } : az) (.agg [bd (BitVec.ofInt 32 ((ix x0 x1).N)), vi a0.1, vi (wr (x1 + 1))]) from rfl))) (show az.t.R ({ V := (BitVec.ofInt 32 ((ix x0 x1).N)), W := a0.1, To := (wr (x1 + 1)) } : az) (.agg [bd (BitVec.ofInt 32 ((ix x0 x1).N)), vi a0.1, vi (wr (x1 + 1))]) from rfl)
 ·refine sR (bN dn rfl rfl (mV rfl (nS ?_)))
  refine bt s rfl ?_ ?_ <;> clear s <;> intro c1 s <;> have d3 := c1 <;> try simp only [qa] at d3
  ·refine sR (lD r3 rfl rfl rfl (ae (bv rfl) (ae (cq (k := 0) a3 rfl rfl (aa.g_N a4)) (ae (bv rfl) (ae (cq (k := 0) a3 rfl rfl (aa.g_W a4)) (ae (v := .agg [vi ((ix x0 x1).N), vi ((ix x0 x1).W)]) (eg (cs := [vi ((ix x0 x1).N), vi ((ix x0 x1).W)]) rfl rfl) ?_))))))
   obtain ⟨f2, e2, s⟩ := bn s
   have f5 := dj5  r3 (show ak.t.R ({ Header := (ix x0 x1).N, Field := (ix x0 x1).W } : ak) (.agg [vi ((ix x0 x1).N), vi ((ix x0 x1).W)]) from rfl) 
   rw [e2] at f5
   refine cL f5 rfl rfl (ab (TR.clo ai.t r3) (ab (TR.clo ak.t (show ak.t.R ({ Header := (ix x0 x1).N, Field := (ix x0 x1).W } : ak) (.agg [vi ((ix x0 x1).N), vi ((ix x0 x1).W)]) from rfl)) ay)) (ae (gi (a := bd f2) rfl (c_wd Tryz.underlying89 Tryz.underlying201)) (mV rfl ?_))
   obtain ⟨a7, e4, s⟩ := bn s
   have e3 := pk (x0 := (BitVec.setWidth 64 f2)) (x1 := a0.1)  
   rw [e4] at e3
   refine cL e3 rfl rfl (ab rfl (ab rfl ay)) (mV rfl (mV rfl (bN fy rfl rfl (ae (v := .agg [bd a7, vi a0.1, vi (wr (x1 + 1))]) (eg (cs := [bd a7, vi a0.1, vi (wr (x1 + 1))]) rfl rfl) ?_))))
   refine ci (k := 1) (v := .agg [bd a7, vi a0.1, vi (wr (x1 + 1))]) a3 rfl rfl rfl rfl (fun f8 d4 => ?_)
   replace d4 : Mem f8 [⟨.op b3 b8 0, 113, 3, [b0]⟩, ⟨.op a8 a6 0, 204, 3, [.agg [bd a7, vi a0.1, vi (wr (x1 + 1))]]⟩] := d4
   refine nS ?_
   subst s
   exact dw (.cell rfl (cv (k := 1) d4 rfl rfl) .nil) (cd (TR.clo az.t (show az.t.R ({ V := a7, W := a0.1, To := (wr (x1 + 1)) } : az) (.agg [bd a7, vi a0.1, vi (wr (x1 + 1))]) from rfl))) (show az.t.R ({ V := a7, W := a0.1, To := (wr (x1 + 1)) } : az) (.agg [bd a7, vi a0.1, vi (wr (x1 + 1))]) from rfl)
  ·refine sR (bN dn rfl rfl (mV rfl (nS ?_)))
   refine bt s rfl ?_ ?_ <;> clear s <;> intro c6 s <;> have c8 := c6 <;> try simp only [qa] at c8
   ·refine sR (ae (v := bd 0#32) (ax rfl) (nS (au (sR (ae (bv rfl) (ae (cq (k := 0) a3 rfl rfl (aa.g_N a4)) (mV rfl (ae (cy rfl (co r4 Tryz.underlying43 _)) ?_))))))))
    refine bN ct rfl rfl (nS ?_)
    obtain ⟨g2, e9, s⟩ := bn s
    refine pp (F := fun b S Q => ∀ (a1 : BitVec 32) (b7 : Heap) (c7 : Mem b7 [⟨.op a8 a6 0, 204, 3, [.agg [bd 0#32, vi 0, vi 0]]⟩]), g2 a1 = res → RC Tryz.prog b S Q [(15, bd a1), (12, vi a0.1), (10, .op a8 a6 0), (1, vi x1)] b7) ?_ ?_
    ·intro a1 b7 c7 s
     rw [← e9] at s
     refine sR (mV rfl (mV rfl (mV rfl (bN fy rfl rfl (ae (v := .agg [bd a1, vi a0.1, vi (wr (x1 + 1))]) (eg (cs := [bd a1, vi a0.1, vi (wr (x1 + 1))]) rfl rfl) ?_)))))
     refine ci (k := 0) (v := .agg [bd a1, vi a0.1, vi (wr (x1 + 1))]) c7 rfl rfl rfl rfl (fun h1 d6 => ?_)
     replace d6 : Mem h1 [⟨.op a8 a6 0, 204, 3, [.agg [bd a1, vi a0.1, vi (wr (x1 + 1))]]⟩] := d6
     refine nS ?_
     subst s
     exact dw (.cell rfl (cv (k := 0) d6 rfl rfl) .nil) (cd (TR.clo az.t (show az.t.R ({ V := a1, W := a0.1, To := (wr (x1 + 1)) } : az) (.agg [bd a1, vi a0.1, vi (wr (x1 + 1))]) from rfl))) (show az.t.R ({ V := a1, W := a0.1, To := (wr (x1 + 1)) } : az) (.agg [bd a1, vi a0.1, vi (wr (x1 + 1))]) from rfl)
    ·intro J
     refine bt s rfl ?_ ?_ <;> clear s <;> intro c s <;> try simp only [qa] at c
     ·refine bb (mV rfl (ae (bv rfl) (ae (cq (k := 0) a3 rfl rfl (aa.g_N a4)) (ae (bh rfl rfl (vv r4 (by ((have hk := lf3 hv (by assumption); omega))) (by omega))) (lR rfl rfl rfl (ae (gi (a := bd (ix x4 ((ix x0 x1).N))) rfl (c_wd Tryz.underlying89 Tryz.underlying201)) (mV rfl ?_)))))))
      obtain ⟨h8, f4, s⟩ := bn s
      have e7 := pk (x0 := (BitVec.setWidth 64 (ix x4 ((ix x0 x1).N)))) (x1 := a0.1)  
      rw [f4] at e7
      refine cL e7 rfl rfl (ab rfl (ab rfl ay)) (mV rfl (cf ?_))
      refine aq (wC (J _ _ (Mem.sub a3 (.cons _ (.cons_cons _ .slnil))) s) rfl)
     ·refine ba ?_
      refine aq (wC (J _ _ (Mem.sub a3 (.cons _ (.cons_cons _ .slnil))) s) rfl)
   ·refine sR (bN dn rfl rfl (mV rfl (nS ?_)))
    refine bt s rfl ?_ ?_ <;> clear s <;> intro b9 s <;> have d2 := b9 <;> try simp only [qa] at d2
    ·refine sR (ae (bv rfl) (ae (cq (k := 0) a3 rfl rfl (aa.g_N a4)) (gL (ai.g_Valid r3) rfl rfl rfl fun i2 g4 => (ae (cy rfl (co g4 Tryz.underlying41 _)) (bN ct rfl rfl (mV rfl ?_))))))
     refine bw 7 (d := 94) (v := vb ((decide (((ix x0 x1).N) < (x3.Valid.length : Int))) && (ix x3.Valid ((ix x0 x1).N)))) ?_ ?_
     ·intro S Q r
      cases e8 : (decide (((ix x0 x1).N) < (x3.Valid.length : Int)))
      ·exact gN 6 rfl rfl rfl rfl rfl rfl
      ·intro k
       have d7 := e8
       try simp only [qa] at d7
       obtain ⟨h9, g8, c9⟩ := ai.g_Valid r3
       refine ah rfl rfl (br rfl g8) (ah rfl rfl (bq rfl (TR.cnt (tSl tB) c9) (TR.agg (tSl tB) c9)) (ah rfl rfl (bv rfl) (ah rfl rfl (cq (k := 0) a3 rfl rfl (aa.g_N a4)) (ah rfl rfl (bh rfl rfl (slB c9 (by ((have hk := lf4 hv (by assumption); omega))) (by omega))) (ah rfl rfl (bq rfl rfl rfl) ?_)))))
       exact gK rfl rfl rfl rfl rfl k
     obtain ⟨a5, f1, s⟩ := bn s
     have f0 := ao1 (x0 := ((decide (((ix x0 x1).N) < (x3.Valid.length : Int))) && (ix x3.Valid ((ix x0 x1).N))))  
     rw [f1] at f0
     refine cL f0 rfl rfl (ab rfl ay) (mV rfl (mV rfl (bN fy rfl rfl (ae (v := .agg [bd a5, vi a0.1, vi (wr (x1 + 1))]) (eg (cs := [bd a5, vi a0.1, vi (wr (x1 + 1))]) rfl rfl) ?_))))
     refine ci (k := 1) (v := .agg [bd a5, vi a0.1, vi (wr (x1 + 1))]) a3 rfl rfl rfl rfl (fun g7 d8 => ?_)
     replace d8 : Mem g7 [⟨.op b3 b8 0, 113, 3, [b0]⟩, ⟨.op a8 a6 0, 204, 3, [.agg [bd a5, vi a0.1, vi (wr (x1 + 1))]]⟩] := d8
     refine nS ?_
     subst s
     exact dw (.cell rfl (cv (k := 1) d8 rfl rfl) .nil) (cd (TR.clo az.t (show az.t.R ({ V := a5, W := a0.1, To := (wr (x1 + 1)) } : az) (.agg [bd a5, vi a0.1, vi (wr (x1 + 1))]) from rfl))) (show az.t.R ({ V := a5, W := a0.1, To := (wr (x1 + 1)) } : az) (.agg [bd a5, vi a0.1, vi (wr (x1 + 1))]) from rfl)
    ·refine ba (dj (aq (sR (ae (v := nilS) (ax rfl) (nR (mV rfl (bN fy rfl rfl (mV rfl ?_))))))))
     refine nS (au (sR (mI rfl (nS (cb ?_)))))
     have f7 := mm (sz := 3) (es := []) a3 204 (.inl ⟨none, rfl, rfl⟩) (by simp)
     have i3 : az.t.R ({ V := 0#32, W := 0, To := 0 } : az) (.agg [bd 0#32, vi 0, vi 0]) := rfl
     refine wC (aa4 r0 r2 r3 r4 hv ihR hmu hrec a4 c5 c4 c1 c6 b9 ?_  aL rfl (.inl rfl) (by decide) (by omega) (by exact ej2 hv) (by simp) (by exact dx7 hv (by assumption) (by assumption) (by assumption) (by assumption)) (by omega) (Mem.sub f7 (.cons_cons _ (.cons_cons _ (.cons_cons _ .slnil)))) s) rfl
     ·intro a2 e1 b1 b4 b5 b6 e0 b2 f6 i0 d9 s
      refine gy (aq (sR (ae (fq (k := 1) d9 rfl rfl (TR.agg aa.t a4)) (mV rfl ?_))))
      obtain ⟨i1, h0, g3⟩ := sf (P := Tryz.prog) (k := 0) (t := az.t) d9 rfl b6 b5 (Nat.le_trans b2 (by decide))
      obtain ⟨a9, e6, s⟩ := bn s
      have f3 := ch1  a4 g3 (by omega) (by ((have hk := dp7 hv (by assumption) (by assumption) (by assumption) (by assumption); omega)))
      rw [e6] at f3
      refine rp (ro rfl rfl (lc (cd (TR.clo aa.t a4)) (lc h0 tx)) f3 rfl) (mV rfl (mV rfl (ae (v := .agg [bd a9, vi a0.1, vi a2]) (eg (cs := [bd a9, vi a0.1, vi a2]) rfl rfl) ?_)))
      refine ci (k := 2) (v := .agg [bd a9, vi a0.1, vi a2]) d9 rfl rfl rfl rfl (fun f9 d5 => ?_)
      replace d5 : Mem f9 [⟨b4, 204, 3, b1⟩, ⟨.op b3 b8 0, 113, 3, [b0]⟩, ⟨.op a8 a6 0, 204, 3, [.agg [bd a9, vi a0.1, vi a2]]⟩] := d5
      refine nS ?_
      subst s
      exact dw (.cell rfl (cv (k := 2) d5 rfl rfl) .nil) (cd (TR.clo az.t (show az.t.R ({ V := a9, W := a0.1, To := a2 } : az) (.agg [bd a9, vi a0.1, vi a2]) from rfl))) (show az.t.R ({ V := a9, W := a0.1, To := a2 } : az) (.agg [bd a9, vi a0.1, vi a2]) from rfl)
theorem by7 : ∀ (n_ : Nat) {x0 : List aa} {x1 : Int} {x2 : aj} {x3 : ai} {x4 : List (BitVec 32)} {v0 v2 v3 v4 : PV} (r0 : (tSl aa.t).R x0 v0) (r2 : aj.t.R x2 v2) (r3 : ai.t.R x3 v3) (r4 : (tSl dg).R x4 v4) (hv : Ok x2 x0 x1), (x0.length - x1.toNat) < n_ → ∃ r, FnR Tryz.prog 157 [v0, vi x1, v2, v3, v4] r ∧ az.t.R (fi n_ x0 x1 x2 x3 x4) r := by
 intro n_
 induction n_ with
 | zero => intros; rename_i hlt; exact absurd hlt (Nat.not_lt_zero _)
 | succ n_ ihn =>
  intro x0 x1 x2 x3 x4 v0 v2 v3 v4 r0 r2 r3 r4 hv hlt
  have e_ : fi (n_ + 1) x0 x1 x2 x3 x4 = jv (fi n_) x0 x1 x2 x3 x4 := by rw [fi]
  rw [e_]
  exact ce3 r0 r2 r3 r4 hv rfl (py n_) (fun {z0} {z1} {z2} {z3} {z4} {zv0} {zv2} {zv3} {zv4} zr0 zr2 zr3 zr4 hv hz => ihn zr0 zr2 zr3 zr4 hv (by omega))
theorem cl7 {x0 : List aa} {x1 : Int} {x2 : aj} {x3 : ai} {x4 : List (BitVec 32)} {v0 v2 v3 v4 : PV} (r0 : (tSl aa.t).R x0 v0) (r2 : aj.t.R x2 v2) (r3 : ai.t.R x3 v3) (r4 : (tSl dg).R x4 v4) (hv : Ok x2 x0 x1) : ∃ r, FnR Tryz.prog 157 [v0, vi x1, v2, v3, v4] r ∧ az.t.R (xy x0 x1 x2 x3 x4) r := by7 _ r0 r2 r3 r4 hv (Nat.lt_succ_self _)

end Go.Proofs.YtmonnlkagniolaaGreat
