/-
 The code of each function does what its plain program says.
-/
import Derived.Test.YtmonnlkagniolaaGreatL3W1
set_option linter.unusedVariables false
set_option linter.unusedSimpArgs false
set_option maxRecDepth 100000
namespace Go.Proofs.YtmonnlkagniolaaGreat
open Go Go.Pb Go.RowKit
def RF68 (i0_ w0_ : Nat) (R_ : List Ent) (res : (List Int)) (r : PV) (h : Heap) : Prop := ∃ asR0_ : PV, ∃ esR0_ : List PV, Mem h (⟨asR0_, 3, 1, esR0_⟩ :: R_) ∧ (All2 tI.R res esR0_) ∧ (isL asR0_ = true) ∧ (res.length ≤ 4611686018427387904) ∧ (Wri asR0_ esR0_) ∧ r = asR0_
theorem aw3 {x0 : ai} {a3 a2 a0 a5 a6 a7 a4 a1 a8 : PV} {b0 : List PV} {R_ : List Ent} {h_ : Heap} {d5 d8 : Nat} (c3 : (tSl bg.t).R x0.p.Headers a3) (b4 : (tSl ay.t).R x0.p.Metadata a2) (b3 : (tSl cg.t).R x0.p.Registers a0) (c2 : (tSl bc.t).R x0.p.Actions a5) (c6 : (tSl bh.t).R x0.p.Tables a6) (c7 : (tSl bm.t).R x0.p.States a7) (b9 : (tSl aj.t).R x0.p.Control a4) (b5 : (tSl tI).R x0.p.Deparser a1) (d7 : All2 tI.R x0.cells b0) (a9 : isL a8 = true) (d4 : x0.cells.length ≤ 4611686018427387904) (d9 : Wri a8 b0) (M_ : Mem h_ (⟨.op d5 d8 0, 118, 10, [.agg [vs x0.p.Name, a3, a2, a0, a5, a6, a7, a4, a1, a8]]⟩ :: ⟨a8, 3, 1, b0⟩ :: R_)) (hb : x0.cells.length ≤ 1000000) : ∃ r f1, FnX Tryz.prog 68 [.op d5 d8 0] h_ r f1 ∧ RF68 d5 d8 R_ (dv x0) r f1 := by
 refine fnXX (R := RF68 d5 d8 R_) bu7 rfl fun res hres => ?_
 unfold dv at hres
 refine sR (af (v := nilS) (ax rfl) (nS (ap (ep (co (mV rfl (cp (co ?_))))))))
 refine af (ib rfl rfl) (cp (co (af (ba rfl) (cp (co (af (bt (k := 0) M_ rfl rfl (mk1 (gj (k := 1) M_ rfl a9).2)) (cp ?_)))))))
 have e7 : Mem h_ (⟨a8, 3, 1, b0⟩ :: ⟨.op d5 d8 0, 118, 10, [.agg [vs x0.p.Name, a3, a2, a0, a5, a6, a7, a4, a1, a8]]⟩ :: R_) := (Mem.front (k := 1) M_ rfl)
 obtain ⟨e9, e2, hres⟩ := bp hres
 obtain ⟨f2, e5, e3, d3⟩ := ab0 (x0 := x0.cells) d7 a9 d4 d9 e7 (by first | assumption | omega | (rw [cv (by omega) (by omega)]; omega))
 rw [e2] at d3
 obtain ⟨b7, d6, c1, c4, b6, c5⟩ := d3
 replace c5 := c5.symm; subst c5
 refine fx rfl rfl e3 (ju (au (ap (ep (co (mV rfl (cp (co ?_))))))))
 refine af (ib rfl rfl) (cp (co (af (ba rfl) (cp (co (af (bt (k := 1) d6 rfl rfl (mk1 (gj (k := 0) d6 rfl a9).2)) (cp ?_)))))))
 have e8 : Mem e5 (⟨a8, 3, 1, b7⟩ :: ⟨.op d5 d8 0, 118, 10, [.agg [vs x0.p.Name, a3, a2, a0, a5, a6, a7, a4, a1, a8]]⟩ :: R_) := (Mem.front (k := 0) d6 rfl)
 obtain ⟨f4, e4, hres⟩ := bp hres
 obtain ⟨f3, f0, e0, d2⟩ := ab9 (x0 := e9) c1 a9 c4 b6 e8 
 rw [e4] at d2
 obtain ⟨b1, b2, e6, d0, c8, c9, d1, b8⟩ := d2
 replace b8 := b8.symm; subst b8
 refine fx rfl rfl e0 (co (mV rfl (cp (ju (au ?_)))))
 have e1 : Mem f0 (⟨b1, 3, 1, b2⟩ :: ⟨.op d5 d8 0, 118, 10, [.agg [vs x0.p.Name, a3, a2, a0, a5, a6, a7, a4, a1, a8]]⟩ :: R_) := (Mem.front (k := 0) e6 rfl)
 subst hres
 exact rk (.tmp rfl .nil) ⟨b1, b2, Mem.sub e1 (.cons_cons _ (.cons _ (List.Sublist.refl R_))), d0, c8, c9, d1, rfl⟩

def RF69 (res : bh × Bool) (r : PV) : Prop := ∃ c0, r = .tup [c0, vb res.2] ∧ bh.t.R res.1 c0
theorem bt6 {x0 : ab} {x1 : ct} {v0 v1 : PV} (r0 : ab.t.R x0 v0) (r1 : ct.t.R x1 v1) : ∃ c0, FnR Tryz.prog 69 [v0, v1] (.tup [c0, vb ((fy x0 x1).2)]) ∧ bh.t.R (fy x0 x1).1 c0 := by
 obtain ⟨res, hres⟩ : ∃ res, fy x0 x1 = res := ⟨_, rfl⟩
 suffices H : RC Tryz.prog dg5 [] (QR Tryz.prog [(4, some (6, true)), (5, none)] (RF69 res)) (argE 0 [v0, v1]) ⟨0, []⟩ by
  rw [hres]
  obtain ⟨r, h1, c0, rfl, b6⟩ := fnE bz5 (by simp) H
  exact ⟨c0, h1, b6⟩
 unfold fy at hres
 refine sR (af (dn rfl (TR.cnt ab.t r0)) (af (dn rfl (TR.cnt ct.t r1)) ?_))
 refine ek (x := .agg [vs [], nilS, nilS, vi 0, nilS, vi 0]) (Mem.nil ⟨0, []⟩) rfl rfl (fun a8 a9 b7 a7 => ?_)
 refine mB rfl (nS (ap (sR (fL rfl (ct.g_Table r1) rfl rfl (bN cn rfl rfl (mV rfl ?_))))))
 refine ca 7 (d := 16) (v := vb ((decide (x1.Table < 0)) || (decide ((x0.Tables.length : Int) ≤ x1.Table)))) ?_ ?_
 ·intro S Q r
  cases a6 : (decide (x1.Table < 0))
  ·intro k
   have a4 := a6
   try simp only [qa, qaD] at a4
   refine ah rfl rfl (bw rfl (ct.g_Table r1)) (ah rfl rfl (bv rfl rfl rfl) ?_)
   obtain ⟨b8, b3, a5⟩ := ab.g_Tables r0
   refine ah rfl rfl (bw rfl b3) (ah rfl rfl (bv rfl (TR.cnt (tSl bh.t) a5) (TR.agg (tSl bh.t) a5)) (ah rfl rfl (cq rfl (ci a5 Tryz.underlying26 _)) (ah rfl rfl (cb rfl rfl kt) ?_)))
   exact gK rfl rfl rfl rfl rfl k
  ·exact gN 6 rfl rfl rfl rfl rfl rfl
 refine nS ?_
 refine bz hres rfl ?_ ?_ <;> clear hres <;> intro c hres <;> try simp only [qa, qaD] at c
 ·refine sR (af (v := .agg [vs [], nilS, nilS, vi 0, nilS, vi 0]) (lr (cs := [vs [], nilS, nilS, vi 0, nilS, vi 0]) rfl rfl) ?_)
  refine dy (k := 0) (v := .agg [vs [], nilS, nilS, vi 0, nilS, vi 0]) a7 rfl rfl rfl rfl (fun b2 a1 => ?_)
  replace a1 : Mem b2 [⟨.op a8 a9 0, 59, 6, [.agg [vs [], nilS, nilS, vi 0, nilS, vi 0]]⟩] := a1
  refine mB rfl (nS ?_)
  subst hres
  exact fw (.cell rfl (nt (k := 0) a1 rfl rfl) (.tmp rfl .nil)) (dq (show closed (.tup _) = true from (ak (TR.clo bh.t (show bh.t.R ({ Name := ([] : List UInt8), Keys := ([] : List ee), Actions := ([] : List Int), Default := ({ Action := 0, Args := ([] : List (BitVec 32)) } : fh), Size := 0 } : bh) (.agg [vs [], nilS, nilS, vi 0, nilS, vi 0]) from ⟨nilS, nilS, nilS, rfl, fj, fj, fj⟩)) (ak rfl bd)))) ⟨.agg [vs [], nilS, nilS, vi 0, nilS, vi 0], rfl, ⟨nilS, nilS, nilS, rfl, fj, fj, fj⟩⟩
 ·refine az (au (sR (gL (ab.g_Tables r0) rfl rfl rfl fun b5 b0 => (fL rfl (ct.g_Table r1) rfl rfl ?_))))
  obtain ⟨a3, b4, a0⟩ := dh (i := x1.Table) b0 (by omega) (by omega)
  refine af (bn rfl rfl b4) (lD a0 rfl rfl rfl ?_)
  refine dy (k := 0) (v := a3) a7 rfl rfl rfl (TR.cnt bh.t a0) (fun b1 a2 => ?_)
  replace a2 : Mem b1 [⟨.op a8 a9 0, 59, 6, [a3]⟩] := a2
  refine mB rfl (nS ?_)
  subst hres
  exact fw (.cell rfl (nt (k := 0) a2 rfl (TR.agg bh.t a0)) (.tmp rfl .nil)) (dq (show closed (.tup _) = true from (ak (TR.clo bh.t a0) (ak rfl bd)))) ⟨a3, rfl, a0⟩

def RF221 (res : Bool) (r : PV) : Prop := r = vb res
theorem be4 {x0 : UInt8} : FnR Tryz.prog 221 [vu8 x0] (vb (lh x0)) := by
 refine fnS (R := RF221) bc1 (fun _ h => h) rfl fun res hres => ?_
 unfold lh at hres
 refine sR (mB rfl (nR (mV rfl (af (cb (a := vu8 x0) (b := vu8 (97 : UInt8)) rfl rfl ah0) (mV rfl ?_)))))
 refine ca 3 (d := 8) (v := vb ((decide ((97 : UInt8) ≤ x0)) && (decide (x0 ≤ (122 : UInt8))))) ?_ ?_
 ·intro S Q r
  cases a5 : (decide ((97 : UInt8) ≤ x0))
  ·exact gN 2 rfl rfl rfl rfl rfl rfl
  ·intro k
   have a2 := a5
   try simp only [qa, qaD] at a2
   refine ah rfl rfl (ax rfl) (ah rfl rfl (cb (a := vu8 x0) (b := vu8 (122 : UInt8)) rfl rfl ai9) ?_)
   exact gK rfl rfl rfl rfl rfl k
 refine mV rfl ?_
 refine ca 7 (d := 16) (v := vb (((decide ((97 : UInt8) ≤ x0)) && (decide (x0 ≤ (122 : UInt8)))) || ((decide ((65 : UInt8) ≤ x0)) && (decide (x0 ≤ (90 : UInt8)))))) ?_ ?_
 ·intro S Q r
  cases a4 : ((decide ((97 : UInt8) ≤ x0)) && (decide (x0 ≤ (122 : UInt8))))
  ·intro k
   have a1 := a4
   try simp only [qa, qaD] at a1
   refine ah rfl rfl (ax rfl) (ah rfl rfl (cb (a := vu8 x0) (b := vu8 (65 : UInt8)) rfl rfl ah0) (ah rfl rfl (ax rfl) ?_))
   refine ca 3 (d := 15) (v := vb ((decide ((65 : UInt8) ≤ x0)) && (decide (x0 ≤ (90 : UInt8))))) ?_ ?_
   ·intro S Q r
    cases a3 : (decide ((65 : UInt8) ≤ x0))
    ·intro k
     refine ij rfl rfl (ij rfl rfl (ah (v := vb false) rfl rfl (nr rfl rfl rfl rfl) ?_))
     exact wD k rfl
    ·intro k
     have a0 := a3
     try simp only [qa, qaD] at a0
     refine ah rfl rfl (ax rfl) (ah rfl rfl (cb (a := vu8 x0) (b := vu8 (90 : UInt8)) rfl rfl ai9) (ah (v := vb (decide (x0 ≤ (90 : UInt8)))) rfl rfl (nr rfl rfl rfl rfl) ?_))
     exact wD k rfl
   exact gK rfl rfl rfl rfl rfl k
  ·exact gN 6 rfl rfl rfl rfl rfl rfl
 refine mV rfl (nS ?_)
 exact rR hres rfl rfl rfl

def RF222 (res : Int) (r : PV) : Prop := r = vi res
theorem vn {S : List Fr} {res : Int} {x0 : List UInt8} {x1 : UInt8 → Bool} {v1 : PV} (r1 : (tFn Tryz.prog tU8 tB).R x1 v1) (hs : x0.length ≤ 1000) {K0 : Int → Int}
  (b0 : ∀ {a0 : Int}, K0 a0 = res → PX Tryz.prog 0 S (QR Tryz.prog [(4, none)] (RF222 res)) [(5, vi a0)] ⟨0, []⟩) :
  ∀ {m : Nat} {a0 : Int} (b1 : m = Int.toNat ((x0.length : Int) - a0)) (a6 : 0 ≤ a0), lq x0 x1 K0 m a0 = res → RC Tryz.prog (.loop bn3) S (QR Tryz.prog [(4, none)] (RF222 res)) [(5, vi a0), (1, v1), (0, vs x0)] ⟨0, []⟩ := by
 intro m
 induction m with
 | zero =>
  intro a0 b1 a6 hres
  rw [lq] at hres
  refine cj (ap (sR (mV rfl (mV rfl (af (cq rfl (od Tryz.underlying9)) (bN cn rfl rfl (mV rfl ?_)))))))
  refine ca 6 (d := 16) (v := vb ((decide (a0 < (x0.length : Int))) && (x1 (ix x0 a0)))) ?_ ?_
  ·intro S Q r
   cases a7 : (decide (a0 < (x0.length : Int)))
   ·exact gN 5 rfl rfl rfl rfl rfl rfl
   ·intro k
    have a3 := a7
    try simp only [qa, qaD] at a3
    refine ah rfl rfl (ax rfl) (ah rfl rfl (ax rfl) (ah rfl rfl (ax rfl) (ah rfl rfl (qb rfl rfl (tc Tryz.underlying9 (by omega) (by omega))) ?_)))
    refine ah9 rfl rfl rfl r1 rfl (show tU8.R (ix x0 a0) (vu8 (ix x0 a0)) from rfl) (fun a8 a2 => ?_)
    have a2 : a8 = vb (x1 (ix x0 a0)) := a2; subst a2
    exact gK rfl rfl rfl rfl rfl k
  refine nS ?_
  refine cd rfl ?_ ?_ <;> intro c <;> try simp only [qa, qaD] at c
  ·omega
  refine dl (eh (de ?_))
  exact wP (b0  hres) rfl
 | succ m ih =>
  intro a0 b1 a6 hres
  rw [lq] at hres
  refine cj (ap (sR (mV rfl (mV rfl (af (cq rfl (od Tryz.underlying9)) (bN cn rfl rfl (mV rfl ?_)))))))
  refine ca 6 (d := 16) (v := vb ((decide (a0 < (x0.length : Int))) && (x1 (ix x0 a0)))) ?_ ?_
  ·intro S Q r
   cases a5 : (decide (a0 < (x0.length : Int)))
   ·exact gN 5 rfl rfl rfl rfl rfl rfl
   ·intro k
    have a4 := a5
    try simp only [qa, qaD] at a4
    refine ah rfl rfl (ax rfl) (ah rfl rfl (ax rfl) (ah rfl rfl (ax rfl) (ah rfl rfl (qb rfl rfl (tc Tryz.underlying9 (by omega) (by omega))) ?_)))
    refine ah9 rfl rfl rfl r1 rfl (show tU8.R (ix x0 a0) (vu8 (ix x0 a0)) from rfl) (fun a9 a1 => ?_)
    have a1 : a9 = vb (x1 (ix x0 a0)) := a1; subst a1
    exact gK rfl rfl rfl rfl rfl k
  refine nS ?_
  refine bz hres rfl ?_ ?_ <;> clear hres <;> intro c hres <;> try simp only [qa, qaD] at c
  ·refine az (au (bf (aw (mV rfl (bN dp rfl rfl (mV rfl (br (cy ?_))))))))
   refine cx ?_
   have hinc : wr (a0 + 1) = a0 + 1 := cv (by omega) (by omega)
   erw [hinc]
   exact wC (ih   (by omega) (by omega) hres) rfl
  ·refine dl (eh (de ?_))
   exact wP (b0  hres) rfl

theorem cm0 {x0 : List UInt8} {x1 : UInt8 → Bool} {v1 : PV} (r1 : (tFn Tryz.prog tU8 tB).R x1 v1) (hs : x0.length ≤ 1000) : FnR Tryz.prog 222 [vs x0, v1] (vi (qw x0 x1)) := by
 refine fnS (R := RF222) az2 (fun _ h => h) rfl fun res hres => ?_
 unfold qw at hres
 refine sR (mI rfl (nR (mI rfl (nS (ap (bf ?_))))))
 refine wC (vn r1 hs ?_  rfl (by omega) hres) rfl
 ·intro a0 hres
  refine em (au (sR (mV rfl (mV rfl (nS ?_)))))
  exact rR hres rfl rfl rfl

def RF224 (res : Bool) (r : PV) : Prop := r = vb res
theorem cc8 {x0 : UInt8} : FnR Tryz.prog 224 [vu8 x0] (vb (lz x0)) := by
 refine fnS (R := RF224) az0 (fun _ h => h) rfl fun res hres => ?_
 unfold lz at hres
 refine sR (mB rfl (nR (mV rfl (af (cb (a := vu8 x0) (b := vu8 (48 : UInt8)) rfl rfl ah0) (mV rfl ?_)))))
 refine ca 3 (d := 8) (v := vb ((decide ((48 : UInt8) ≤ x0)) && (decide (x0 ≤ (57 : UInt8))))) ?_ ?_
 ·intro S Q r
  cases a1 : (decide ((48 : UInt8) ≤ x0))
  ·exact gN 2 rfl rfl rfl rfl rfl rfl
  ·intro k
   have a0 := a1
   try simp only [qa, qaD] at a0
   refine ah rfl rfl (ax rfl) (ah rfl rfl (cb (a := vu8 x0) (b := vu8 (57 : UInt8)) rfl rfl ai9) ?_)
   exact gK rfl rfl rfl rfl rfl k
 refine mV rfl (nS ?_)
 exact rR hres rfl rfl rfl

def RF223 (res : Bool) (r : PV) : Prop := r = vb res
theorem cm3 {x0 : UInt8} : FnR Tryz.prog 223 [vu8 x0] (vb (jp x0)) := by
 refine fnS (R := RF223) az7 (fun _ h => h) rfl fun res hres => ?_
 unfold jp at hres
 refine sR (mB rfl (nR (mV rfl ?_)))
 obtain ⟨a0, a4, hres⟩ := bp hres
 have a3 := be4 (x0 := x0)  
 rw [a4] at a3
 refine cL a3 rfl rfl (ak rfl bd) (mV rfl ?_)
 refine ca 3 (d := 8) (v := vb (a0 || (lz x0))) ?_ ?_
 ·intro S Q r
  cases a5 : a0
  ·intro k
   have a2 := a5
   try simp only [qa, qaD] at a2
   refine ah rfl rfl (ax rfl) ?_
   have a7 := cc8 (x0 := x0)  
   refine mn rfl rfl (rp rfl rfl (ak rfl bd) a7) ?_
   exact gK rfl rfl rfl rfl rfl k
  ·exact gN 2 rfl rfl rfl rfl rfl rfl
 refine mV rfl ?_
 refine ca 3 (d := 12) (v := vb ((a0 || (lz x0)) || (decide (x0 = (95 : UInt8))))) ?_ ?_
 ·intro S Q r
  cases a6 : (a0 || (lz x0))
  ·intro k
   have a1 := a6
   try simp only [qa, qaD] at a1
   refine ah rfl rfl (ax rfl) (ah rfl rfl (cb (a := vu8 x0) (b := vu8 (95 : UInt8)) rfl rfl dn5) ?_)
   exact gK rfl rfl rfl rfl rfl k
  ·exact gN 2 rfl rfl rfl rfl rfl rfl
 refine mV rfl (nS ?_)
 exact rR hres rfl rfl rfl

theorem cv9 : (tFn Tryz.prog tU8 tB).R jp (.fn (.func 223) [] []) := dd3 fun a va ra => by obtain rfl := ra; exact ⟨_, cm3, rfl⟩

def RF169 (res : Bool) (r : PV) : Prop := r = vb res
theorem bd4 {x0 : List UInt8} : FnR Tryz.prog 169 [vs x0] (vb (jm x0)) := by
 refine fnS (R := RF169) az5 (fun _ h => h) rfl fun res hres => ?_
 unfold jm at hres
 refine sR (mB rfl (nS (ap (sR (mV rfl (af (cq rfl (od Tryz.underlying9)) (bN dj rfl rfl (mV rfl ?_))))))))
 refine ca 4 (d := 10) (v := vb ((decide ((x0.length : Int) = 0)) || (decide (16 < (x0.length : Int))))) ?_ ?_
 ·intro S Q r
  cases a5 : (decide ((x0.length : Int) = 0))
  ·intro k
   have a1 := a5
   try simp only [qa, qaD] at a1
   refine ah rfl rfl (ax rfl) (ah rfl rfl (cq rfl (od Tryz.underlying9)) (ah rfl rfl (cb rfl rfl iu) ?_))
   exact gK rfl rfl rfl rfl rfl k
  ·exact gN 3 rfl rfl rfl rfl rfl rfl
 refine mV rfl ?_
 refine ca 5 (d := 16) (v := vb (((decide ((x0.length : Int) = 0)) || (decide (16 < (x0.length : Int)))) || (!(lh (ix x0 0))))) ?_ ?_
 ·intro S Q r
  cases a3 : ((decide ((x0.length : Int) = 0)) || (decide (16 < (x0.length : Int))))
  ·intro k
   have a0 := a3
   try simp only [qa, qaD] at a0
   refine ah rfl rfl (ax rfl) (ah rfl rfl (qb rfl rfl (tc (i := 0) Tryz.underlying9 (by omega) (by omega))) ?_)
   have a6 := be4 (x0 := (ix x0 0))  
   refine mn rfl rfl (rp rfl rfl (ak rfl bd) a6) (ah rfl rfl (kp rfl) ?_)
   exact gK rfl rfl rfl rfl rfl k
  ·exact gN 4 rfl rfl rfl rfl rfl rfl
 refine nS ?_
 refine bz hres rfl ?_ ?_ <;> clear hres <;> intro c hres <;> try simp only [qa, qaD] at c
 ·refine sR (mB rfl (nS ?_))
  exact rR hres rfl rfl rfl
 ·refine az (au (sR (mV rfl ?_)))
  obtain ⟨a7, a2, hres⟩ := bp hres
  have a4 := cm0 (x0 := x0) cv9 (by first | assumption | omega | (rw [cv (by omega) (by omega)]; omega))
  rw [a2] at a4
  refine cL a4 rfl rfl (ak rfl (ak rfl bd)) (mV rfl (af (cq rfl (od Tryz.underlying9)) (bN dj rfl rfl (mV rfl (nS ?_)))))
  exact rR hres rfl rfl rfl

def RF171 (res : Bool) (r : PV) : Prop := r = vb res
theorem cg6 {x0 : ay} {c0 : ay} {v0 w0 : PV} (r0 : ay.t.R x0 v0) (a0 : ay.t.R c0 w0) : FnR Tryz.prog 171 [v0, .fp w0] (vb (fi x0 c0)) := by
 refine fnS (R := RF171) bc6 (fun _ h => h) rfl fun res hres => ?_
 unfold fi at hres
 refine sR (af (dn rfl (TR.cnt ay.t r0)) (mB rfl (nR (fL rfl (ay.g_Name r0) rfl rfl (fL rfl (ay.g_Name a0) rfl rfl (af (cb (a := vs x0.Name) (b := vs c0.Name) rfl rfl am5) (mV rfl (nS ?_))))))))
 exact rR hres rfl rfl rfl

def RF225 (res : Int) (r : PV) : Prop := r = vi res
theorem ni {S : List Fr} {res : Int} {x0 : List ay} {x1 : ay → Bool} {v0 v1 : PV} (r0 : (tSl ay.t).R x0 v0) (r1 : (tFn Tryz.prog ay.t tB).R x1 v1) {K0 : Unit → Int}
  (a8 : K0 () = res → PX Tryz.prog 0 S (QR Tryz.prog [(4, none)] (RF225 res)) [] ⟨0, []⟩) :
  ∀ {m : Nat} {a0 : Int} (a7 : m = Int.toNat ((x0.length : Int) - a0)) (a2 : 0 ≤ a0), df x0 x1 K0 m a0 = res → RC Tryz.prog (.loop by9) S (QR Tryz.prog [(4, none)] (RF225 res)) [(8, vi a0), (7, vi (x0.length : Int)), (1, v1), (0, v0)] ⟨0, []⟩ := by
 intro m
 induction m with
 | zero =>
  intro a0 a7 a2 hres
  rw [df] at hres
  refine cj (sR (bN cn rfl rfl (nS (ap ?_))))
  refine cd rfl ?_ ?_ <;> intro c <;> try simp only [qa, qaD] at c
  ·omega
  refine dl (eh (de ?_))
  exact wP (a8  hres) rfl
 | succ m ih =>
  intro a0 a7 a2 hres
  rw [df] at hres
  refine cj (sR (bN cn rfl rfl (nS (ap ?_))))
  refine cd rfl ?_ ?_ <;> intro c <;> try simp only [qa, qaD] at c
  rotate_left
  ·omega
  refine az (au (ap (bf (sR (mV rfl (mV rfl (nR (mV rfl ?_))))))))
  refine mV rfl (mV rfl ?_)
  obtain ⟨a5, a4, a3⟩ := dh (i := a0) r0 (by omega) (by omega)
  refine af (bn rfl rfl a4) (lD a3 rfl rfl rfl ?_)
  refine bs4 rfl r1 rfl (show ay.t.R (ix x0 a0) a5 from a3) (fun a6 a1 => ?_)
  have a1 : a6 = vb (x1 (ix x0 a0)) := a1; subst a1
  refine nS ?_
  refine bz hres rfl ?_ ?_ <;> clear hres <;> intro c hres <;> try simp only [qa, qaD] at c
  ·refine sR (mV rfl (mV rfl (nS ?_)))
   exact rR hres rfl rfl rfl
  ·refine az (cy (au (aw (bN dp rfl rfl (mV rfl (br (cx ?_)))))))
   have hbd := dc r0
   have hinc : wr (a0 + 1) = a0 + 1 := cv (by omega) (by omega)
   erw [hinc]
   exact wC (ih   (by omega) (by omega) hres) rfl

theorem cj5 {x0 : List ay} {x1 : ay → Bool} {v0 v1 : PV} (r0 : (tSl ay.t).R x0 v0) (r1 : (tFn Tryz.prog ay.t tB).R x1 v1) : FnR Tryz.prog 225 [v0, v1] (vi (gf x0 x1)) := by
 refine fnS (R := RF225) ba0 (fun _ h => h) rfl fun res hres => ?_
 unfold gf at hres
 refine sR (mI rfl (nS (ap (sR (mV rfl (af (cq rfl (ci r0 Tryz.underlying23 _)) (mI rfl (nS ?_))))))))
 refine bf ?_
 refine wC (ni r0 r1 ?_  rfl (by omega) hres) rfl
 ·intro  hres
  refine em (au (sR (mI rfl (nS ?_))))
  exact rR hres rfl rfl rfl

def RF170 (res : Bool) (r : PV) : Prop := r = vb res
theorem cb4 {x0 : List ay} {x1 : ay → Bool} {v0 v1 : PV} (r0 : (tSl ay.t).R x0 v0) (r1 : (tFn Tryz.prog ay.t tB).R x1 v1) : FnR Tryz.prog 170 [v0, v1] (vb (fq x0 x1)) := by
 refine fnS (R := RF170) bd6 (fun _ h => h) rfl fun res hres => ?_
 unfold fq at hres
 refine sR (mB rfl (nR (mV rfl (mV rfl ?_))))
 obtain ⟨a2, a1, hres⟩ := bp hres
 have a0 := cj5  r0 r1 
 rw [a1] at a0
 refine cL a0 rfl rfl (ak (TR.clo (tSl ay.t) r0) (ak (TR.clo (tFn Tryz.prog ay.t tB) r1) bd)) (bN kt rfl rfl (mV rfl (nS ?_)))
 exact rR hres rfl rfl rfl

def RF103 (res : Int) (r : PV) : Prop := r = vi res
theorem rx {S : List Fr} {res : Int} {x0 : bc} {c4 : Bool} {v0 a4 : PV} (r0 : bc.t.R x0 v0) (d4 : jm x0.Name = c4) (b7 : (!c4) = false) (c2 : ((decide (4 < (x0.Params.length : Int))) || (decide (12 < (x0.Body.length : Int)))) = false) (b2 : (tSl ay.t).R x0.Params a4) {K1 : Unit → Int}
  (d7 : ∀ {h : Heap} (M0 : Mem h []), K1 () = res → PX Tryz.prog 1 S (QR Tryz.prog [(2, none)] (RF103 res)) [] h) :
  ∀ {m : Nat} {a0 : Int} (d6 : m = Int.toNat ((x0.Params.length : Int) - a0)) (b8 : 0 ≤ a0) {h : Heap} (M0 : Mem h []), gk x0 K1 m a0 = res → RC Tryz.prog (.loop bp8) S (QR Tryz.prog [(2, none)] (RF103 res)) [(24, vi a0), (23, vi (x0.Params.length : Int)), (22, a4), (1, .fp v0)] h := by
 have a8 := b7
 try simp only [qa, qaD] at a8
 have b0 := c2
 try simp only [qa, qaD] at b0
 intro m
 induction m with
 | zero =>
  intro a0 d6 b8 h M0 hres
  rw [gk] at hres
  refine cj (sR (bN cn rfl rfl (nS (ap ?_))))
  refine cd rfl ?_ ?_ <;> intro c <;> try simp only [qa, qaD] at c
  ·omega
  refine dl (eh (de ?_))
  exact wP (d7 (Mem.sub M0 .slnil) hres) rfl
 | succ m ih =>
  intro a0 d6 b8 h M0 hres
  rw [gk] at hres
  refine cj (sR (bN cn rfl rfl (nS (ap ?_))))
  refine cd rfl ?_ ?_ <;> intro c <;> try simp only [qa, qaD] at c
  rotate_left
  ·omega
  refine az (au (ap (bf (sR (mV rfl ?_)))))
  obtain ⟨a1, c7, a3⟩ := dh (i := a0) b2 (by omega) (by omega)
  refine af (bn rfl rfl c7) (lD a3 rfl rfl rfl ?_)
  refine ek (x := .agg [vs [], vi 0]) M0 rfl rfl (fun c8 d0 d8 d3 => ?_)
  refine mV rfl ?_
  refine dy (k := 0) (v := a1) d3 rfl rfl rfl (TR.cnt ay.t a3) (fun c9 a5 => ?_)
  replace a5 : Mem c9 [⟨.op c8 d0 0, 166, 2, [a1]⟩] := a5
  refine nS (bf (ap (ep (co (af (ba rfl) (cp (co (af (bt (k := 0) a5 rfl rfl (ay.g_Name a3)) ?_))))))))
  refine cp (co ?_)
  obtain ⟨a2, c3, hres⟩ := bp hres
  have c1 := bd4 (x0 := (ix x0.Params a0).Name)  
  rw [c3] at c1
  refine cL c1 rfl rfl (ak rfl bd) (cp (co (af (kp rfl) (cp (co (mV rfl (cp ?_)))))))
  refine ae6 (k := 0) (E' := [(29, vb (!a2)), (33, vb (!a2)), (32, vb a2), (31, vs ((ix x0.Params a0).Name)), (3, vi a0), (4, .fp a1), (28, a1), (27, .fp a1), (26, vi a0), (25, vb (decide (a0 < (x0.Params.length : Int)))), (24, vi a0), (23, vi (x0.Params.length : Int)), (22, a4), (1, .fp v0)]) a5 rfl (lu rfl (lu rfl (lu rfl (lu rfl (lu rfl (as6 rfl (lu rfl (lu rfl (lu rfl (lu rfl (lu rfl (lu rfl (lu rfl (lu rfl bh1)))))))))))))) (fun b1 a7 => ?_)
  replace a7 : Mem b1 [] := a7
  refine ju (au ?_)
  refine bz hres rfl ?_ ?_ <;> clear hres <;> intro c hres <;> try simp only [qa, qaD] at c
  ·refine sR (mI rfl (nS ?_))
   exact rR hres rfl rfl rfl
  ·refine sR (fL rfl (ay.g_Width a3) rfl rfl (bN cn rfl rfl (mV rfl ?_)))
   refine ca 4 (d := 42) (v := vb ((decide (((ix x0.Params a0).Width) < 1)) || (decide (32 < ((ix x0.Params a0).Width))))) ?_ ?_
   ·intro S Q r
    cases b6 : (decide (((ix x0.Params a0).Width) < 1))
    ·intro k
     have a9 := b6
     try simp only [qa, qaD] at a9
     refine ah rfl rfl (bw rfl (ay.g_Width a3)) (ah rfl rfl (bv rfl rfl rfl) (ah rfl rfl (cb rfl rfl iu) ?_))
     exact gK rfl rfl rfl rfl rfl k
    ·exact gN 3 rfl rfl rfl rfl rfl rfl
   refine mV rfl (nS ?_)
   refine bz hres rfl ?_ ?_ <;> clear hres <;> intro c hres <;> try simp only [qa, qaD] at c
   ·refine sR (mI rfl (nS ?_))
    exact rR hres rfl rfl rfl
   ·refine sR ?_
    obtain ⟨a6, d2, c5⟩ := bc.g_Params r0
    refine fA rfl d2 (lD c5 rfl rfl rfl (mV rfl (uv (E0 := [(46, vi a0), (45, a6), (44, .fp a6), (34, vb ((decide (((ix x0.Params a0).Width) < 1)) || (decide (32 < ((ix x0.Params a0).Width))))), (42, vb ((decide (((ix x0.Params a0).Width) < 1)) || (decide (32 < ((ix x0.Params a0).Width))))), (38, vb (decide (((ix x0.Params a0).Width) < 1))), (37, vb (decide (((ix x0.Params a0).Width) < 1))), (36, vi ((ix x0.Params a0).Width)), (35, .fp (vi ((ix x0.Params a0).Width))), (29, vb (!a2)), (33, vb (!a2)), (32, vb a2), (31, vs ((ix x0.Params a0).Name)), (3, vi a0), (4, .fp a1), (28, a1), (27, .fp a1), (26, vi a0), (25, vb (decide (a0 < (x0.Params.length : Int)))), (24, vi a0), (23, vi (x0.Params.length : Int)), (22, a4), (1, .fp v0)]) (sB rfl) ?_)))
    obtain ⟨c6, d1, b9⟩ := ao7 (P := Tryz.prog) (hf := false) (E := [(46, vi a0), (45, a6), (44, .fp a6), (34, vb ((decide (((ix x0.Params a0).Width) < 1)) || (decide (32 < ((ix x0.Params a0).Width))))), (42, vb ((decide (((ix x0.Params a0).Width) < 1)) || (decide (32 < ((ix x0.Params a0).Width))))), (38, vb (decide (((ix x0.Params a0).Width) < 1))), (37, vb (decide (((ix x0.Params a0).Width) < 1))), (36, vi ((ix x0.Params a0).Width)), (35, .fp (vi ((ix x0.Params a0).Width))), (29, vb (!a2)), (33, vb (!a2)), (32, vb a2), (31, vs ((ix x0.Params a0).Name)), (3, vi a0), (4, .fp a1), (28, a1), (27, .fp a1), (26, vi a0), (25, vb (decide (a0 < (x0.Params.length : Int)))), (24, vi a0), (23, vi (x0.Params.length : Int)), (22, a4), (1, .fp v0)]) (h := b1) (t := ay.t) (tt := 23) (x := (.tmp 45)) (lo := none) (hi := (some (.tmp 46))) (a := 0) (b := a0) c5 rfl rfl rfl (show 0 ≤ 0 by omega) (show 0 ≤ a0 by omega) (show a0 ≤ (x0.Params.length : Int) by omega) (fun ad => by kernel_rfl)
    have d5 := uy (l := x0.Params) (show 0 ≤ 0 by omega) (show 0 ≤ a0 by omega) (show a0 ≤ (x0.Params.length : Int) by omega)
    refine af (v := c6) (d1) ?_
    have b5 : (tFn Tryz.prog ay.t tB).R (fun a_ => fi a_ (ix x0.Params a0)) (.fn (.func 171) [] [.fp a1]) := cn3 (ak (da8 (TR.clo ay.t a3)) bd) fun a va ra => by exact ⟨_, cg6  ra a3 , rfl⟩
    refine af (v := .fn (.func 171) [] [.fp a1]) (ah6 rfl rfl) ?_
    obtain ⟨d9, b4, hres⟩ := bp hres
    have b3 := cb4  b9 b5 
    rw [b4] at b3
    refine cL b3 rfl rfl (ak (TR.clo (tSl ay.t) b9) (ak (TR.clo (tFn Tryz.prog ay.t tB) b5) bd)) (mV rfl (nS ?_))
    refine bz hres rfl ?_ ?_ <;> clear hres <;> intro c hres <;> try simp only [qa, qaD] at c
    ·refine sR (mI rfl (nS ?_))
     exact rR hres rfl rfl rfl
    ·refine az (cy (cy (au (aw (bN dp rfl rfl (mV rfl (br (cx ?_))))))))
     have hbd := dc b2
     have hinc : wr (a0 + 1) = a0 + 1 := cv (by omega) (by omega)
     erw [hinc]
     exact wC (ih   (by omega) (by omega) (Mem.sub a7 .slnil) hres) rfl

theorem ca8 {x0 : bc} {v0 : PV} (r0 : bc.t.R x0 v0) : FnR Tryz.prog 103 [v0] (vi (jl x0)) := by
 refine fnS (R := RF103) bd2 (fun _ h => h) rfl fun res hres => ?_
 unfold jl at hres
 refine sR (af (dn rfl (TR.cnt bc.t r0)) (mI rfl (nS (ap (bf (sR (fL rfl (bc.g_Name r0) rfl rfl ?_)))))))
 obtain ⟨b6, a1, hres⟩ := bp hres
 have a9 := bd4 (x0 := x0.Name)  
 rw [a1] at a9
 refine cL a9 rfl rfl (ak rfl bd) (af (kp rfl) (mV rfl (nS ?_)))
 refine bz hres rfl ?_ ?_ <;> clear hres <;> intro a0 hres <;> have a3 := a0 <;> try simp only [qa, qaD] at a3
 ·refine sR (mI rfl (nS ?_))
  exact rR hres rfl rfl rfl
 ·refine sR (gL (bc.g_Params r0) rfl rfl rfl fun b5 b0 => (af (cq rfl (ci b0 Tryz.underlying23 _)) (bN iu rfl rfl (mV rfl ?_))))
  refine ca 5 (d := 20) (v := vb ((decide (4 < (x0.Params.length : Int))) || (decide (12 < (x0.Body.length : Int))))) ?_ ?_
  ·intro S Q r
   cases a8 : (decide (4 < (x0.Params.length : Int)))
   ·intro k
    have a5 := a8
    try simp only [qa, qaD] at a5
    obtain ⟨b7, b1, a4⟩ := bc.g_Body r0
    refine ah rfl rfl (bw rfl b1) (ah rfl rfl (bv rfl (TR.cnt (tSl aq.t) a4) (TR.agg (tSl aq.t) a4)) (ah rfl rfl (cq rfl (ci a4 Tryz.underlying95 _)) (ah rfl rfl (cb rfl rfl iu) ?_)))
    exact gK rfl rfl rfl rfl rfl k
   ·exact gN 4 rfl rfl rfl rfl rfl rfl
  refine mV rfl (nS ?_)
  refine bz hres rfl ?_ ?_ <;> clear hres <;> intro a2 hres <;> have a6 := a2 <;> try simp only [qa, qaD] at a6
  ·refine sR (mI rfl (nS ?_))
   exact rR hres rfl rfl rfl
  ·refine az (cy (au (ap (sR (gL (bc.g_Params r0) rfl rfl rfl fun b3 a7 => (af (cq rfl (ci a7 Tryz.underlying23 _)) (mI rfl (nS ?_))))))))
   refine bf ?_
   refine wC (rx r0 a1 a0 a2 a7 ?_  rfl (by omega) (Mem.sub (Mem.nil ⟨0, []⟩) .slnil) hres) rfl
   ·intro b4 b2 hres
    refine em (au (sR (mI rfl (nS ?_))))
    exact rR hres rfl rfl rfl

def RF172 (res : Int × Bool) (r : PV) : Prop := r = .tup [vi res.1, vb res.2]
theorem cd2 {x0 : ab} {x1 : aa} {v0 v1 : PV} (r0 : ab.t.R x0 v0) (r1 : aa.t.R x1 v1) : FnR Tryz.prog 172 [v0, v1] (.tup [vi ((pd x0 x1).1), vb ((pd x0 x1).2)]) := by
 refine fnS (R := RF172) bb7 (fun _ h => h) rfl fun res hres => ?_
 unfold pd at hres
 refine sR (af (dn rfl (TR.cnt ab.t r0)) (af (dn rfl (TR.cnt aa.t r1)) (mI rfl (mB rfl (nR (gL (ab.g_Metadata r0) rfl rfl rfl fun c3 a9 => (mV rfl (nS ?_))))))))
 refine ap (sR (fL rfl (aa.g_Header r1) rfl rfl (bN (ks (b := -1)) rfl rfl (nS ?_))))
 obtain ⟨b2, a7, hres⟩ := bp hres
 refine lm (F := fun b S Q => ∀ (a0 : List ay) (a2 : PV) (a1 : (tSl ay.t).R a0 a2), b2 a0 = res → RC Tryz.prog b S Q [(6, a2), (3, .fp v1)] ⟨0, []⟩) ?_ ?_
 ·intro a0 a2 a1  hres
  rw [← a7] at hres
  refine ap (sR (fL rfl (aa.g_Field r1) rfl rfl (bN cn rfl rfl (mV rfl ?_))))
  refine ca 6 (d := 39) (v := vb ((decide (x1.Field < 0)) || (decide ((a0.length : Int) ≤ x1.Field)))) ?_ ?_
  ·intro S Q r
   cases a8 : (decide (x1.Field < 0))
   ·intro k
    have a5 := a8
    try simp only [qa, qaD] at a5
    refine ah rfl rfl (bw rfl (aa.g_Field r1)) (ah rfl rfl (bv rfl rfl rfl) (ah rfl rfl (ax rfl) (ah rfl rfl (cq rfl (ci a1 Tryz.underlying23 _)) (ah rfl rfl (cb rfl rfl kt) ?_))))
    exact gK rfl rfl rfl rfl rfl k
   ·exact gN 5 rfl rfl rfl rfl rfl rfl
  refine nS ?_
  refine bz hres rfl ?_ ?_ <;> clear hres <;> intro c hres <;> try simp only [qa, qaD] at c
  ·refine sR (mI rfl (mB rfl (nS ?_)))
   exact rT hres rfl rfl rfl rfl rfl
  ·refine az (au (sR (mV rfl (fL rfl (aa.g_Field r1) rfl rfl ?_))))
   obtain ⟨c1, b0, b4⟩ := dh (i := x1.Field) a1 (by omega) (by omega)
   refine af (bn rfl rfl b0) (fL rfl (ay.g_Width b4) rfl rfl (mV rfl (mB rfl (nS ?_))))
   exact rT hres rfl rfl rfl rfl rfl
 ·intro J
  refine bz hres rfl ?_ ?_ <;> clear hres <;> intro c hres <;> try simp only [qa, qaD] at c
  ·refine ap (sR (fL rfl (aa.g_Header r1) rfl rfl (bN cn rfl rfl (mV rfl ?_))))
   refine ca 7 (d := 22) (v := vb ((decide (x1.Header < 0)) || (decide ((x0.Headers.length : Int) ≤ x1.Header)))) ?_ ?_
   ·intro S Q r
    cases a6 : (decide (x1.Header < 0))
    ·intro k
     have a4 := a6
     try simp only [qa, qaD] at a4
     refine ah rfl rfl (bw rfl (aa.g_Header r1)) (ah rfl rfl (bv rfl rfl rfl) ?_)
     obtain ⟨b9, b3, a3⟩ := ab.g_Headers r0
     refine ah rfl rfl (bw rfl b3) (ah rfl rfl (bv rfl (TR.cnt (tSl bg.t) a3) (TR.agg (tSl bg.t) a3)) (ah rfl rfl (cq rfl (ci a3 Tryz.underlying22 _)) (ah rfl rfl (cb rfl rfl kt) ?_)))
     exact gK rfl rfl rfl rfl rfl k
    ·exact gN 6 rfl rfl rfl rfl rfl rfl
   refine nS ?_
   refine bz hres rfl ?_ ?_ <;> clear hres <;> intro c hres <;> try simp only [qa, qaD] at c
   ·refine sR (mI rfl (mB rfl (nS ?_)))
    exact rT hres rfl rfl rfl rfl rfl
   ·refine az (au (aw (gL (ab.g_Headers r0) rfl rfl rfl fun c2 b7 => (fL rfl (aa.g_Header r1) rfl rfl ?_))))
    obtain ⟨c4, b5, b1⟩ := dh (i := x1.Header) b7 (by omega) (by omega)
    refine af (bn rfl rfl b5) (gL (bg.g_Fields b1) rfl rfl rfl fun b8 b6 => (mV rfl (br ?_)))
    refine au (wC (J _ _ b6  hres) rfl)
  ·refine az ?_
   refine au (wC (J _ _ a9  hres) rfl)

def RF267 (res : Int) (r : PV) : Prop := r = vi res
theorem al5 {x0 : Int} : FnR Tryz.prog 267 [vi x0] (vi (du x0)) := by
 refine fnS (R := RF267) bf0 (fun _ h => h) rfl fun res hres => ?_
 unfold du at hres
 refine sR (mI rfl (nS (ap (sR (mV rfl (nS (bf (ap ?_))))))))
 refine sR (bN dj rfl rfl (mV rfl (nS ?_)))
 obtain ⟨a8, a5, hres⟩ := bp hres
 refine lm (F := fun b S Q => ∀ (a1 : Bool), a8 a1 = res → RC Tryz.prog b S Q [(4, vb a1), (3, vi x0)] ⟨0, []⟩) ?_ ?_
 ·intro a1  hres
  rw [← a5] at hres
  refine bz hres rfl ?_ ?_ <;> clear hres <;> intro c hres <;> try simp only [qa, qaD] at c
  ·refine sR (mI rfl (nS ?_))
   exact rR hres rfl rfl rfl
  ·refine ap (sR (bN dj rfl rfl (mV rfl (nS ?_))))
   obtain ⟨a7, a4, hres⟩ := bp hres
   refine lm (F := fun b S Q => ∀ (a2 : Bool), a7 a2 = res → RC Tryz.prog b S Q [(9, vb a2), (3, vi x0)] ⟨0, []⟩) ?_ ?_
   ·intro a2  hres
    rw [← a4] at hres
    refine bz hres rfl ?_ ?_ <;> clear hres <;> intro c hres <;> try simp only [qa, qaD] at c
    ·refine sR (mI rfl (nS ?_))
     exact rR hres rfl rfl rfl
    ·refine ap (sR (bN dj rfl rfl (mV rfl (nS ?_))))
     obtain ⟨a6, a3, hres⟩ := bp hres
     refine lm (F := fun b S Q => ∀ (a0 : Bool), a6 a0 = res → RC Tryz.prog b S Q [(14, vb a0), (3, vi x0)] ⟨0, []⟩) ?_ ?_
     ·intro a0  hres
      rw [← a3] at hres
      refine bz hres rfl ?_ ?_ <;> clear hres <;> intro c hres <;> try simp only [qa, qaD] at c
      ·refine sR (mI rfl (nS ?_))
       exact rR hres rfl rfl rfl
      ·refine sR (bN dj rfl rfl (mV rfl (nS ?_)))
       refine bz hres rfl ?_ ?_ <;> clear hres <;> intro c hres <;> try simp only [qa, qaD] at c
       ·refine sR (mI rfl (nS ?_))
        exact rR hres rfl rfl rfl
       ·refine az (cy (au (sR (mI rfl (nS ?_)))))
        exact rR hres rfl rfl rfl
     ·intro J
      refine bz hres rfl ?_ ?_ <;> clear hres <;> intro c hres <;> try simp only [qa, qaD] at c
      ·refine az ?_
       refine au (wC (J _  hres) rfl)
      ·refine sR (bN dj rfl rfl (mV rfl (nS ?_)))
       refine bz hres rfl ?_ ?_ <;> clear hres <;> intro c hres <;> try simp only [qa, qaD] at c
       ·refine az ?_
        refine au (wC (J _  hres) rfl)
       ·refine sR (bN dj rfl rfl (mV rfl (nS ?_)))
        refine bz hres rfl ?_ ?_ <;> clear hres <;> intro c hres <;> try simp only [qa, qaD] at c
        ·refine az ?_
         refine au (wC (J _  hres) rfl)
        ·refine sR (bN dj rfl rfl (mV rfl (nS ?_)))
         refine bz hres rfl ?_ ?_ <;> clear hres <;> intro c hres <;> try simp only [qa, qaD] at c
         ·refine az ?_
          refine au (wC (J _  hres) rfl)
         ·refine sR (bN dj rfl rfl (mV rfl (nS ?_)))
          refine bz hres rfl ?_ ?_ <;> clear hres <;> intro c hres <;> try simp only [qa, qaD] at c
          ·refine az ?_
           refine au (wC (J _  hres) rfl)
          ·refine sR (bN dj rfl rfl (mV rfl (nS ?_)))
           refine bz hres rfl ?_ ?_ <;> clear hres <;> intro c hres <;> try simp only [qa, qaD] at c
           ·refine az ?_
            refine au (wC (J _  hres) rfl)
           ·refine sR (bN dj rfl rfl (mV rfl (nS ?_)))
            refine bz hres rfl ?_ ?_ <;> clear hres <;> intro c hres <;> try simp only [qa, qaD] at c
            ·refine az ?_
             refine au (wC (J _  hres) rfl)
            ·refine aw (bN dj rfl rfl (mV rfl (br ?_)))
             refine au (wC (J _  hres) rfl)
   ·intro J
    refine bz hres rfl ?_ ?_ <;> clear hres <;> intro c hres <;> try simp only [qa, qaD] at c
    ·refine az ?_
     refine au (wC (J _  hres) rfl)
    ·refine sR (bN dj rfl rfl (mV rfl (nS ?_)))
     refine bz hres rfl ?_ ?_ <;> clear hres <;> intro c hres <;> try simp only [qa, qaD] at c
     ·refine az ?_
      refine au (wC (J _  hres) rfl)
     ·refine sR (bN dj rfl rfl (mV rfl (nS ?_)))
      refine bz hres rfl ?_ ?_ <;> clear hres <;> intro c hres <;> try simp only [qa, qaD] at c
      ·refine az ?_
       refine au (wC (J _  hres) rfl)
      ·refine aw (bN dj rfl rfl (mV rfl (br ?_)))
       refine au (wC (J _  hres) rfl)
 ·intro J
  refine bz hres rfl ?_ ?_ <;> clear hres <;> intro c hres <;> try simp only [qa, qaD] at c
  ·refine az ?_
   refine au (wC (J _  hres) rfl)
  ·refine sR (bN dj rfl rfl (mV rfl (nS ?_)))
   refine bz hres rfl ?_ ?_ <;> clear hres <;> intro c hres <;> try simp only [qa, qaD] at c
   ·refine az ?_
    refine au (wC (J _  hres) rfl)
   ·refine sR (bN dj rfl rfl (mV rfl (nS ?_)))
    refine bz hres rfl ?_ ?_ <;> clear hres <;> intro c hres <;> try simp only [qa, qaD] at c
    ·refine az ?_
     refine au (wC (J _  hres) rfl)
    ·refine aw (bN dj rfl rfl (mV rfl (br ?_)))
     refine au (wC (J _  hres) rfl)

def RF287 (res : Int × Int) (r : PV) : Prop := r = .tup [vi res.1, vi res.2]
theorem xp {x0 : Int} : FnR Tryz.prog 287 [vi x0] (.tup [vi ((mm x0).1), vi ((mm x0).2)]) := by
 refine fnS (R := RF287) ba9 (fun _ h => h) rfl fun res hres => ?_
 unfold mm at hres
 refine sR (mI rfl (mI rfl (nS (ap (sR (mV rfl (bN cn rfl rfl (mV rfl ?_))))))))
 refine ca 3 (d := 9) (v := vb ((decide (x0 < 1)) || (decide (32 < x0)))) ?_ ?_
 ·intro S Q r
  cases a1 : (decide (x0 < 1))
  ·intro k
   have a0 := a1
   try simp only [qa, qaD] at a0
   refine ah rfl rfl (ax rfl) (ah rfl rfl (cb rfl rfl iu) ?_)
   exact gK rfl rfl rfl rfl rfl k
  ·exact gN 2 rfl rfl rfl rfl rfl rfl
 refine nS ?_
 refine bz hres rfl ?_ ?_ <;> clear hres <;> intro c hres <;> try simp only [qa, qaD] at c
 ·refine sR (mI rfl (mI rfl (nS ?_)))
  exact rT hres rfl rfl rfl rfl rfl
 ·refine az (au (sR (mV rfl (mV rfl (mI rfl (nS ?_))))))
  exact rT hres rfl rfl rfl rfl rfl

def RF181 (res : Bool) (r : PV) : Prop := r = vb res
theorem wq {S : List Fr} {res : Bool} {x0 : List Int} {v0 : PV} (r0 : (tSl tI).R x0 v0) {K0 : Unit → Bool}
  (a5 : K0 () = res → PX Tryz.prog 0 S (QR Tryz.prog [(2, none)] (RF181 res)) [] ⟨0, []⟩) :
  ∀ {m : Nat} {a0 : Int} (a4 : m = Int.toNat ((x0.length : Int) - a0)) (a3 : 0 ≤ a0), lp x0 K0 m a0 = res → RC Tryz.prog (.loop bt4) S (QR Tryz.prog [(2, none)] (RF181 res)) [(7, vi a0), (6, vi (x0.length : Int)), (5, v0)] ⟨0, []⟩ := by
 intro m
 induction m with
 | zero =>
  intro a0 a4 a3 hres
  rw [lp] at hres
  refine cj (sR (bN cn rfl rfl (nS (ap ?_))))
  refine cd rfl ?_ ?_ <;> intro c <;> try simp only [qa, qaD] at c
  ·omega
  refine dl (eh (de ?_))
  exact wP (a5  hres) rfl
 | succ m ih =>
  intro a0 a4 a3 hres
  rw [lp] at hres
  refine cj (sR (bN cn rfl rfl (nS (ap ?_))))
  refine cd rfl ?_ ?_ <;> intro c <;> try simp only [qa, qaD] at c
  rotate_left
  ·omega
  refine az (au (ap (bf (sR (af (bn rfl rfl (slI r0 (by omega) (by omega))) (lR rfl rfl rfl (mV rfl (nR ?_))))))))
  refine mV rfl (bN cn rfl rfl (mV rfl ?_))
  refine ca 3 (d := 16) (v := vb ((decide ((ix x0 a0) < 1)) || (decide (32 < (ix x0 a0))))) ?_ ?_
  ·intro S Q r
   cases a2 : (decide ((ix x0 a0) < 1))
   ·intro k
    have a1 := a2
    try simp only [qa, qaD] at a1
    refine ah rfl rfl (ax rfl) (ah rfl rfl (cb rfl rfl iu) ?_)
    exact gK rfl rfl rfl rfl rfl k
   ·exact gN 2 rfl rfl rfl rfl rfl rfl
  refine nS ?_
  refine bz hres rfl ?_ ?_ <;> clear hres <;> intro c hres <;> try simp only [qa, qaD] at c
  ·refine sR (mB rfl (nS ?_))
   exact rR hres rfl rfl rfl
  ·refine az (cy (au (aw (bN dp rfl rfl (mV rfl (br (cx ?_)))))))
   have hbd := dc r0
   have hinc : wr (a0 + 1) = a0 + 1 := cv (by omega) (by omega)
   erw [hinc]
   exact wC (ih   (by omega) (by omega) hres) rfl

theorem cc5 {x0 : List Int} {v0 : PV} (r0 : (tSl tI).R x0 v0) : FnR Tryz.prog 181 [v0] (vb (oz x0)) := by
 refine fnS (R := RF181) bc9 (fun _ h => h) rfl fun res hres => ?_
 unfold oz at hres
 refine sR (mB rfl (nS (ap (sR (mV rfl (af (cq rfl (ci r0 Tryz.underlying29 _)) (mI rfl (nS ?_))))))))
 refine bf ?_
 refine wC (wq r0 ?_  rfl (by omega) hres) rfl
 ·intro  hres
  refine em (au (sR (mB rfl (nS ?_))))
  exact rR hres rfl rfl rfl

end Go.Proofs.YtmonnlkagniolaaGreat
