/-
 The code of each function does what its plain program says.
-/
import Derived.Test.YtmonnlkagniolaaGreatL9W3
set_option linter.unusedVariables false
set_option linter.unusedSimpArgs false
set_option maxRecDepth 100000
namespace Go.Proofs.YtmonnlkagniolaaGreat
open Go Go.Pb Go.RowKit
def RF109 (i0_ w0_ : Nat) (R_ : List Ent) (res : bq) (r : PV) (h : Heap) : Prop := ∃ aF0_0 : PV, ∃ esF0_0 : List PV, ∃ aF0_2 : PV, ∃ esF0_2 : List PV, ∃ aF0_4 : PV, ∃ esF0_4 : List PV, Mem h (⟨.op i0_ w0_ 0, 157, 3, [.agg [aF0_0, aF0_2, aF0_4]]⟩ :: ⟨aF0_0, 87, 2, esF0_0⟩ :: ⟨aF0_2, 3, 1, esF0_2⟩ :: ⟨aF0_4, 3, 1, esF0_4⟩ :: R_) ∧ (All2 aa.t.R res.fields esF0_0) ∧ (isL aF0_0 = true) ∧ (res.fields.length ≤ 4611686018427387904) ∧ (Wri aF0_0 esF0_0) ∧ (All2 tI.R res.headers esF0_2) ∧ (isL aF0_2 = true) ∧ (res.headers.length ≤ 4611686018427387904) ∧ (Wri aF0_2 esF0_2) ∧ (All2 tI.R res.registers esF0_4) ∧ (isL aF0_4 = true) ∧ (res.registers.length ≤ 4611686018427387904) ∧ (Wri aF0_4 esF0_4) ∧ r = .tup []
theorem ad4 {x0 : bq} {x1 : List af} {v1 a8 : PV} {a1 : List PV} {a5 : PV} {a0 : List PV} {a2 : PV} {a3 : List PV} {R_ : List Ent} {h_ : Heap} {c3 c6 : Nat} (r1 : (tSl af.t).R x1 v1) (b4 : All2 aa.t.R x0.fields a1) (b3 : isL a8 = true) (f3 : x0.fields.length ≤ 4611686018427387904) (c8 : Wri a8 a1) (b2 : All2 tI.R x0.headers a0) (b0 : isL a5 = true) (f0 : x0.headers.length ≤ 4611686018427387904) (c5 : Wri a5 a0) (b9 : All2 tI.R x0.registers a3) (c0 : isL a2 = true) (c1 : x0.registers.length ≤ 4611686018427387904) (c2 : Wri a2 a3) (M_ : Mem h_ (⟨.op c3 c6 0, 157, 3, [.agg [a8, a5, a2]]⟩ :: ⟨a8, 87, 2, a1⟩ :: ⟨a5, 3, 1, a0⟩ :: ⟨a2, 3, 1, a3⟩ :: R_)) (hb : x1.length ≤ 1000 ∧ x0.fields.length ≤ 100000 ∧ x0.headers.length ≤ 100000) : ∃ r f5, FnX Tryz.prog 109 [.op c3 c6 0, v1] h_ r f5 ∧ RF109 c3 c6 R_ (fi x0 x1) r f5 := by
 refine fnXX (R := RF109 c3 c6 R_) be1 rfl fun res s => ?_
 unfold fi at s
 refine sR (mV rfl (mV rfl (ab (cx rfl rfl) (ab (bf rfl) (ab (cg (k := 0) M_ rfl rfl (mk1 (fb (k := 1) M_ rfl b3).2)) (mV rfl ?_))))))
 obtain ⟨c7, b5, s⟩ := bn s
 obtain ⟨f9, f2, e2⟩ := dh7  r1 (by omega)
 rw [b5] at e2
 have f4 : c7.length ≤ x1.length := by rw [← b5]; exact af8 _
 refine cL f2 rfl rfl (ai (TR.clo (tSl af.t) r1) bg) ?_
 obtain ⟨a4, e3, b8⟩ := ol (t := aa.t) (h := h_) e2
 have d9 : fits (a1.length + a4.length) 16 = true := by rw [All2.length_eq b4, All2.length_eq b8]; (try simp only [List.length_cons, List.length_nil]); exact lr (by omega) (by omega)
 refine nj (k := 1) (es := a1) (news := a4) M_ rfl rfl rfl b3 c8 e3 d9 (fun a7 g0 e1 d2 d7 => ?_)
 have d6 : All2 aa.t.R (x0.fields ++ c7) (a1 ++ a4) := All2.app b4 b8
 have d4 : (x0.fields ++ c7).length ≤ 4611686018427387904 := by rw [← All2.length_eq d6, List.length_append]; exact lm d9
 refine ab (cx rfl rfl) (ab (bf rfl) ?_)
 refine ip (k := 0) (v := a7) d7 rfl rfl rfl (fb (k := 1) d7 rfl e1).1 rfl (by ((simp only [List.length_cons, List.length_nil]; omega))) (fun e7 b1 => ?_)
 replace b1 : Mem e7 (⟨.op c3 c6 0, 157, 3, [.agg [a7, a5, a2]]⟩ :: ⟨a7, 87, 2, (a1 ++ a4)⟩ :: ⟨a5, 3, 1, a0⟩ :: ⟨a2, 3, 1, a3⟩ :: R_) := b1
 refine nS (ax (mV rfl (mV rfl (ab (cx rfl rfl) (ab (bf rfl) (ab (cg (k := 0) b1 rfl rfl (mk1 (fb (k := 2) b1 rfl b0).2)) (mV rfl ?_)))))))
 obtain ⟨c9, b7, s⟩ := bn s
 obtain ⟨f8, f1, d5⟩ := da6  r1 (by omega)
 rw [b7] at d5
 have f6 : c9.length ≤ x1.length := by rw [← b7]; exact ac1 _
 refine cL f1 rfl rfl (ai (TR.clo (tSl af.t) r1) bg) ?_
 obtain ⟨a6, d1, b6⟩ := ol (t := tI) (h := e7) d5
 have d3 : fits (a0.length + a6.length) 8 = true := by rw [All2.length_eq b2, All2.length_eq b6]; (try simp only [List.length_cons, List.length_nil]); exact lr (by omega) (by omega)
 refine nj (k := 2) (es := a0) (news := a6) b1 rfl rfl rfl b0 c5 d1 d3 (fun a9 f7 d0 e6 e4 => ?_)
 have e8 : All2 tI.R (x0.headers ++ c9) (a0 ++ a6) := All2.app b2 b6
 have e9 : (x0.headers ++ c9).length ≤ 4611686018427387904 := by rw [← All2.length_eq e8, List.length_append]; exact lm d3
 refine ab (cx rfl rfl) (ab (bf rfl) ?_)
 refine ip (k := 0) (v := a9) e4 rfl rfl rfl (fb (k := 2) e4 rfl d0).1 rfl (by ((simp only [List.length_cons, List.length_nil]; omega))) (fun d8 c4 => ?_)
 replace c4 : Mem d8 (⟨.op c3 c6 0, 157, 3, [.agg [a7, a9, a2]]⟩ :: ⟨a7, 87, 2, (a1 ++ a4)⟩ :: ⟨a9, 3, 1, (a0 ++ a6)⟩ :: ⟨a2, 3, 1, a3⟩ :: R_) := c4
 refine bp ?_
 have e5 : Mem d8 (⟨.op c3 c6 0, 157, 3, [.agg [a7, a9, a2]]⟩ :: ⟨a7, 87, 2, (a1 ++ a4)⟩ :: ⟨a9, 3, 1, (a0 ++ a6)⟩ :: ⟨a2, 3, 1, a3⟩ :: R_) := (Mem.front (k := 3) (Mem.front (k := 3) (Mem.front (k := 3) (Mem.front (k := 3) c4 rfl) rfl) rfl) rfl)
 subst s
 exact vu .nil ⟨a7, (a1 ++ a4), a9, (a0 ++ a6), a2, a3, Mem.sub e5 (.cons_cons _ (.cons_cons _ (.cons_cons _ (.cons_cons _ (List.Sublist.refl R_))))), d6, e1, d4, d2, e8, d0, e9, e6, b9, c0, c1, c2, rfl⟩

def RF110 (i0_ w0_ : Nat) (R_ : List Ent) (res : (List aa) × (List Int) × (List Int)) (r : PV) (h : Heap) : Prop := ∃ asR0_ : PV, ∃ esR0_ : List PV, ∃ asR1_ : PV, ∃ esR1_ : List PV, ∃ asR2_ : PV, ∃ esR2_ : List PV, Mem h (⟨asR0_, 87, 2, esR0_⟩ :: ⟨asR1_, 3, 1, esR1_⟩ :: ⟨asR2_, 3, 1, esR2_⟩ :: R_) ∧ (All2 aa.t.R res.1 esR0_) ∧ (isL asR0_ = true) ∧ (res.1.length ≤ 4611686018427387904) ∧ (Wri asR0_ esR0_) ∧ (All2 tI.R res.2.1 esR1_) ∧ (isL asR1_ = true) ∧ (res.2.1.length ≤ 4611686018427387904) ∧ (Wri asR1_ esR1_) ∧ (All2 tI.R res.2.2 esR2_) ∧ (isL asR2_ = true) ∧ (res.2.2.length ≤ 4611686018427387904) ∧ (Wri asR2_ esR2_) ∧ r = .tup [asR0_, asR1_, asR2_]
theorem bg6 {x0 : bq} {a5 : PV} {b0 : List PV} {a3 : PV} {a7 : List PV} {a0 : PV} {a6 : List PV} {R_ : List Ent} {h_ : Heap} {i1 i2 : Nat} (g0 : All2 aa.t.R x0.fields b0) (a4 : isL a5 = true) (g4 : x0.fields.length ≤ 4611686018427387904) (g5 : Wri a5 b0) (f9 : All2 tI.R x0.headers a7) (a1 : isL a3 = true) (g2 : x0.headers.length ≤ 4611686018427387904) (g3 : Wri a3 a7) (g6 : All2 tI.R x0.registers a6) (a2 : isL a0 = true) (g1 : x0.registers.length ≤ 4611686018427387904) (f8 : Wri a0 a6) (M_ : Mem h_ (⟨.op i1 i2 0, 157, 3, [.agg [a5, a3, a0]]⟩ :: ⟨a5, 87, 2, b0⟩ :: ⟨a3, 3, 1, a7⟩ :: ⟨a0, 3, 1, a6⟩ :: R_)) (hb : x0.fields.length ≤ 1000000 ∧ x0.headers.length ≤ 1000000 ∧ x0.registers.length ≤ 1000000) : ∃ r k7, FnX Tryz.prog 110 [.op i1 i2 0] h_ r k7 ∧ RF110 i1 i2 R_ (lu x0) r k7 := by
 refine fnXX (R := RF110 i1 i2 R_) cq3 rfl fun res s => ?_
 unfold lu at s
 refine aq (dv (bw (ab (v := nilS) (au rfl) (bv (bw (ab (v := nilS) (au rfl) (bv (bw ?_))))))))
 refine ab (v := nilS) (au rfl) (bv ?_)
 refine xa (k := 0) (E' := [(4, nilS), (3, nilS), (2, nilS), (0, .fp (.agg [a5, a3, a0]))]) M_ rfl (db rfl (db rfl (db rfl (te rfl xw)))) (fun g8 b8 => ?_)
 replace b8 : Mem g8 (⟨a5, 87, 2, b0⟩ :: ⟨a3, 3, 1, a7⟩ :: ⟨a0, 3, 1, a6⟩ :: R_) := b8
 refine je (am (aq (dv (bw (mV rfl (bv (bw (ab (cx rfl rfl) ?_))))))))
 refine bv (bw (fA rfl (mk1 (fb (k := 0) b8 rfl a4).2) (bv (bw (ab (ca rfl (og (k := 0) b8 rfl a4) (fb (k := 0) b8 rfl a4).2) (bv ?_))))))
 have j7 : Mem g8 (⟨a5, 87, 2, b0⟩ :: ⟨a3, 3, 1, a7⟩ :: ⟨a0, 3, 1, a6⟩ :: R_) := (Mem.front (k := 0) b8 rfl)
 obtain ⟨j4, h0, s⟩ := bn s
 obtain ⟨k4, j6, h2, f2⟩ := ay1 (x0 := x0.fields) g0 a4 g4 g5 j7 (by omega)
 rw [h0] at f2
 obtain ⟨b1, d5, c6, c9, c3, c5⟩ := f2
 replace c5 := c5.symm; subst c5
 refine fx rfl rfl h2 (je (am (aq (dv (bw (mV rfl (bv (bw ?_))))))))
 refine ab (cx rfl rfl) (bv (bw (fA rfl (mk1 (fb (k := 1) d5 rfl a1).2) (bv (bw (ab (ca rfl (og (k := 1) d5 rfl a1) (fb (k := 1) d5 rfl a1).2) (bv ?_)))))))
 have i7 : Mem j6 (⟨a3, 3, 1, a7⟩ :: ⟨a5, 87, 2, b1⟩ :: ⟨a0, 3, 1, a6⟩ :: R_) := (Mem.front (k := 1) d5 rfl)
 obtain ⟨j1, h3, s⟩ := bn s
 obtain ⟨k5, j5, h6, f6⟩ := aq6 (x0 := x0.headers) f9 a1 g2 g3 i7 (by omega)
 rw [h3] at f6
 obtain ⟨b2, e9, d2, c8, c7, c0⟩ := f6
 replace c0 := c0.symm; subst c0
 refine fx rfl rfl h6 (je (am (aq (dv (bw (mV rfl (bv (bw ?_))))))))
 refine ab (cx rfl rfl) (bv (bw (fA rfl (mk1 (fb (k := 2) e9 rfl a2).2) (bv (bw (ab (ca rfl (og (k := 2) e9 rfl a2) (fb (k := 2) e9 rfl a2).2) (bv ?_)))))))
 have j3 : Mem j5 (⟨a0, 3, 1, a6⟩ :: ⟨a3, 3, 1, b2⟩ :: ⟨a5, 87, 2, b1⟩ :: R_) := (Mem.front (k := 2) e9 rfl)
 obtain ⟨i5, g7, s⟩ := bn s
 obtain ⟨k6, i9, h8, f3⟩ := aq6 (x0 := x0.registers) g6 a2 g1 f8 j3 (by omega)
 rw [g7] at f3
 obtain ⟨b3, e5, d1, c2, d3, b9⟩ := f3
 replace b9 := b9.symm; subst b9
 refine fx rfl rfl h8 (je (am (aq (ah6 (me (mV rfl (md (me ?_))))))))
 refine ab (cx rfl rfl) (md (me (fA rfl (mk1 (fb (k := 2) e5 rfl a4).2) (md (me (ab (ca rfl (og (k := 2) e5 rfl a4) (fb (k := 2) e5 rfl a4).2) (md ?_)))))))
 have j8 : Mem i9 (⟨a5, 87, 2, b1⟩ :: ⟨a0, 3, 1, b3⟩ :: ⟨a3, 3, 1, b2⟩ :: R_) := (Mem.front (k := 2) e5 rfl)
 obtain ⟨k8, h4, s⟩ := bn s
 obtain ⟨k0, i8, h7, f7⟩ := bc2 (x0 := j4) c6 a4 c9 c3 j8 
 rw [h4] at f7
 obtain ⟨a9, a8, e7, e3, e2, d8, f1, c4⟩ := f7
 replace c4 := c4.symm; subst c4
 refine vn rfl rfl h7 (me (mV rfl (md (me (ab (cx rfl rfl) (md (me (fA rfl (mk1 (fb (k := 2) e7 rfl a1).2) ?_))))))))
 refine md (me (ab (ca rfl (og (k := 2) e7 rfl a1) (fb (k := 2) e7 rfl a1).2) (md ?_)))
 have i6 : Mem i8 (⟨a3, 3, 1, b2⟩ :: ⟨a9, 87, 2, a8⟩ :: ⟨a0, 3, 1, b3⟩ :: R_) := (Mem.front (k := 2) e7 rfl)
 obtain ⟨k9, h1, s⟩ := bn s
 obtain ⟨k3, i3, h9, f5⟩ := ao4 (x0 := j1) d2 a1 c8 c7 i6 
 rw [h1] at f5
 obtain ⟨b4, b5, e4, d6, d4, e6, d9, d0⟩ := f5
 replace d0 := d0.symm; subst d0
 refine vn rfl rfl h9 (me (mV rfl (md (me (ab (cx rfl rfl) (md (me (fA rfl (mk1 (fb (k := 2) e4 rfl a2).2) ?_))))))))
 refine md (me (ab (ca rfl (og (k := 2) e4 rfl a2) (fb (k := 2) e4 rfl a2).2) (md ?_)))
 have j2 : Mem i3 (⟨a0, 3, 1, b3⟩ :: ⟨b4, 3, 1, b5⟩ :: ⟨a9, 87, 2, a8⟩ :: R_) := (Mem.front (k := 2) e4 rfl)
 obtain ⟨l0, g9, s⟩ := bn s
 obtain ⟨j9, i4, i0, f4⟩ := ao4 (x0 := i5) d1 a2 c2 d3 j2 
 rw [g9] at f4
 obtain ⟨b6, b7, j0, e8, e1, d7, f0, c1⟩ := f4
 replace c1 := c1.symm; subst c1
 refine vn rfl rfl i0 (me (mV rfl (md (me (mV rfl (md (me (mV rfl ?_))))))))
 refine md (bx8 (am ?_))
 have h5 : Mem i4 (⟨a9, 87, 2, a8⟩ :: ⟨b4, 3, 1, b5⟩ :: ⟨b6, 3, 1, b7⟩ :: R_) := (Mem.front (k := 2) (Mem.front (k := 1) (Mem.front (k := 0) j0 rfl) rfl) rfl)
 subst s
 exact ji (.tmp rfl (.tmp rfl (.tmp rfl .nil))) ⟨a9, a8, b4, b5, b6, b7, Mem.sub h5 (.cons_cons _ (.cons_cons _ (.cons_cons _ (List.Sublist.refl R_)))), e3, e2, d8, f1, d6, d4, e6, d9, e8, e1, d7, f0, rfl⟩

def RF37 (res : (List aa) × (List Int) × (List Int)) (r : PV) : Prop := ∃ c0, ∃ c1, ∃ c2, r = .tup [c0, c1, c2] ∧ (tSl aa.t).R res.1 c0 ∧ (tSl tI).R res.2.1 c1 ∧ (tSl tI).R res.2.2 c2
theorem xn {S : List Fr} {res : (List aa) × (List Int) × (List Int)} {x0 : ae} {x1 : Int} {a8 : (List ak)} {p1 : PV} {e1 d9 : Nat} (x6 : im x0 x1 = a8) (p2 : (tSl ak.t).R a8 p1) (y0 : BO x0 a8) (x8 : a8.length ≤ 12) {K0 : bq → ((List aa) × (List Int) × (List Int))}
  (y5 : ∀ {zE102 : bq} {a2 : PV} {a7 : List PV} {a4 : PV} {a3 : List PV} {a1 : PV} {a6 : List PV} (b4 : All2 aa.t.R zE102.fields a7) (c1 : isL a2 = true) (b9 : zE102.fields.length ≤ 4611686018427387904) (c2 : Wri a2 a7) (b2 : All2 tI.R zE102.headers a3) (b3 : isL a4 = true) (c5 : zE102.headers.length ≤ 4611686018427387904) (b6 : Wri a4 a3) (c0 : All2 tI.R zE102.registers a6) (b8 : isL a1 = true) (b5 : zE102.registers.length ≤ 4611686018427387904) (b7 : Wri a1 a6) (po0 : zE102.fields.length ≤ 600 ∧ zE102.headers.length ≤ 600 ∧ zE102.registers.length ≤ 600) {h : Heap} (M0 : Mem h [⟨a1, 3, 1, a6⟩, ⟨a4, 3, 1, a3⟩, ⟨a2, 87, 2, a7⟩, ⟨.op e1 d9 0, 157, 3, [.agg [a2, a4, a1]]⟩]), K0 zE102 = res → PX Tryz.prog 0 S (QR Tryz.prog [(4, none), (5, none), (6, none)] (RF37 res)) [(7, .op e1 d9 0)] h) :
  ∀ {m : Nat} {a5 : Int} {zE102 : bq} {a2 : PV} {a7 : List PV} {a4 : PV} {a3 : List PV} {a1 : PV} {a6 : List PV} (b4 : All2 aa.t.R zE102.fields a7) (c1 : isL a2 = true) (b9 : zE102.fields.length ≤ 4611686018427387904) (c2 : Wri a2 a7) (b2 : All2 tI.R zE102.headers a3) (b3 : isL a4 = true) (c5 : zE102.headers.length ≤ 4611686018427387904) (b6 : Wri a4 a3) (c0 : All2 tI.R zE102.registers a6) (b8 : isL a1 = true) (b5 : zE102.registers.length ≤ 4611686018427387904) (b7 : Wri a1 a6) (y3 : m = Int.toNat ((a8.length : Int) - a5)) (q4 : 0 ≤ a5) (o4 : (zE102.fields.length : Int) ≤ 50 * a5) (o6 : (zE102.headers.length : Int) ≤ 50 * a5) (n4 : (zE102.registers.length : Int) ≤ 50 * a5) (n6 : a5 ≤ (a8.length : Int)) {h : Heap} (M0 : Mem h [⟨a1, 3, 1, a6⟩, ⟨a4, 3, 1, a3⟩, ⟨a2, 87, 2, a7⟩, ⟨.op e1 d9 0, 157, 3, [.agg [a2, a4, a1]]⟩]), jw a8 K0 m a5 zE102 = res → RC Tryz.prog (.loop cg8) S (QR Tryz.prog [(4, none), (5, none), (6, none)] (RF37 res)) [(14, vi a5), (13, vi (a8.length : Int)), (12, p1), (7, .op e1 d9 0)] h := by
 intro m
 induction m with
 | zero =>
  intro a5 zE102 a2 a7 a4 a3 a1 a6 b4 c1 b9 c2 b2 b3 c5 b6 c0 b8 b5 b7 y3 q4 o4 o6 n4 n6 h M0 s
  rw [jw] at s
  refine ct (sR (bN cz rfl rfl (nS (aq ?_))))
  refine cj rfl ?_ ?_ <;> intro c <;> try simp only [qa] at c
  ·omega
  refine ft (gk (ej ?_))
  exact wP (y5 (zE102 := ({ fields := zE102.fields, headers := zE102.headers, registers := zE102.registers } : bq)) b4 c1 b9 c2 b2 b3 c5 b6 c0 b8 b5 b7 (by omega) (Mem.sub M0 (.cons_cons _ (.cons_cons _ (.cons_cons _ (.cons_cons _ .slnil))))) s) rfl
 | succ m ih =>
  intro a5 zE102 a2 a7 a4 a3 a1 a6 b4 c1 b9 c2 b2 b3 c5 b6 c0 b8 b5 b7 y3 q4 o4 o6 n4 n6 h M0 s
  rw [jw] at s
  refine ct (sR (bN cz rfl rfl (nS (aq ?_))))
  refine cj rfl ?_ ?_ <;> intro c <;> try simp only [qa] at c
  rotate_left
  ·omega
  refine bb (am (aq (br (sR ?_))))
  obtain ⟨e7, w4, e9⟩ := dt (i := a5) p2 (by omega) (by omega)
  refine ab (bh rfl rfl w4) (lD e9 rfl rfl rfl ?_)
  refine dz (x := .agg [vi 0, vi 0, vi 0, vi 0, vi 0, nilS, nilS]) M0 rfl rfl (fun e8 f0 z4 v6 => ?_)
  refine cw (k := 0) (v := e7) v6 rfl rfl rfl (TR.cnt ak.t e9) (fun m6 e3 => ?_)
  replace e3 : Mem m6 [⟨.op e8 f0 0, 135, 7, [e7]⟩, ⟨a1, 3, 1, a6⟩, ⟨a4, 3, 1, a3⟩, ⟨a2, 87, 2, a7⟩, ⟨.op e1 d9 0, 157, 3, [.agg [a2, a4, a1]]⟩] := e3
  refine nS (aq (sR (ab (bf rfl) (ab (cg (k := 0) e3 rfl rfl (ak.g_Kind e9)) (nS ?_)))))
  obtain ⟨u8, t0, s⟩ := bn s
  refine po (F := fun b S Q => ∀ (a0 : bq) (b1 : PV) (c4 : List PV) (c6 : PV) (a9 : List PV) (b0 : PV) (c3 : List PV) (d0 : All2 aa.t.R a0.fields c4) (d7 : isL b1 = true) (d5 : a0.fields.length ≤ 4611686018427387904) (d4 : Wri b1 c4) (c7 : All2 tI.R a0.headers a9) (c8 : isL c6 = true) (e2 : a0.headers.length ≤ 4611686018427387904) (d3 : Wri c6 a9) (d6 : All2 tI.R a0.registers c3) (d2 : isL b0 = true) (c9 : a0.registers.length ≤ 4611686018427387904) (d1 : Wri b0 c3) (g5 : (a0.fields.length : Int) ≤ ({ fields := zE102.fields, headers := zE102.headers, registers := zE102.registers } : bq).fields.length + 48 ∧ (a0.headers.length : Int) ≤ ({ fields := zE102.fields, headers := zE102.headers, registers := zE102.registers } : bq).headers.length + 48 ∧ (a0.registers.length : Int) ≤ ({ fields := zE102.fields, headers := zE102.headers, registers := zE102.registers } : bq).registers.length + 48) (g7 : Heap) (e4 : Mem g7 [⟨.op e8 f0 0, 135, 7, [e7]⟩, ⟨b0, 3, 1, c3⟩, ⟨c6, 3, 1, a9⟩, ⟨b1, 87, 2, c4⟩, ⟨.op e1 d9 0, 157, 3, [.agg [b1, c6, b0]]⟩]), u8 a0 = res → RC Tryz.prog b S Q [(14, vi a5), (13, vi (a8.length : Int)), (12, p1), (9, .op e8 f0 0), (7, .op e1 d9 0)] g7) ?_ ?_
  ·intro a0 b1 c4 c6 a9 b0 c3 d0 d7 d5 d4 c7 c8 e2 d3 d6 d2 c9 d1 g5 g7 e4 s
   rw [← t0] at s
   refine sR (ab (bf rfl) (ab (cg (k := 0) e4 rfl rfl (ak.g_Kind e9)) (bN fe rfl rfl (mV rfl ?_))))
   refine cn 4 (d := 61) (v := vb ((decide (((ix a8 a5).Kind) = 1)) || (decide (((ix a8 a5).Kind) = 4)))) ?_ ?_
   ·intro S Q r
    cases q6 : (decide (((ix a8 a5).Kind) = 1))
    ·intro k
     have p9 := q6
     try simp only [qa] at p9
     refine ah rfl rfl (bf rfl) (ah rfl rfl (cg (k := 0) e4 rfl rfl (ak.g_Kind e9)) (ah rfl rfl (bz rfl rfl fe) ?_))
     exact gK rfl rfl rfl rfl rfl k
    ·exact gN 3 rfl rfl rfl rfl rfl rfl
   refine mV rfl ?_
   refine cn 5 (d := 67) (v := vb (((decide (((ix a8 a5).Kind) = 1)) || (decide (((ix a8 a5).Kind) = 4))) && (!decide ((((ix a8 a5).Dst).Header) = (-1))))) ?_ ?_
   ·intro S Q r
    cases r2 : ((decide (((ix a8 a5).Kind) = 1)) || (decide (((ix a8 a5).Kind) = 4)))
    ·exact gN 4 rfl rfl rfl rfl rfl rfl
    ·intro k
     have p5 := r2
     try simp only [qa] at p5
     refine ah rfl rfl (bf rfl) (ah rfl rfl (bf rfl) ?_)
     obtain ⟨y7, w2, u2⟩ := ak.g_Dst e9
     refine ah rfl rfl (cg (k := 0) e4 rfl rfl (jz w2 (aa.g_Header u2))) (ah rfl rfl (bz rfl rfl (mw (b := -1))) ?_)
     exact gK rfl rfl rfl rfl rfl k
   refine nS ?_
   refine ci s rfl ?_ ?_ <;> clear s <;> intro c s <;> try simp only [qa] at c
   ·refine ax (ab (bf rfl) (ab (cg (k := 4) e4 rfl rfl (mk1 (fb (k := 2) e4 rfl c8).2)) (ab (bf rfl) (ab (bf rfl) ?_))))
    obtain ⟨z5, v1, v4⟩ := ak.g_Dst e9
    refine ab (cg (k := 0) e4 rfl rfl (jz v1 (aa.g_Header v4))) (ab (v := .fs true [vi (((ix a8 a5).Dst).Header)]) (jh rfl (all_cons rfl lw)) ?_)
    have w9 : (tSl tI).R ([((ix a8 a5).Dst).Header] : List Int) (.fs true [vi (((ix a8 a5).Dst).Header)]) := qw ⟨rfl, trivial⟩ (by simp)
    obtain ⟨g6, q2, o1⟩ := ol (t := tI) (h := g7) w9
    have t7 : fits (a9.length + g6.length) 8 = true := by rw [All2.length_eq c7, All2.length_eq o1]; (try simp only [List.length_cons, List.length_nil]); exact lr (by omega) (by omega)
    refine nj (k := 2) (es := a9) (news := g6) e4 rfl rfl rfl c8 d3 q2 t7 (fun o9 z6 t1 s2 u0 => ?_)
    have q7 : All2 tI.R (a0.headers ++ ([((ix a8 a5).Dst).Header] : List Int)) (a9 ++ g6) := All2.app c7 o1
    have t6 : (a0.headers ++ ([((ix a8 a5).Dst).Header] : List Int)).length ≤ 4611686018427387904 := by rw [← All2.length_eq q7, List.length_append]; exact lm t7
    refine ab (bf rfl) ?_
    refine ip (k := 4) (v := o9) u0 rfl rfl rfl (fb (k := 2) u0 rfl t1).1 rfl (by ((simp only [List.length_cons, List.length_nil]; omega))) (fun v0 p3 => ?_)
    replace p3 : Mem v0 [⟨.op e8 f0 0, 135, 7, [e7]⟩, ⟨b0, 3, 1, c3⟩, ⟨o9, 3, 1, (a9 ++ g6)⟩, ⟨b1, 87, 2, c4⟩, ⟨.op e1 d9 0, 157, 3, [.agg [b1, o9, b0]]⟩] := p3
    refine bp (de (am (ax (bN gm rfl rfl (mV rfl (bp (di ?_)))))))
    have hbd := ee p2
    have hinc : wr (a5 + 1) = a5 + 1 := gb (by omega) (by omega)
    erw [hinc]
    exact wC (ih (zE102 := ({ fields := a0.fields, headers := (a0.headers ++ ([((ix a8 a5).Dst).Header] : List Int)), registers := a0.registers } : bq)) d0 d7 d5 d4 q7 t1 t6 s2 d6 d2 c9 d1 (by omega) (by omega) (by (((try dsimp only); (try simp only [List.length_append, List.length_cons, List.length_nil]); omega))) (by (((try dsimp only); (try simp only [List.length_append, List.length_cons, List.length_nil]); omega))) (by (((try dsimp only); (try simp only [List.length_append, List.length_cons, List.length_nil]); omega))) (by omega) (Mem.sub p3 (.cons _ (.cons_cons _ (.cons_cons _ (.cons_cons _ (.cons_cons _ .slnil)))))) s) rfl
   ·refine bb (de (am (ax (bN gm rfl rfl (mV rfl (bp (di ?_)))))))
    have hbd := ee p2
    have hinc : wr (a5 + 1) = a5 + 1 := gb (by omega) (by omega)
    erw [hinc]
    exact wC (ih (zE102 := ({ fields := a0.fields, headers := a0.headers, registers := a0.registers } : bq)) d0 d7 d5 d4 c7 c8 e2 d3 d6 d2 c9 d1 (by omega) (by omega) (by omega) (by omega) (by omega) (by omega) (Mem.sub e4 (.cons _ (.cons_cons _ (.cons_cons _ (.cons_cons _ (.cons_cons _ .slnil)))))) s) rfl
  ·intro J
   refine br (sR (bN fe rfl rfl (mV rfl (nS ?_))))
   refine ci s rfl ?_ ?_ <;> clear s <;> intro c s <;> try simp only [qa] at c
   ·refine dv (bw (ab (bf rfl) (bv (bw ?_))))
    obtain ⟨z7, u5, v9⟩ := ak.g_Value e9
    refine ab (cg (k := 0) e3 rfl rfl u5) (bv ?_)
    have v3 : Mem m6 [⟨.op e1 d9 0, 157, 3, [.agg [a2, a4, a1]]⟩, ⟨a2, 87, 2, a7⟩, ⟨a4, 3, 1, a3⟩, ⟨a1, 3, 1, a6⟩, ⟨.op e8 f0 0, 135, 7, [e7]⟩] := (Mem.front (k := 4) (Mem.front (k := 3) (Mem.front (k := 2) (Mem.front (k := 1) e3 rfl) rfl) rfl) rfl)
    obtain ⟨o8, n8, s⟩ := bn s
    obtain ⟨y1, u6, s5, n3⟩ := ad4 (x0 := ({ fields := zE102.fields, headers := zE102.headers, registers := zE102.registers } : bq)) (x1 := ((ix a8 a5).Value)) v9 b4 c1 b9 c2 b2 b3 c5 b6 c0 b8 b5 b7 v3 (by ((have hk := bo_v (l := a8) (k := a5) (by assumption) (by omega) (by omega) (by omega); omega)))
    rw [n8] at n3
    obtain ⟨g3, i7, f6, l8, g2, h3, u3, l6, j7, m4, j8, j1, i0, j0, i6, g9, i8, k6, l3, m9⟩ := n3
    replace m9 := m9.symm; subst m9
    refine fx rfl rfl s5 ?_
    have q8 := qd n8; try dsimp only at q8
    refine je (de ?_)
    have t5 : Mem u6 [⟨.op e8 f0 0, 135, 7, [e7]⟩, ⟨g2, 3, 1, h3⟩, ⟨f6, 3, 1, l8⟩, ⟨g3, 87, 2, i7⟩, ⟨.op e1 d9 0, 157, 3, [.agg [g3, f6, g2]]⟩] := (Mem.front (k := 4) (Mem.front (k := 3) (Mem.front (k := 2) (Mem.front (k := 1) (Mem.front (k := 0) u3 rfl) rfl) rfl) rfl) rfl)
    refine am (wC (J ({ fields := o8.fields, headers := o8.headers, registers := o8.registers } : bq) _ _ _ _ _ _ l6 j7 m4 j8 j1 i0 j0 i6 g9 i8 k6 l3 (by (((try dsimp only); (try simp only [List.length_append, List.length_cons, List.length_nil]); ((have hk := bo_v (l := a8) (k := a5) (by assumption) (by omega) (by omega) (by omega); omega))))) _ (Mem.sub t5 (.cons_cons _ (.cons_cons _ (.cons_cons _ (.cons_cons _ (.cons_cons _ .slnil)))))) s) rfl)
   ·refine sR (bN fe rfl rfl (mV rfl (nS ?_)))
    refine ci s rfl ?_ ?_ <;> clear s <;> intro c s <;> try simp only [qa] at c
    ·refine ax (ab (bf rfl) (ab (cg (k := 4) e3 rfl rfl (mk1 (fb (k := 2) e3 rfl b3).2)) (ab (bf rfl) (ab (cg (k := 0) e3 rfl rfl (ak.g_Header e9)) (ab (v := .fs true [vi ((ix a8 a5).Header)]) (jh rfl (all_cons rfl lw)) ?_)))))
     have w8 : (tSl tI).R ([(ix a8 a5).Header] : List Int) (.fs true [vi ((ix a8 a5).Header)]) := qw ⟨rfl, trivial⟩ (by simp)
     obtain ⟨g8, t9, o7⟩ := ol (t := tI) (h := m6) w8
     have r5 : fits (a3.length + g8.length) 8 = true := by rw [All2.length_eq b2, All2.length_eq o7]; (try simp only [List.length_cons, List.length_nil]); exact lr (by omega) (by omega)
     refine nj (k := 2) (es := a3) (news := g8) e3 rfl rfl rfl b3 b6 t9 r5 (fun p6 y9 q1 q3 r7 => ?_)
     have s9 : All2 tI.R (zE102.headers ++ ([(ix a8 a5).Header] : List Int)) (a3 ++ g8) := All2.app b2 o7
     have r3 : (zE102.headers ++ ([(ix a8 a5).Header] : List Int)).length ≤ 4611686018427387904 := by rw [← All2.length_eq s9, List.length_append]; exact lm r5
     refine ab (bf rfl) ?_
     refine ip (k := 4) (v := p6) r7 rfl rfl rfl (fb (k := 2) r7 rfl q1).1 rfl (by ((simp only [List.length_cons, List.length_nil]; omega))) (fun u4 p7 => ?_)
     replace p7 : Mem u4 [⟨.op e8 f0 0, 135, 7, [e7]⟩, ⟨a1, 3, 1, a6⟩, ⟨p6, 3, 1, (a3 ++ g8)⟩, ⟨a2, 87, 2, a7⟩, ⟨.op e1 d9 0, 157, 3, [.agg [a2, p6, a1]]⟩] := p7
     refine bp (de ?_)
     refine am (wC (J ({ fields := zE102.fields, headers := (zE102.headers ++ ([(ix a8 a5).Header] : List Int)), registers := zE102.registers } : bq) _ _ _ _ _ _ b4 c1 b9 c2 s9 q1 r3 q3 c0 b8 b5 b7 (by (((try dsimp only); (try simp only [List.length_append, List.length_cons, List.length_nil]); omega))) _ (Mem.sub p7 (.cons_cons _ (.cons_cons _ (.cons_cons _ (.cons_cons _ (.cons_cons _ .slnil)))))) s) rfl)
    ·refine sR (bN fe rfl rfl (mV rfl (nS ?_)))
     refine ci s rfl ?_ ?_ <;> clear s <;> intro c s <;> try simp only [qa] at c
     ·refine aq (dv (bw (ab (bf rfl) (bv (bw ?_)))))
      obtain ⟨z9, u7, w7⟩ := ak.g_Index e9
      refine ab (cg (k := 0) e3 rfl rfl u7) (bv ?_)
      have w6 : Mem m6 [⟨.op e1 d9 0, 157, 3, [.agg [a2, a4, a1]]⟩, ⟨a2, 87, 2, a7⟩, ⟨a4, 3, 1, a3⟩, ⟨a1, 3, 1, a6⟩, ⟨.op e8 f0 0, 135, 7, [e7]⟩] := (Mem.front (k := 4) (Mem.front (k := 3) (Mem.front (k := 2) (Mem.front (k := 1) e3 rfl) rfl) rfl) rfl)
      obtain ⟨m8, o0, s⟩ := bn s
      obtain ⟨x7, v5, s1, o3⟩ := ad4 (x0 := ({ fields := zE102.fields, headers := zE102.headers, registers := zE102.registers } : bq)) (x1 := ((ix a8 a5).Index)) w7 b4 c1 b9 c2 b2 b3 c5 b6 c0 b8 b5 b7 w6 (by ((have hk := bo_i (l := a8) (k := a5) (by assumption) (by omega) (by omega) (by omega); omega)))
      rw [o0] at o3
      obtain ⟨e5, f4, e6, f3, r8, d8, n2, k9, j6, k5, m2, h0, l1, h4, l2, f1, f2, q0, k0, m7⟩ := o3
      replace m7 := m7.symm; subst m7
      refine fx rfl rfl s1 ?_
      have r9 := qd o0; try dsimp only at r9
      refine je (am (ax (ab (bf rfl) (ab (cg (k := 0) n2 rfl rfl (mk1 (fb (k := 3) n2 rfl f2).2)) (ab (bf rfl) (ab (cg (k := 4) n2 rfl rfl (ak.g_Register e9)) (ab (v := .fs true [vi ((ix a8 a5).Register)]) (jh rfl (all_cons rfl lw)) ?_)))))))
      have v8 : (tSl tI).R ([(ix a8 a5).Register] : List Int) (.fs true [vi ((ix a8 a5).Register)]) := qw ⟨rfl, trivial⟩ (by simp)
      obtain ⟨g1, q9, o2⟩ := ol (t := tI) (h := v5) v8
      have s6 : fits (d8.length + g1.length) 8 = true := by rw [All2.length_eq f1, All2.length_eq o2]; (try simp only [List.length_cons, List.length_nil]); exact lr (by ((have hk := bo_i (l := a8) (k := a5) (by assumption) (by omega) (by omega) (by omega); omega))) (by ((have hk := bo_i (l := a8) (k := a5) (by assumption) (by omega) (by omega) (by omega); omega)))
      refine nj (k := 3) (es := d8) (news := g1) n2 rfl rfl rfl f2 k0 q9 s6 (fun n0 y4 s7 s3 s8 => ?_)
      have r4 : All2 tI.R (m8.registers ++ ([(ix a8 a5).Register] : List Int)) (d8 ++ g1) := All2.app f1 o2
      have t2 : (m8.registers ++ ([(ix a8 a5).Register] : List Int)).length ≤ 4611686018427387904 := by rw [← All2.length_eq r4, List.length_append]; exact lm s6
      refine ab (bf rfl) ?_
      refine ip (k := 0) (v := n0) s8 rfl rfl rfl (fb (k := 3) s8 rfl s7).1 rfl (by ((simp only [List.length_cons, List.length_nil]; omega))) (fun s0 p4 => ?_)
      replace p4 : Mem s0 [⟨.op e1 d9 0, 157, 3, [.agg [e5, e6, n0]]⟩, ⟨e5, 87, 2, f4⟩, ⟨e6, 3, 1, f3⟩, ⟨n0, 3, 1, (d8 ++ g1)⟩, ⟨.op e8 f0 0, 135, 7, [e7]⟩] := p4
      refine bp (de ?_)
      have r1 : Mem s0 [⟨.op e8 f0 0, 135, 7, [e7]⟩, ⟨n0, 3, 1, (d8 ++ g1)⟩, ⟨e6, 3, 1, f3⟩, ⟨e5, 87, 2, f4⟩, ⟨.op e1 d9 0, 157, 3, [.agg [e5, e6, n0]]⟩] := (Mem.front (k := 4) (Mem.front (k := 3) (Mem.front (k := 2) (Mem.front (k := 1) (Mem.front (k := 0) p4 rfl) rfl) rfl) rfl) rfl)
      refine am (wC (J ({ fields := m8.fields, headers := m8.headers, registers := (m8.registers ++ ([(ix a8 a5).Register] : List Int)) } : bq) _ _ _ _ _ _ k9 j6 k5 m2 h0 l1 h4 l2 r4 s7 t2 s3 (by (((try dsimp only); (try simp only [List.length_append, List.length_cons, List.length_nil]); ((have hk := bo_i (l := a8) (k := a5) (by assumption) (by omega) (by omega) (by omega); omega))))) _ (Mem.sub r1 (.cons_cons _ (.cons_cons _ (.cons_cons _ (.cons_cons _ (.cons_cons _ .slnil)))))) s) rfl)
     ·refine sR (bN fe rfl rfl (mV rfl (nS ?_)))
      refine ci s rfl ?_ ?_ <;> clear s <;> intro c s <;> try simp only [qa] at c
      ·refine aq (dv (bw (ab (bf rfl) (bv (bw ?_)))))
       obtain ⟨z8, u1, w0⟩ := ak.g_Index e9
       refine ab (cg (k := 0) e3 rfl rfl u1) (bv ?_)
       have v7 : Mem m6 [⟨.op e1 d9 0, 157, 3, [.agg [a2, a4, a1]]⟩, ⟨a2, 87, 2, a7⟩, ⟨a4, 3, 1, a3⟩, ⟨a1, 3, 1, a6⟩, ⟨.op e8 f0 0, 135, 7, [e7]⟩] := (Mem.front (k := 4) (Mem.front (k := 3) (Mem.front (k := 2) (Mem.front (k := 1) e3 rfl) rfl) rfl) rfl)
       obtain ⟨p8, o5, s⟩ := bn s
       obtain ⟨x9, w1, t8, n5⟩ := ad4 (x0 := ({ fields := zE102.fields, headers := zE102.headers, registers := zE102.registers } : bq)) (x1 := ((ix a8 a5).Index)) w0 b4 c1 b9 c2 b2 b3 c5 b6 c0 b8 b5 b7 v7 (by ((have hk := bo_i (l := a8) (k := a5) (by assumption) (by omega) (by omega) (by omega); omega)))
       rw [o5] at n5
       obtain ⟨g4, l0, f5, m0, f7, h2, t4, k8, h1, i2, h7, i9, l9, m1, i1, j5, l5, l7, i5, n1⟩ := n5
       replace n1 := n1.symm; subst n1
       refine fx rfl rfl t8 ?_
       have q5 := qd o5; try dsimp only at q5
       refine je (am (dv (bw (ab (bf rfl) (bv (bw ?_))))))
       obtain ⟨y8, u9, w3⟩ := ak.g_Value e9
       refine ab (cg (k := 4) t4 rfl rfl u9) (bv ?_)
       have x5 : Mem w1 [⟨.op e1 d9 0, 157, 3, [.agg [g4, f5, f7]]⟩, ⟨g4, 87, 2, l0⟩, ⟨f5, 3, 1, m0⟩, ⟨f7, 3, 1, h2⟩, ⟨.op e8 f0 0, 135, 7, [e7]⟩] := (Mem.front (k := 3) (Mem.front (k := 3) (Mem.front (k := 3) (Mem.front (k := 3) t4 rfl) rfl) rfl) rfl)
       obtain ⟨p0, n7, s⟩ := bn s
       obtain ⟨y2, v2, s4, n9⟩ := ad4 (x0 := ({ fields := p8.fields, headers := p8.headers, registers := p8.registers } : bq)) (x1 := ((ix a8 a5).Value)) w3 k8 h1 i2 h7 i9 l9 m1 i1 j5 l5 l7 i5 x5 (by ((have z3 := bo_v (l := a8) (k := a5) (by assumption) (by omega) (by omega) (by omega); have y6 := bo_i (l := a8) (k := a5) (by assumption) (by omega) (by omega) (by omega); omega)))
       rw [n7] at n9
       obtain ⟨f9, k3, g0, j2, f8, k7, w5, i3, j9, k4, h9, h5, m3, h6, j3, j4, l4, i4, h8, m5⟩ := n9
       replace m5 := m5.symm; subst m5
       refine fx rfl rfl s4 ?_
       have t3 := qd n7; try dsimp only at t3
       refine je (de ?_)
       have r6 : Mem v2 [⟨.op e8 f0 0, 135, 7, [e7]⟩, ⟨f8, 3, 1, k7⟩, ⟨g0, 3, 1, j2⟩, ⟨f9, 87, 2, k3⟩, ⟨.op e1 d9 0, 157, 3, [.agg [f9, g0, f8]]⟩] := (Mem.front (k := 4) (Mem.front (k := 3) (Mem.front (k := 2) (Mem.front (k := 1) (Mem.front (k := 0) w5 rfl) rfl) rfl) rfl) rfl)
       refine am (wC (J ({ fields := p0.fields, headers := p0.headers, registers := p0.registers } : bq) _ _ _ _ _ _ i3 j9 k4 h9 h5 m3 h6 j3 j4 l4 i4 h8 (by (((try dsimp only); (try simp only [List.length_append, List.length_cons, List.length_nil]); ((have z3 := bo_v (l := a8) (k := a5) (by assumption) (by omega) (by omega) (by omega); have y6 := bo_i (l := a8) (k := a5) (by assumption) (by omega) (by omega) (by omega); omega))))) _ (Mem.sub r6 (.cons_cons _ (.cons_cons _ (.cons_cons _ (.cons_cons _ (.cons_cons _ .slnil)))))) s) rfl)
      ·refine bb (de ?_)
       refine am (wC (J ({ fields := zE102.fields, headers := zE102.headers, registers := zE102.registers } : bq) _ _ _ _ _ _ b4 c1 b9 c2 b2 b3 c5 b6 c0 b8 b5 b7 (by omega) _ (Mem.sub e3 (.cons_cons _ (.cons_cons _ (.cons_cons _ (.cons_cons _ (.cons_cons _ .slnil)))))) s) rfl)

theorem dc5 {x0 : ae} {x1 : Int} {v0 : PV} (r0 : ae.t.R x0 v0) : ∃ c0, ∃ c1, ∃ c2, FnR Tryz.prog 37 [v0, vi x1] (.tup [c0, c1, c2]) ∧ (tSl aa.t).R (jo x0 x1).1 c0 ∧ (tSl tI).R (jo x0 x1).2.1 c1 ∧ (tSl tI).R (jo x0 x1).2.2 c2 := by
 obtain ⟨res, s⟩ : ∃ res, jo x0 x1 = res := ⟨_, rfl⟩
 suffices H : RC Tryz.prog dh6 [] (QR Tryz.prog [(4, none), (5, none), (6, none)] (RF37 res)) (argE 0 [v0, vi x1]) ⟨0, []⟩ by
  rw [s]
  obtain ⟨r, h1, c0, c1, c2, rfl, h9, h6, h4⟩ := fnE by5 (by simp) H
  exact ⟨c0, c1, c2, h1, h9, h6, h4⟩
 unfold jo at s
 refine sR (ab (dq rfl (TR.cnt ae.t r0)) (ab (v := nilS) (au rfl) (ab (v := nilS) (au rfl) (ab (v := nilS) (au rfl) (nR ?_)))))
 refine dz (x := .agg [nilS, nilS, nilS]) (Mem.nil ⟨0, []⟩) rfl rfl (fun g1 f8 h5 f7 => ?_)
 refine nS (aq (sR (lD r0 rfl rfl rfl (mV rfl ?_))))
 obtain ⟨e1, b9, s⟩ := bn s
 obtain ⟨h3, g4, d4⟩ := bh6 (x1 := x1) r0 
 rw [b9] at d4
 have e3 : BO x0 e1 := ad9 b9
 have e2 : e1.length ≤ 12 := (ad9 b9).1
 refine cL g4 rfl rfl (ai (TR.clo ae.t r0) (ai rfl bg)) (ab (cy rfl (cm d4 Tryz.underlying95 _)) (mI rfl (nS (br ?_))))
 have h0 := nm (sz := 2) (es := []) f7 87 (.inl ⟨none, rfl, rfl⟩) (by simp)
 have g5 := nm (sz := 1) (es := []) h0 3 (.inl ⟨none, rfl, rfl⟩) (by simp)
 have f5 := nm (sz := 1) (es := []) g5 3 (.inl ⟨none, rfl, rfl⟩) (by simp)
 refine wC (xn b9 d4 e3 e2 ?_  (zE102 := ({ fields := ([] : List aa), headers := ([] : List Int), registers := ([] : List Int) } : bq)) aL rfl (by decide) (.inl rfl) aL rfl (by decide) (.inl rfl) aL rfl (by decide) (.inl rfl) rfl (by omega) (by (((try dsimp only); (try simp only [List.length_append, List.length_cons, List.length_nil]); omega))) (by (((try dsimp only); (try simp only [List.length_append, List.length_cons, List.length_nil]); omega))) (by (((try dsimp only); (try simp only [List.length_append, List.length_cons, List.length_nil]); omega))) (by omega) (Mem.sub f5 (.cons_cons _ (.cons_cons _ (.cons_cons _ (.cons_cons _ .slnil))))) s) rfl
 ·intro a0 a3 b6 a1 b3 a2 a7 b8 b5 a4 a9 a6 a8 b4 a5 b0 b2 b1 b7 e5 g7 g0 s
  refine gw (am (aq (dv ?_)))
  have g9 : Mem g7 [⟨.op g1 f8 0, 157, 3, [.agg [a3, a1, a2]]⟩, ⟨a3, 87, 2, b6⟩, ⟨a1, 3, 1, b3⟩, ⟨a2, 3, 1, a7⟩] := (Mem.front (k := 3) (Mem.front (k := 2) (Mem.front (k := 1) (Mem.front (k := 0) g0 rfl) rfl) rfl) rfl)
  obtain ⟨h7, d8, s⟩ := bn s
  obtain ⟨h2, h8, d9, d3⟩ := bg6 (x0 := ({ fields := a0.fields, headers := a0.headers, registers := a0.registers } : bq)) b8 b5 a4 a9 a6 a8 b4 a5 b0 b2 b1 b7 g9 (by omega)
  rw [d8] at d3
  obtain ⟨e9, e6, f0, f3, f1, e8, d5, c9, c8, d1, e7, c5, c7, c4, f2, c6, d2, d0, f4, c3⟩ := d3
  replace c3 := c3.symm; subst c3
  refine fx rfl rfl d9 (bw (xT rfl rfl (bv (bw (xT rfl rfl (bv (bw (xT rfl rfl ?_))))))))
  refine bv (bw (mV rfl (bv (bw (mV rfl (bv (bw (mV rfl ?_))))))))
  refine bv (je (am ?_))
  obtain ⟨f6, e4, g3⟩ := oq (P := Tryz.prog) (k := 0) (t := aa.t) d5 rfl c8 c9 (Nat.le_trans d1 (by decide))
  obtain ⟨f9, d7, g6⟩ := oq (P := Tryz.prog) (k := 1) (t := tI) d5 rfl c7 c5 (Nat.le_trans c4 (by decide))
  obtain ⟨g8, d6, g2⟩ := oq (P := Tryz.prog) (k := 2) (t := tI) d5 rfl d2 c6 (Nat.le_trans d0 (by decide))
  subst s
  exact fy (.tmp rfl (.tmp rfl (.tmp rfl .nil))) (ax0 (kt e4 (kt d7 (kt d6 sn))) (ai e4.1 (ai d7.1 (ai d6.1 bg)))) ⟨f6, f9, g8, rfl, g3, g6, g2⟩

def RF39 (res : (List aa) × (List Int) × (List Int)) (r : PV) : Prop := ∃ c0, ∃ c1, ∃ c2, r = .tup [c0, c1, c2] ∧ (tSl aa.t).R res.1 c0 ∧ (tSl tI).R res.2.1 c1 ∧ (tSl tI).R res.2.2 c2
theorem wl {S : List Fr} {res : (List aa) × (List Int) × (List Int)} {x0 : ae} {x1 : Int} {b0 : (List ak)} {a1 : Int} {d8 c7 : List Int} {d9 : List aa} {c4 c5 : Bool} {v0 f7 : PV} {e8 : List PV} {d4 : PV} {d0 : List PV} {e3 : PV} {f0 : List PV} {d6 d1 : PV} {e5 : List PV} {g1 h5 : PV} {c9 c8 d2 d3 : Nat} (hs : SmH x0) (i3 : im x0 x1 = b0) (i9 : BO x0 b0) (i6 : b0.length ≤ 12) (i5 : isL d4 = true) (g6 : Wri d4 e8) (g9 : d8.length ≤ 4611686018427387904) (i1 : isL e3 = true) (h6 : Wri e3 d0) (g8 : c7.length ≤ 4611686018427387904) (i4 : isL d6 = true) (g7 : Wri d6 f0) (h0 : d9.length ≤ 4611686018427387904) (j4 : 0 ≤ a1) (i7 : (d9.length : Int) ≤ 1001 * a1) (j2 : (c7.length : Int) ≤ 1001 * a1) (h9 : (d8.length : Int) ≤ 1001 * a1) (i2 : a1 ≤ (b0.length : Int)) (g2 : (decide (a1 < (b0.length : Int))) = true) (h2 : ak.t.R (ix b0 a1) d1) (j1 : c4 = (if (decide (((ix b0 a1).Kind) = 1)) = true then (decide (((ix b0 a1).Kind) = 1)) else (decide (((ix b0 a1).Kind) = 4)))) (f6 : c4 = false) (i0 : c5 = (if (decide (((ix b0 a1).Kind) = 2)) = true then (decide (((ix b0 a1).Kind) = 2)) else (decide (((ix b0 a1).Kind) = 3)))) (g3 : c5 = true) (h8 : All2 tI.R ([(ix b0 a1).Header] : List Int) e5) (h7 : Wri g1 (d0 ++ e5)) (j0 : (c7 ++ ([(ix b0 a1).Header] : List Int)).length ≤ 4611686018427387904) (j5 : isL g1 = true) (h3 : (tSl ay.t).R ((ix x0.Headers ((ix b0 a1).Header)).Fields) h5) {K3 : (List Int) → (List Int) → (List aa) → ((List aa) × (List Int) × (List Int))}
  (j3 : ∀ {a8 a7 : List Int} {a4 : List aa} {a6 : List PV} {a3 : PV} {a5 : List PV} {a2 : PV} {a0 : List PV} {a9 : PV} (c2 : All2 tI.R a8 a6) (c3 : isL a3 = true) (b6 : Wri a3 a6) (b4 : a8.length ≤ 4611686018427387904) (b9 : All2 tI.R a7 a5) (c0 : isL a2 = true) (b1 : Wri a2 a5) (b3 : a7.length ≤ 4611686018427387904) (b8 : All2 aa.t.R a4 a0) (b7 : isL a9 = true) (b2 : Wri a9 a0) (c1 : a4.length ≤ 4611686018427387904) (j7 : (a4.length : Int) ≤ 1001 * (a1 + 1) ∧ (a7.length : Int) ≤ 1001 * (a1 + 1) ∧ (a8.length : Int) ≤ 1001 * (a1 + 1)) {h : Heap} (M0 : Mem h [⟨.op d2 d3 0, 135, 7, [d1]⟩, ⟨a3, 3, 1, a6⟩, ⟨a2, 3, 1, a5⟩, ⟨a9, 87, 2, a0⟩, ⟨.op c9 c8 0, 157, 3, [.agg [a9, a2, a3]]⟩]), K3 a8 a7 a4 = res → PX Tryz.prog 3 S (QR Tryz.prog [(4, none), (5, none), (6, none)] (RF39 res)) [(2, .fp v0), (7, .op c9 c8 0), (13, f7), (14, vi (b0.length : Int)), (15, vi a1)] h) :
  ∀ {m : Nat} {b5 : Int} {a8 a7 : List Int} {a4 : List aa} {a6 : List PV} {a3 : PV} {a5 : List PV} {a2 : PV} {a0 : List PV} {a9 : PV} (c2 : All2 tI.R a8 a6) (c3 : isL a3 = true) (b6 : Wri a3 a6) (b4 : a8.length ≤ 4611686018427387904) (b9 : All2 tI.R a7 a5) (c0 : isL a2 = true) (b1 : Wri a2 a5) (b3 : a7.length ≤ 4611686018427387904) (b8 : All2 aa.t.R a4 a0) (b7 : isL a9 = true) (b2 : Wri a9 a0) (c1 : a4.length ≤ 4611686018427387904) (i8 : m = Int.toNat ((((ix x0.Headers ((ix b0 a1).Header)).Fields).length : Int) - b5)) (f5 : 0 ≤ b5) (d5 : (a4.length : Int) ≤ 1001 * a1 + b5) (e2 : (a7.length : Int) ≤ 1001 * a1 + 1) (e4 : (a8.length : Int) ≤ 1001 * a1) (e1 : b5 ≤ 1000) {h : Heap} (M0 : Mem h [⟨.op d2 d3 0, 135, 7, [d1]⟩, ⟨a3, 3, 1, a6⟩, ⟨a2, 3, 1, a5⟩, ⟨a9, 87, 2, a0⟩, ⟨.op c9 c8 0, 157, 3, [.agg [a9, a2, a3]]⟩]), kf b0 a1 K3 m b5 a8 a7 a4 = res → RC Tryz.prog (.loop cn7) S (QR Tryz.prog [(4, none), (5, none), (6, none)] (RF39 res)) [(49, vi b5), (48, vi (((ix x0.Headers ((ix b0 a1).Header)).Fields).length : Int)), (15, vi a1), (14, vi (b0.length : Int)), (13, f7), (9, .op d2 d3 0), (7, .op c9 c8 0), (2, .fp v0)] h := by
 have f1 := g2
 try simp only [qa] at f1
 have e9 := f6
 try simp only [qa] at e9
 have e7 := g3
 try simp only [qa] at e7
 intro m
 induction m with
 | zero =>
  intro b5 a8 a7 a4 a6 a3 a5 a2 a0 a9 c2 c3 b6 b4 b9 c0 b1 b3 b8 b7 b2 c1 i8 f5 d5 e2 e4 e1 h M0 s
  rw [kf] at s
  refine ct (sR (bN cz rfl rfl (nS (aq ?_))))
  refine cj rfl ?_ ?_ <;> intro c <;> try simp only [qa] at c
  ·omega
  refine ft (gk (ej ?_))
  exact wP (j3 c2 c3 b6 b4 b9 c0 b1 b3 b8 b7 b2 c1 (by omega) (Mem.sub M0 (.cons_cons _ (.cons_cons _ (.cons_cons _ (.cons_cons _ (.cons_cons _ .slnil)))))) s) rfl
 | succ m ih =>
  intro b5 a8 a7 a4 a6 a3 a5 a2 a0 a9 c2 c3 b6 b4 b9 c0 b1 b3 b8 b7 b2 c1 i8 f5 d5 e2 e4 e1 h M0 s
  rw [kf] at s
  refine ct (sR (bN cz rfl rfl (nS (aq ?_))))
  refine cj rfl ?_ ?_ <;> intro c <;> try simp only [qa] at c
  rotate_left
  ·omega
  refine bb (am (aq (br (sR (mV rfl (mV rfl (nS (ax ?_))))))))
  refine ab (bf rfl) (ab (cg (k := 4) M0 rfl rfl (mk1 (fb (k := 3) M0 rfl b7).2)) (ab (bf rfl) (ab (cg (k := 0) M0 rfl rfl (ak.g_Header h2)) (mV rfl (ab (v := .agg [vi ((ix b0 a1).Header), vi b5]) (fu (cs := [vi ((ix b0 a1).Header), vi b5]) rfl rfl) (ab (v := .fs true [.agg [vi ((ix b0 a1).Header), vi b5]]) (jh rfl (all_cons rfl lw)) ?_))))))
  have h4 : (tSl aa.t).R ([({ Header := (ix b0 a1).Header, Field := b5 } : aa)] : List aa) (.fs true [.agg [vi ((ix b0 a1).Header), vi b5]]) := qw ⟨rfl, trivial⟩ (by simp)
  obtain ⟨c6, g5, d7⟩ := ol (t := aa.t) (h := h) h4
  have f9 : fits (a0.length + c6.length) 16 = true := by rw [All2.length_eq b8, All2.length_eq d7]; (try simp only [List.length_cons, List.length_nil]); exact lr (by omega) (by omega)
  refine nj (k := 3) (es := a0) (news := c6) M0 rfl rfl rfl b7 b2 g5 f9 (fun f2 j6 g4 f8 f4 => ?_)
  have g0 : All2 aa.t.R (a4 ++ ([({ Header := (ix b0 a1).Header, Field := b5 } : aa)] : List aa)) (a0 ++ c6) := All2.app b8 d7
  have f3 : (a4 ++ ([({ Header := (ix b0 a1).Header, Field := b5 } : aa)] : List aa)).length ≤ 4611686018427387904 := by rw [← All2.length_eq g0, List.length_append]; exact lm f9
  refine ab (bf rfl) ?_
  refine ip (k := 4) (v := f2) f4 rfl rfl rfl (fb (k := 3) f4 rfl g4).1 rfl (by ((simp only [List.length_cons, List.length_nil]; omega))) (fun h1 e6 => ?_)
  replace e6 : Mem h1 [⟨.op d2 d3 0, 135, 7, [d1]⟩, ⟨a3, 3, 1, a6⟩, ⟨a2, 3, 1, a5⟩, ⟨f2, 87, 2, (a0 ++ c6)⟩, ⟨.op c9 c8 0, 157, 3, [.agg [f2, a2, a3]]⟩] := e6
  refine bp (de (am (ax (bN gm rfl rfl (mV rfl (bp (di ?_)))))))
  have hbd := ee h3
  have hinc : wr (b5 + 1) = b5 + 1 := gb (by omega) (by omega)
  erw [hinc]
  exact wC (ih  c2 c3 b6 b4 b9 c0 b1 b3 g0 g4 f8 f3 (by omega) (by omega) (by ((simp only [List.length_append, List.length_cons, List.length_nil]; omega))) (by omega) (by omega) (by ((have hj := jot (by assumption) (by assumption); have hk := bo_h (l := b0) (k := a1) (by assumption) (by omega) (by omega) (by omega); have j8 := hs _ hk.1 hk.2; omega))) (Mem.sub e6 (.cons_cons _ (.cons_cons _ (.cons_cons _ (.cons_cons _ (.cons_cons _ .slnil)))))) s) rfl

theorem wj {S : List Fr} {res : (List aa) × (List Int) × (List Int)} {x0 : ae} {x1 : Int} {a4 : (List ak)} {v0 g2 : PV} {c5 c4 : Nat} (r0 : ae.t.R x0 v0) (hs : SmH x0) (k3 : im x0 x1 = a4) (f4 : (tSl ak.t).R a4 g2) (l4 : BO x0 a4) (k8 : a4.length ≤ 12) {K0 : (List Int) → (List Int) → (List aa) → ((List aa) × (List Int) × (List Int))}
  (n9 : ∀ {a9 a8 : List Int} {b0 : List aa} {a1 : List PV} {a5 : PV} {a2 : List PV} {a7 : PV} {a3 : List PV} {a6 : PV} (c1 : All2 tI.R a9 a1) (c0 : isL a5 = true) (b1 : Wri a5 a1) (b5 : a9.length ≤ 4611686018427387904) (c3 : All2 tI.R a8 a2) (b8 : isL a7 = true) (b3 : Wri a7 a2) (b4 : a8.length ≤ 4611686018427387904) (c2 : All2 aa.t.R b0 a3) (b9 : isL a6 = true) (b2 : Wri a6 a3) (b6 : b0.length ≤ 4611686018427387904) (o7 : b0.length ≤ 13000 ∧ a8.length ≤ 13000 ∧ a9.length ≤ 13000) {h : Heap} (M0 : Mem h [⟨a5, 3, 1, a1⟩, ⟨a7, 3, 1, a2⟩, ⟨a6, 87, 2, a3⟩, ⟨.op c5 c4 0, 157, 3, [.agg [a6, a7, a5]]⟩]), K0 a9 a8 b0 = res → PX Tryz.prog 0 S (QR Tryz.prog [(4, none), (5, none), (6, none)] (RF39 res)) [(7, .op c5 c4 0)] h) :
  ∀ {m : Nat} {a0 : Int} {a9 a8 : List Int} {b0 : List aa} {a1 : List PV} {a5 : PV} {a2 : List PV} {a7 : PV} {a3 : List PV} {a6 : PV} (c1 : All2 tI.R a9 a1) (c0 : isL a5 = true) (b1 : Wri a5 a1) (b5 : a9.length ≤ 4611686018427387904) (c3 : All2 tI.R a8 a2) (b8 : isL a7 = true) (b3 : Wri a7 a2) (b4 : a8.length ≤ 4611686018427387904) (c2 : All2 aa.t.R b0 a3) (b9 : isL a6 = true) (b2 : Wri a6 a3) (b6 : b0.length ≤ 4611686018427387904) (n7 : m = Int.toNat ((a4.length : Int) - a0)) (h5 : 0 ≤ a0) (f8 : (b0.length : Int) ≤ 1001 * a0) (g0 : (a8.length : Int) ≤ 1001 * a0) (e9 : (a9.length : Int) ≤ 1001 * a0) (f0 : a0 ≤ (a4.length : Int)) {h : Heap} (M0 : Mem h [⟨a5, 3, 1, a1⟩, ⟨a7, 3, 1, a2⟩, ⟨a6, 87, 2, a3⟩, ⟨.op c5 c4 0, 157, 3, [.agg [a6, a7, a5]]⟩]), gg x0 a4 K0 m a0 a9 a8 b0 = res → RC Tryz.prog (.loop cl7) S (QR Tryz.prog [(4, none), (5, none), (6, none)] (RF39 res)) [(15, vi a0), (14, vi (a4.length : Int)), (13, g2), (7, .op c5 c4 0), (2, .fp v0)] h := by
 intro m
 induction m with
 | zero =>
  intro a0 a9 a8 b0 a1 a5 a2 a7 a3 a6 c1 c0 b1 b5 c3 b8 b3 b4 c2 b9 b2 b6 n7 h5 f8 g0 e9 f0 h M0 s
  rw [gg] at s
  refine ct (sR (bN cz rfl rfl (nS (aq ?_))))
  refine cj rfl ?_ ?_ <;> intro c <;> try simp only [qa] at c
  ·omega
  refine ft (gk (ej ?_))
  exact wP (n9 c1 c0 b1 b5 c3 b8 b3 b4 c2 b9 b2 b6 (by omega) (Mem.sub M0 (.cons_cons _ (.cons_cons _ (.cons_cons _ (.cons_cons _ .slnil))))) s) rfl
 | succ m ih =>
  intro a0 a9 a8 b0 a1 a5 a2 a7 a3 a6 c1 c0 b1 b5 c3 b8 b3 b4 c2 b9 b2 b6 n7 h5 f8 g0 e9 f0 h M0 s
  rw [gg] at s
  refine ct (sR (bN cz rfl rfl (nS (aq ?_))))
  refine cj rfl (fun d6 => ?_) (fun d6 => ?_)
  ·have hgo := s
   have i3 := d6
   try simp only [qa] at i3
   refine bb (am (aq (br (sR ?_))))
   obtain ⟨d3, n2, d1⟩ := dt (i := a0) f4 (by omega) (by omega)
   refine ab (bh rfl rfl n2) (lD d1 rfl rfl rfl ?_)
   refine dz (x := .agg [vi 0, vi 0, vi 0, vi 0, vi 0, nilS, nilS]) M0 rfl rfl (fun d0 d2 o3 m6 => ?_)
   refine cw (k := 0) (v := d3) m6 rfl rfl rfl (TR.cnt ak.t d1) (fun m1 f3 => ?_)
   replace f3 : Mem m1 [⟨.op d0 d2 0, 135, 7, [d3]⟩, ⟨a5, 3, 1, a1⟩, ⟨a7, 3, 1, a2⟩, ⟨a6, 87, 2, a3⟩, ⟨.op c5 c4 0, 157, 3, [.agg [a6, a7, a5]]⟩] := f3
   refine nR (ab (bf rfl) (ab (cg (k := 0) f3 rfl rfl (ak.g_Kind d1)) (nS (br (aq (sR (bN fe rfl rfl (mV rfl ?_))))))))
   refine nS ?_
   obtain ⟨m9, l5, s⟩ := bn s
   refine po (F := fun b S Q => ∀ (c6 : Bool) (h2 : c6 = (if (decide (((ix a4 a0).Kind) = 1)) = true then (decide (((ix a4 a0).Kind) = 1)) else (decide (((ix a4 a0).Kind) = 4)))) (d5 : Heap) (c8 : Mem d5 [⟨.op d0 d2 0, 135, 7, [d3]⟩, ⟨a5, 3, 1, a1⟩, ⟨a7, 3, 1, a2⟩, ⟨a6, 87, 2, a3⟩, ⟨.op c5 c4 0, 157, 3, [.agg [a6, a7, a5]]⟩]), m9 c6 = res → RC Tryz.prog b S Q [(21, vb c6), (20, vi ((ix a4 a0).Kind)), (15, vi a0), (14, vi (a4.length : Int)), (13, g2), (9, .op d0 d2 0), (7, .op c5 c4 0), (2, .fp v0)] d5) ?_ ?_
   ·intro c6 h2 d5 c8 s
    rw [← l5] at s
    refine ci s rfl ?_ ?_ <;> clear s <;> intro g7 s <;> have i0 := g7 <;> try simp only [qa] at i0
    ·refine ax (ab (bf rfl) (ab (cg (k := 4) c8 rfl rfl (mk1 (fb (k := 3) c8 rfl b9).2)) (ab (bf rfl) ?_)))
     obtain ⟨k4, m8, k7⟩ := ak.g_Dst d1
     refine ab (cg (k := 0) c8 rfl rfl m8) (ab (v := .fs true [k4]) (jh rfl (all_cons (TR.cnt aa.t k7) lw)) ?_)
     have n5 : (tSl aa.t).R ([(ix a4 a0).Dst] : List aa) (.fs true [k4]) := qw ⟨k7, trivial⟩ (by simp)
     obtain ⟨d4, l6, g8⟩ := ol (t := aa.t) (h := d5) n5
     have k0 : fits (a3.length + d4.length) 16 = true := by rw [All2.length_eq c2, All2.length_eq g8]; (try simp only [List.length_cons, List.length_nil]); exact lr (by omega) (by omega)
     refine nj (k := 3) (es := a3) (news := d4) c8 rfl rfl rfl b9 b2 l6 k0 (fun h9 o4 l9 k6 j4 => ?_)
     have j7 : All2 aa.t.R (b0 ++ ([(ix a4 a0).Dst] : List aa)) (a3 ++ d4) := All2.app c2 g8
     have i9 : (b0 ++ ([(ix a4 a0).Dst] : List aa)).length ≤ 4611686018427387904 := by rw [← All2.length_eq j7, List.length_append]; exact lm k0
     refine ab (bf rfl) ?_
     refine ip (k := 4) (v := h9) j4 rfl rfl rfl (fb (k := 3) j4 rfl l9).1 rfl (by ((simp only [List.length_cons, List.length_nil]; omega))) (fun m2 h4 => ?_)
     replace h4 : Mem m2 [⟨.op d0 d2 0, 135, 7, [d3]⟩, ⟨a5, 3, 1, a1⟩, ⟨a7, 3, 1, a2⟩, ⟨h9, 87, 2, (a3 ++ d4)⟩, ⟨.op c5 c4 0, 157, 3, [.agg [h9, a7, a5]]⟩] := h4
     refine bp (de (de (am (ax (bN gm rfl rfl (mV rfl (bp (di ?_))))))))
     have hbd := ee f4
     have hinc : wr (a0 + 1) = a0 + 1 := gb (by omega) (by omega)
     erw [hinc]
     exact wC (ih  c1 c0 b1 b5 c3 b8 b3 b4 j7 l9 k6 i9 (by omega) (by omega) (by ((simp only [List.length_append, List.length_cons, List.length_nil]; omega))) (by omega) (by omega) (by omega) (Mem.sub h4 (.cons _ (.cons_cons _ (.cons_cons _ (.cons_cons _ (.cons_cons _ .slnil)))))) s) rfl
    ·refine aq (sR (bN fe rfl rfl (mV rfl (nS ?_))))
     obtain ⟨n0, l0, s⟩ := bn s
     refine po (F := fun b S Q => ∀ (c7 : Bool) (g6 : c7 = (if (decide (((ix a4 a0).Kind) = 2)) = true then (decide (((ix a4 a0).Kind) = 2)) else (decide (((ix a4 a0).Kind) = 3)))) (c9 : Heap) (b7 : Mem c9 [⟨.op d0 d2 0, 135, 7, [d3]⟩, ⟨a5, 3, 1, a1⟩, ⟨a7, 3, 1, a2⟩, ⟨a6, 87, 2, a3⟩, ⟨.op c5 c4 0, 157, 3, [.agg [a6, a7, a5]]⟩]), n0 c7 = res → RC Tryz.prog b S Q [(31, vb c7), (20, vi ((ix a4 a0).Kind)), (15, vi a0), (14, vi (a4.length : Int)), (13, g2), (9, .op d0 d2 0), (7, .op c5 c4 0), (2, .fp v0)] c9) ?_ ?_
     ·intro c7 g6 c9 b7 s
      rw [← l0] at s
      refine ci s rfl ?_ ?_ <;> clear s <;> intro g9 s <;> have h8 := g9 <;> try simp only [qa] at h8
      ·refine sR (ab (bf rfl) (ab (cg (k := 4) b7 rfl rfl (mk1 (fb (k := 2) b7 rfl b8).2)) (ab (bf rfl) (ab (cg (k := 0) b7 rfl rfl (ak.g_Header d1)) (ab (v := .fs true [vi ((ix a4 a0).Header)]) (jh rfl (all_cons rfl lw)) ?_)))))
       have m7 : (tSl tI).R ([(ix a4 a0).Header] : List Int) (.fs true [vi ((ix a4 a0).Header)]) := qw ⟨rfl, trivial⟩ (by simp)
       obtain ⟨d8, j1, e8⟩ := ol (t := tI) (h := c9) m7
       have j9 : fits (a2.length + d8.length) 8 = true := by rw [All2.length_eq c3, All2.length_eq e8]; (try simp only [List.length_cons, List.length_nil]); exact lr (by omega) (by omega)
       refine nj (k := 2) (es := a2) (news := d8) b7 rfl rfl rfl b8 b3 j1 j9 (fun i2 o1 i1 g3 l7 => ?_)
       have l3 : All2 tI.R (a8 ++ ([(ix a4 a0).Header] : List Int)) (a2 ++ d8) := All2.app c3 e8
       have h1 : (a8 ++ ([(ix a4 a0).Header] : List Int)).length ≤ 4611686018427387904 := by rw [← All2.length_eq l3, List.length_append]; exact lm j9
       refine ab (bf rfl) ?_
       refine ip (k := 4) (v := i2) l7 rfl rfl rfl (fb (k := 2) l7 rfl i1).1 rfl (by ((simp only [List.length_cons, List.length_nil]; omega))) (fun m3 g1 => ?_)
       replace g1 : Mem m3 [⟨.op d0 d2 0, 135, 7, [d3]⟩, ⟨a5, 3, 1, a1⟩, ⟨i2, 3, 1, (a2 ++ d8)⟩, ⟨a6, 87, 2, a3⟩, ⟨.op c5 c4 0, 157, 3, [.agg [a6, i2, a5]]⟩] := g1
       refine nR (gL (ae.g_Headers r0) rfl rfl rfl fun n8 n3 => (ab (bf rfl) (ab (cg (k := 0) g1 rfl rfl (ak.g_Header d1)) ?_)))
       obtain ⟨o2, m4, n6⟩ := dt (i := (ix a4 a0).Header) n3 (by ((have hj := jot (by assumption) (by assumption); have hk := bo_h (l := a4) (k := a0) (by assumption) (by omega) (by omega) (by omega); omega))) (by ((have hj := jot (by assumption) (by assumption); have hk := bo_h (l := a4) (k := a0) (by assumption) (by omega) (by omega) (by omega); omega)))
       refine ab (bh rfl rfl m4) (gL (co.g_Fields n6) rfl rfl rfl fun o6 l2 => (ab (cy rfl (cm l2 Tryz.underlying23 _)) (mI rfl (nS (br ?_)))))
       refine wC (wl hs k3 l4 k8 c0 b1 b5 b8 b3 b4 b9 b2 b6 h5 f8 g0 e9 f0 d6 d1 h2 g7 g6 g9 e8 g3 h1 i1 l2 ?_  c1 c0 b1 b5 l3 i1 g3 h1 c2 b9 b2 b6 rfl (by omega) (by omega) (by (((try dsimp only); (try simp only [List.length_append, List.length_cons, List.length_nil]); omega))) (by omega) (by omega) (Mem.sub g1 (.cons_cons _ (.cons_cons _ (.cons_cons _ (.cons_cons _ (.cons_cons _ .slnil)))))) s) rfl
       ·intro g5 h3 h0 i6 k5 i8 j8 i7 j3 e7 f2 e2 e3 f7 f9 e1 e5 f1 f5 e4 d9 m0 o0 n1 s
        refine gw (de (de (am (ax (bN gm rfl rfl (mV rfl (bp (di ?_))))))))
        have hbd := ee f4
        have hinc : wr (a0 + 1) = a0 + 1 := gb (by omega) (by omega)
        erw [hinc]
        exact wC (ih  e7 f2 e2 e3 f7 f9 e1 e5 f1 f5 e4 d9 (by omega) (by omega) (by omega) (by omega) (by omega) (by omega) (Mem.sub n1 (.cons _ (.cons_cons _ (.cons_cons _ (.cons_cons _ (.cons_cons _ .slnil)))))) s) rfl
      ·refine sR (bN fe rfl rfl (mV rfl (nS ?_)))
       refine ci s rfl ?_ ?_ <;> clear s <;> intro c s <;> try simp only [qa] at c
       ·refine ax (ab (bf rfl) (ab (cg (k := 4) b7 rfl rfl (mk1 (fb (k := 1) b7 rfl c0).2)) (ab (bf rfl) (ab (cg (k := 0) b7 rfl rfl (ak.g_Register d1)) (ab (v := .fs true [vi ((ix a4 a0).Register)]) (jh rfl (all_cons rfl lw)) ?_)))))
        have n4 : (tSl tI).R ([(ix a4 a0).Register] : List Int) (.fs true [vi ((ix a4 a0).Register)]) := qw ⟨rfl, trivial⟩ (by simp)
        obtain ⟨d7, j2, g4⟩ := ol (t := tI) (h := c9) n4
        have j5 : fits (a1.length + d7.length) 8 = true := by rw [All2.length_eq c1, All2.length_eq g4]; (try simp only [List.length_cons, List.length_nil]); exact lr (by omega) (by omega)
        refine nj (k := 1) (es := a1) (news := d7) b7 rfl rfl rfl c0 b1 j2 j5 (fun i5 o5 l8 j0 j6 => ?_)
        have l1 : All2 tI.R (a9 ++ ([(ix a4 a0).Register] : List Int)) (a1 ++ d7) := All2.app c1 g4
        have k9 : (a9 ++ ([(ix a4 a0).Register] : List Int)).length ≤ 4611686018427387904 := by rw [← All2.length_eq l1, List.length_append]; exact lm j5
        refine ab (bf rfl) ?_
        refine ip (k := 4) (v := i5) j6 rfl rfl rfl (fb (k := 1) j6 rfl l8).1 rfl (by ((simp only [List.length_cons, List.length_nil]; omega))) (fun m5 i4 => ?_)
        replace i4 : Mem m5 [⟨.op d0 d2 0, 135, 7, [d3]⟩, ⟨i5, 3, 1, (a1 ++ d7)⟩, ⟨a7, 3, 1, a2⟩, ⟨a6, 87, 2, a3⟩, ⟨.op c5 c4 0, 157, 3, [.agg [a6, a7, i5]]⟩] := i4
        refine bp (de (de (am (ax (bN gm rfl rfl (mV rfl (bp (di ?_))))))))
        have hbd := ee f4
        have hinc : wr (a0 + 1) = a0 + 1 := gb (by omega) (by omega)
        erw [hinc]
        exact wC (ih  l1 l8 j0 k9 c3 b8 b3 b4 c2 b9 b2 b6 (by omega) (by omega) (by omega) (by omega) (by ((simp only [List.length_append, List.length_cons, List.length_nil]; omega))) (by omega) (Mem.sub i4 (.cons _ (.cons_cons _ (.cons_cons _ (.cons_cons _ (.cons_cons _ .slnil)))))) s) rfl
       ·refine bb (de (de (am (ax (bN gm rfl rfl (mV rfl (bp (di ?_))))))))
        have hbd := ee f4
        have hinc : wr (a0 + 1) = a0 + 1 := gb (by omega) (by omega)
        erw [hinc]
        exact wC (ih  c1 c0 b1 b5 c3 b8 b3 b4 c2 b9 b2 b6 (by omega) (by omega) (by omega) (by omega) (by omega) (by omega) (Mem.sub b7 (.cons _ (.cons_cons _ (.cons_cons _ (.cons_cons _ (.cons_cons _ .slnil)))))) s) rfl
     ·intro J
      refine ci s rfl ?_ ?_ <;> clear s <;> intro e6 s <;> have h6 := e6 <;> try simp only [qa] at h6
      ·refine bb ?_
       refine am (wC (J _ (ce4 e6).symm _ (Mem.sub c8 (.cons_cons _ (.cons_cons _ (.cons_cons _ (.cons_cons _ (.cons_cons _ .slnil)))))) s) rfl)
      ·refine ax (bN fe rfl rfl (mV rfl (bp ?_)))
       refine am (wC (J _ (bu2 e6).symm _ (Mem.sub c8 (.cons_cons _ (.cons_cons _ (.cons_cons _ (.cons_cons _ (.cons_cons _ .slnil)))))) s) rfl)
   ·intro J
    refine ci s rfl ?_ ?_ <;> clear s <;> intro f6 s <;> have h7 := f6 <;> try simp only [qa] at h7
    ·refine bb ?_
     refine am (wC (J _ (ce4 f6).symm _ (Mem.sub f3 (.cons_cons _ (.cons_cons _ (.cons_cons _ (.cons_cons _ (.cons_cons _ .slnil)))))) s) rfl)
    ·refine ax (bN fe rfl rfl (mV rfl (bp ?_)))
     refine am (wC (J _ (bu2 f6).symm _ (Mem.sub f3 (.cons_cons _ (.cons_cons _ (.cons_cons _ (.cons_cons _ (.cons_cons _ .slnil)))))) s) rfl)
  ·exfalso
   try simp only [qa] at d6
   omega

theorem da4 {x0 : ae} {x1 : Int} {v0 : PV} (r0 : ae.t.R x0 v0) (hs : SmH x0) : ∃ c0, ∃ c1, ∃ c2, FnR Tryz.prog 39 [v0, vi x1] (.tup [c0, c1, c2]) ∧ (tSl aa.t).R (jb x0 x1).1 c0 ∧ (tSl tI).R (jb x0 x1).2.1 c1 ∧ (tSl tI).R (jb x0 x1).2.2 c2 := by
 obtain ⟨res, s⟩ : ∃ res, jb x0 x1 = res := ⟨_, rfl⟩
 suffices H : RC Tryz.prog cp8 [] (QR Tryz.prog [(4, none), (5, none), (6, none)] (RF39 res)) (argE 0 [v0, vi x1]) ⟨0, []⟩ by
  rw [s]
  obtain ⟨r, h1, c0, c1, c2, rfl, i1, h8, h6⟩ := fnE cf5 (by simp) H
  exact ⟨c0, c1, c2, h1, i1, h8, h6⟩
 unfold jb at s
 refine sR (ab (dq rfl (TR.cnt ae.t r0)) (ab (v := nilS) (au rfl) (ab (v := nilS) (au rfl) (ab (v := nilS) (au rfl) (nR ?_)))))
 refine dz (x := .agg [nilS, nilS, nilS]) (Mem.nil ⟨0, []⟩) rfl rfl (fun g2 f9 h7 f8 => ?_)
 refine nS (aq (sR (lD r0 rfl rfl rfl (mV rfl ?_))))
 obtain ⟨e2, a3, s⟩ := bn s
 obtain ⟨h5, g5, d6⟩ := bh6 (x1 := x1) r0 
 rw [a3] at d6
 have e6 : BO x0 e2 := ad9 a3
 have e4 : e2.length ≤ 12 := (ad9 a3).1
 refine cL g5 rfl rfl (ai (TR.clo ae.t r0) (ai rfl bg)) (ab (cy rfl (cm d6 Tryz.underlying95 _)) (mI rfl (nS (br ?_))))
 have h3 := nm (sz := 2) (es := []) f8 87 (.inl ⟨none, rfl, rfl⟩) (by simp)
 have g7 := nm (sz := 1) (es := []) h3 3 (.inl ⟨none, rfl, rfl⟩) (by simp)
 have f7 := nm (sz := 1) (es := []) g7 3 (.inl ⟨none, rfl, rfl⟩) (by simp)
 refine wC (wj r0 hs a3 d6 e6 e4 ?_  aL rfl (.inl rfl) (by decide) aL rfl (.inl rfl) (by decide) aL rfl (.inl rfl) (by decide) rfl (by omega) (by (((try dsimp only); (try simp only [List.length_append, List.length_cons, List.length_nil]); omega))) (by (((try dsimp only); (try simp only [List.length_append, List.length_cons, List.length_nil]); omega))) (by (((try dsimp only); (try simp only [List.length_append, List.length_cons, List.length_nil]); omega))) (by omega) (Mem.sub f7 (.cons_cons _ (.cons_cons _ (.cons_cons _ (.cons_cons _ .slnil))))) s) rfl
 ·intro a9 b3 b5 a8 a1 a5 a0 b0 a2 b7 b6 a6 b2 c5 b8 a7 a4 c4 b9 b1 b4 f4 h2 g8 s
  refine gw (am (aq (dv ?_)))
  have g0 : Mem h2 [⟨.op g2 f9 0, 157, 3, [.agg [a2, a0, a1]]⟩, ⟨a2, 87, 2, b0⟩, ⟨a0, 3, 1, a5⟩, ⟨a1, 3, 1, a8⟩] := (Mem.front (k := 3) (Mem.front (k := 2) (Mem.front (k := 1) (Mem.front (k := 0) g8 rfl) rfl) rfl) rfl)
  obtain ⟨h9, d9, s⟩ := bn s
  obtain ⟨h4, i0, e5, d5⟩ := bg6 (x0 := ({ fields := b5, headers := b3, registers := a9 } : bq)) c4 b9 b4 b1 c5 b8 a4 a7 b7 b6 b2 a6 g0 (by (((try dsimp only); (try simp only [List.length_append, List.length_cons, List.length_nil]); omega)))
  rw [d9] at d5
  obtain ⟨f1, f5, f6, f2, f3, f0, d7, d2, d4, d0, e8, d1, c7, c8, e7, c6, d3, c9, e9, c3⟩ := d5
  replace c3 := c3.symm; subst c3
  refine fx rfl rfl e5 (bw (xT rfl rfl (bv (bw (xT rfl rfl (bv (bw (xT rfl rfl ?_))))))))
  refine bv (bw (mV rfl (bv (bw (mV rfl (bv (bw (mV rfl ?_))))))))
  refine bv (je (am ?_))
  obtain ⟨g9, e1, h0⟩ := oq (P := Tryz.prog) (k := 0) (t := aa.t) d7 rfl d4 d2 (Nat.le_trans d0 (by decide))
  obtain ⟨g4, e3, g3⟩ := oq (P := Tryz.prog) (k := 1) (t := tI) d7 rfl c7 d1 (Nat.le_trans c8 (by decide))
  obtain ⟨g6, d8, g1⟩ := oq (P := Tryz.prog) (k := 2) (t := tI) d7 rfl d3 c6 (Nat.le_trans c9 (by decide))
  subst s
  exact fy (.tmp rfl (.tmp rfl (.tmp rfl .nil))) (ax0 (kt e1 (kt e3 (kt d8 sn))) (ai e1.1 (ai e3.1 (ai d8.1 bg)))) ⟨g9, g4, g6, rfl, h0, g3, g1⟩

end Go.Proofs.YtmonnlkagniolaaGreat
