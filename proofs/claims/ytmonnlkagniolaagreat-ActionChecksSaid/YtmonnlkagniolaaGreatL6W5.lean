/-
 The code of each function does what its plain program says.
-/
import Derived.Test.YtmonnlkagniolaaGreatL6W4
set_option linter.unusedVariables false
set_option linter.unusedSimpArgs false
set_option maxRecDepth 100000
namespace Go.Proofs.YtmonnlkagniolaaGreat
open Go Go.Pb Go.RowKit
def RF109 (i0_ w0_ : Nat) (R_ : List Ent) (n : bd) (r : PV) (h : Heap) : Prop := ∃ aF0_0 : PV, ∃ esF0_0 : List PV, ∃ aF0_2 : PV, ∃ esF0_2 : List PV, ∃ aF0_4 : PV, ∃ esF0_4 : List PV, Mem h (⟨.op i0_ w0_ 0, 157, 3, [.agg [aF0_0, aF0_2, aF0_4]]⟩ :: ⟨aF0_0, 87, 2, esF0_0⟩ :: ⟨aF0_2, 3, 1, esF0_2⟩ :: ⟨aF0_4, 3, 1, esF0_4⟩ :: R_) ∧ (All2 aa.t.R n.fields esF0_0) ∧ (isL aF0_0 = true) ∧ (n.fields.length ≤ 4611686018427387904) ∧ (Wri aF0_0 esF0_0) ∧ (All2 tI.R n.headers esF0_2) ∧ (isL aF0_2 = true) ∧ (n.headers.length ≤ 4611686018427387904) ∧ (Wri aF0_2 esF0_2) ∧ (All2 tI.R n.registers esF0_4) ∧ (isL aF0_4 = true) ∧ (n.registers.length ≤ 4611686018427387904) ∧ (Wri aF0_4 esF0_4) ∧ r = .tup []
theorem xj {x0 : bd} {x1 : List ab} {v1 a8 : PV} {a1 : List PV} {a6 : PV} {a0 : List PV} {a2 : PV} {a3 : List PV} {R_ : List Ent} {h_ : Heap} {c5 c4 : Nat} (r1 : (tSl ab.t).R x1 v1) (b4 : All2 aa.t.R x0.fields a1) (b1 : isL a8 = true) (f0 : x0.fields.length ≤ 4611686018427387904) (b9 : Wri a8 a1) (b0 : All2 tI.R x0.headers a0) (b3 : isL a6 = true) (f2 : x0.headers.length ≤ 4611686018427387904) (c6 : Wri a6 a0) (c7 : All2 tI.R x0.registers a3) (c0 : isL a2 = true) (c2 : x0.registers.length ≤ 4611686018427387904) (c9 : Wri a2 a3) (M_ : Mem h_ (⟨.op c5 c4 0, 157, 3, [.agg [a8, a6, a2]]⟩ :: ⟨a8, 87, 2, a1⟩ :: ⟨a6, 3, 1, a0⟩ :: ⟨a2, 3, 1, a3⟩ :: R_)) (hb : x1.length ≤ 1000 ∧ x0.fields.length ≤ 100000 ∧ x0.headers.length ≤ 100000) : ∃ r f5, FnX Tryz.prog 109 [.op c5 c4 0, v1] h_ r f5 ∧ RF109 c5 c4 R_ (cw x0 x1) r f5 := by
 refine fnXX (R := RF109 c5 c4 R_) aw0 rfl fun n z => ?_
 unfold cw at z
 refine sR (mV rfl (mV rfl (ae (kj rfl rfl) (ae (ba rfl) (ae (br (k := 0) M_ rfl rfl (mk1 (gf (k := 1) M_ rfl b1).2)) (mV rfl ?_))))))
 obtain ⟨c8, b8, z⟩ := bq z
 obtain ⟨f6, e9, d9⟩ := co4  r1 (by first | assumption | omega | (rw [de (by omega) (by omega)]; omega))
 rw [b8] at d9
 have f3 : c8.length ≤ x1.length := by rw [← b8]; exact qy _
 refine cL e9 rfl rfl (ak (TR.clo (tSl ab.t) r1) bc) ?_
 obtain ⟨a4, d3, b7⟩ := lb (t := aa.t) (h := h_) d9
 have e4 : fits (a1.length + a4.length) 16 = true := by rw [All2.length_eq b4, All2.length_eq b7]; (try simp only [List.length_cons, List.length_nil]); exact jl (by first | omega | (simp only [List.length_append, List.length_cons, List.length_nil]; omega)) (by first | omega | (simp only [List.length_append, List.length_cons, List.length_nil]; omega))
 refine jk (k := 1) (es := a1) (news := a4) M_ rfl rfl rfl b1 b9 d3 e4 (fun a7 f7 d6 d4 e6 => ?_)
 have e1 : All2 aa.t.R (x0.fields ++ c8) (a1 ++ a4) := All2.app b4 b7
 have d7 : (x0.fields ++ c8).length ≤ 4611686018427387904 := by rw [← All2.length_eq e1, List.length_append]; exact gy e4
 refine ae (kj rfl rfl) (ae (ba rfl) ?_)
 refine gw (k := 0) (v := a7) e6 rfl rfl rfl (gf (k := 1) e6 rfl d6).1 rfl (by first | decide | (simp only [List.length_cons, List.length_nil]; omega) | simp) (fun e8 b2 => ?_)
 replace b2 : Mem e8 (⟨.op c5 c4 0, 157, 3, [.agg [a7, a6, a2]]⟩ :: ⟨a7, 87, 2, (a1 ++ a4)⟩ :: ⟨a6, 3, 1, a0⟩ :: ⟨a2, 3, 1, a3⟩ :: R_) := b2
 refine nS (aw (mV rfl (mV rfl (ae (kj rfl rfl) (ae (ba rfl) (ae (br (k := 0) b2 rfl rfl (mk1 (gf (k := 2) b2 rfl b3).2)) (mV rfl ?_)))))))
 obtain ⟨c1, b6, z⟩ := bq z
 obtain ⟨f8, f1, d5⟩ := ck6  r1 (by first | assumption | omega | (rw [de (by omega) (by omega)]; omega))
 rw [b6] at d5
 have f4 : c1.length ≤ x1.length := by rw [← b6]; exact pw _
 refine cL f1 rfl rfl (ak (TR.clo (tSl ab.t) r1) bc) ?_
 obtain ⟨a5, d8, b5⟩ := lb (t := tI) (h := e8) d5
 have e2 : fits (a0.length + a5.length) 8 = true := by rw [All2.length_eq b0, All2.length_eq b5]; (try simp only [List.length_cons, List.length_nil]); exact jl (by first | omega | (simp only [List.length_append, List.length_cons, List.length_nil]; omega)) (by first | omega | (simp only [List.length_append, List.length_cons, List.length_nil]; omega))
 refine jk (k := 2) (es := a0) (news := a5) b2 rfl rfl rfl b3 c6 d8 e2 (fun a9 f9 e0 e7 d0 => ?_)
 have e5 : All2 tI.R (x0.headers ++ c1) (a0 ++ a5) := All2.app b0 b5
 have d1 : (x0.headers ++ c1).length ≤ 4611686018427387904 := by rw [← All2.length_eq e5, List.length_append]; exact gy e2
 refine ae (kj rfl rfl) (ae (ba rfl) ?_)
 refine gw (k := 0) (v := a9) d0 rfl rfl rfl (gf (k := 2) d0 rfl e0).1 rfl (by first | decide | (simp only [List.length_cons, List.length_nil]; omega) | simp) (fun e3 c3 => ?_)
 replace c3 : Mem e3 (⟨.op c5 c4 0, 157, 3, [.agg [a7, a9, a2]]⟩ :: ⟨a7, 87, 2, (a1 ++ a4)⟩ :: ⟨a9, 3, 1, (a0 ++ a5)⟩ :: ⟨a2, 3, 1, a3⟩ :: R_) := c3
 refine bp ?_
 have d2 : Mem e3 (⟨.op c5 c4 0, 157, 3, [.agg [a7, a9, a2]]⟩ :: ⟨a7, 87, 2, (a1 ++ a4)⟩ :: ⟨a9, 3, 1, (a0 ++ a5)⟩ :: ⟨a2, 3, 1, a3⟩ :: R_) := (Mem.front (k := 3) (Mem.front (k := 3) (Mem.front (k := 3) (Mem.front (k := 3) c3 rfl) rfl) rfl) rfl)
 subst z
 exact bt6 .nil ⟨a7, (a1 ++ a4), a9, (a0 ++ a5), a2, a3, Mem.sub d2 (.cons_cons _ (.cons_cons _ (.cons_cons _ (.cons_cons _ (List.Sublist.refl R_))))), e1, d6, d7, d4, e5, e0, d1, e7, c7, c0, c2, c9, rfl⟩

def RF110 (i0_ w0_ : Nat) (R_ : List Ent) (n : (List aa) × (List Int) × (List Int)) (r : PV) (h : Heap) : Prop := ∃ asR0_ : PV, ∃ esR0_ : List PV, ∃ asR1_ : PV, ∃ esR1_ : List PV, ∃ asR2_ : PV, ∃ esR2_ : List PV, Mem h (⟨asR0_, 87, 2, esR0_⟩ :: ⟨asR1_, 3, 1, esR1_⟩ :: ⟨asR2_, 3, 1, esR2_⟩ :: R_) ∧ (All2 aa.t.R n.1 esR0_) ∧ (isL asR0_ = true) ∧ (n.1.length ≤ 4611686018427387904) ∧ (Wri asR0_ esR0_) ∧ (All2 tI.R n.2.1 esR1_) ∧ (isL asR1_ = true) ∧ (n.2.1.length ≤ 4611686018427387904) ∧ (Wri asR1_ esR1_) ∧ (All2 tI.R n.2.2 esR2_) ∧ (isL asR2_ = true) ∧ (n.2.2.length ≤ 4611686018427387904) ∧ (Wri asR2_ esR2_) ∧ r = .tup [asR0_, asR1_, asR2_]
theorem au5 {x0 : bd} {a5 : PV} {b2 : List PV} {a4 : PV} {a7 : List PV} {a0 : PV} {a6 : List PV} {R_ : List Ent} {h_ : Heap} {i1 i0 : Nat} (f9 : All2 aa.t.R x0.fields b2) (a2 : isL a5 = true) (g3 : x0.fields.length ≤ 4611686018427387904) (g2 : Wri a5 b2) (g0 : All2 tI.R x0.headers a7) (a3 : isL a4 = true) (g5 : x0.headers.length ≤ 4611686018427387904) (f7 : Wri a4 a7) (f8 : All2 tI.R x0.registers a6) (a1 : isL a0 = true) (g1 : x0.registers.length ≤ 4611686018427387904) (g4 : Wri a0 a6) (M_ : Mem h_ (⟨.op i1 i0 0, 157, 3, [.agg [a5, a4, a0]]⟩ :: ⟨a5, 87, 2, b2⟩ :: ⟨a4, 3, 1, a7⟩ :: ⟨a0, 3, 1, a6⟩ :: R_)) (hb : x0.fields.length ≤ 1000000 ∧ x0.headers.length ≤ 1000000 ∧ x0.registers.length ≤ 1000000) : ∃ r k5, FnX Tryz.prog 110 [.op i1 i0 0] h_ r k5 ∧ RF110 i1 i0 R_ (ct x0) r k5 := by
 refine fnXX (R := RF110 i1 i0 R_) by6 rfl fun n z => ?_
 unfold ct at z
 refine aq (gu (df (ae (v := nilS) (av rfl) (dg (df (ae (v := nilS) (av rfl) (dg (df ?_))))))))
 refine ae (v := nilS) (av rfl) (dg ?_)
 refine yl (k := 0) (E' := [(4, nilS), (3, nilS), (2, nilS), (0, .fp (.agg [a5, a4, a0]))]) M_ rfl (ka rfl (ka rfl (ka rfl (ak2 rfl av0)))) (fun g8 b8 => ?_)
 replace b8 : Mem g8 (⟨a5, 87, 2, b2⟩ :: ⟨a4, 3, 1, a7⟩ :: ⟨a0, 3, 1, a6⟩ :: R_) := b8
 refine mq (am (aq (gu (df (mV rfl (dg (df (ae (kj rfl rfl) ?_))))))))
 refine dg (df (fA rfl (mk1 (gf (k := 0) b8 rfl a2).2) (dg (df (ae (ca rfl (qo (k := 0) b8 rfl a2) (gf (k := 0) b8 rfl a2).2) (dg ?_))))))
 have i7 : Mem g8 (⟨a5, 87, 2, b2⟩ :: ⟨a4, 3, 1, a7⟩ :: ⟨a0, 3, 1, a6⟩ :: R_) := (Mem.front (k := 0) b8 rfl)
 obtain ⟨j2, g6, z⟩ := bq z
 obtain ⟨j9, i6, h4, f6⟩ := ap1 (x0 := x0.fields) f9 a2 g3 g2 i7 (by first | assumption | omega | (rw [de (by omega) (by omega)]; omega))
 rw [g6] at f6
 obtain ⟨b0, e2, c2, c0, d3, c7⟩ := f6
 replace c7 := c7.symm; subst c7
 refine ko rfl rfl h4 (mq (am (aq (gu (df (mV rfl (dg (df ?_))))))))
 refine ae (kj rfl rfl) (dg (df (fA rfl (mk1 (gf (k := 1) e2 rfl a3).2) (dg (df (ae (ca rfl (qo (k := 1) e2 rfl a3) (gf (k := 1) e2 rfl a3).2) (dg ?_)))))))
 have j3 : Mem i6 (⟨a4, 3, 1, a7⟩ :: ⟨a5, 87, 2, b0⟩ :: ⟨a0, 3, 1, a6⟩ :: R_) := (Mem.front (k := 1) e2 rfl)
 obtain ⟨i3, g7, z⟩ := bq z
 obtain ⟨j8, i5, h2, f1⟩ := ad5 (x0 := x0.headers) g0 a3 g5 f7 j3 (by first | assumption | omega | (rw [de (by omega) (by omega)]; omega))
 rw [g7] at f1
 obtain ⟨b3, e4, c9, c1, c8, d0⟩ := f1
 replace d0 := d0.symm; subst d0
 refine ko rfl rfl h2 (mq (am (aq (gu (df (mV rfl (dg (df ?_))))))))
 refine ae (kj rfl rfl) (dg (df (fA rfl (mk1 (gf (k := 2) e4 rfl a1).2) (dg (df (ae (ca rfl (qo (k := 2) e4 rfl a1) (gf (k := 2) e4 rfl a1).2) (dg ?_)))))))
 have j7 : Mem i5 (⟨a0, 3, 1, a6⟩ :: ⟨a4, 3, 1, b3⟩ :: ⟨a5, 87, 2, b0⟩ :: R_) := (Mem.front (k := 2) e4 rfl)
 obtain ⟨i9, h6, z⟩ := bq z
 obtain ⟨k6, i4, h8, f4⟩ := ad5 (x0 := x0.registers) f8 a1 g1 g4 j7 (by first | assumption | omega | (rw [de (by omega) (by omega)]; omega))
 rw [h6] at f4
 obtain ⟨b1, d8, c3, b9, c5, c4⟩ := f4
 replace c4 := c4.symm; subst c4
 refine ko rfl rfl h8 (mq (am (aq (ap0 (ly (mV rfl (mc (ly ?_))))))))
 refine ae (kj rfl rfl) (mc (ly (fA rfl (mk1 (gf (k := 2) d8 rfl a2).2) (mc (ly (ae (ca rfl (qo (k := 2) d8 rfl a2) (gf (k := 2) d8 rfl a2).2) (mc ?_)))))))
 have i2 : Mem i4 (⟨a5, 87, 2, b0⟩ :: ⟨a0, 3, 1, b1⟩ :: ⟨a4, 3, 1, b3⟩ :: R_) := (Mem.front (k := 2) d8 rfl)
 obtain ⟨k7, h9, z⟩ := bq z
 obtain ⟨k4, i8, h3, f5⟩ := as3 (x0 := j2) c2 a2 c0 d3 i2 
 rw [h9] at f5
 obtain ⟨a8, a9, e7, f0, e5, e3, e6, d2⟩ := f5
 replace d2 := d2.symm; subst d2
 refine wa rfl rfl h3 (ly (mV rfl (mc (ly (ae (kj rfl rfl) (mc (ly (fA rfl (mk1 (gf (k := 2) e7 rfl a3).2) ?_))))))))
 refine mc (ly (ae (ca rfl (qo (k := 2) e7 rfl a3) (gf (k := 2) e7 rfl a3).2) (mc ?_)))
 have j4 : Mem i8 (⟨a4, 3, 1, b3⟩ :: ⟨a8, 87, 2, a9⟩ :: ⟨a0, 3, 1, b1⟩ :: R_) := (Mem.front (k := 2) e7 rfl)
 obtain ⟨k8, h7, z⟩ := bq z
 obtain ⟨k3, j6, h1, f2⟩ := af8 (x0 := i3) c9 a3 c1 c8 j4 
 rw [h7] at f2
 obtain ⟨b4, b5, d6, d7, d9, d5, e9, c6⟩ := f2
 replace c6 := c6.symm; subst c6
 refine wa rfl rfl h1 (ly (mV rfl (mc (ly (ae (kj rfl rfl) (mc (ly (fA rfl (mk1 (gf (k := 2) d6 rfl a1).2) ?_))))))))
 refine mc (ly (ae (ca rfl (qo (k := 2) d6 rfl a1) (gf (k := 2) d6 rfl a1).2) (mc ?_)))
 have j1 : Mem j6 (⟨a0, 3, 1, b1⟩ :: ⟨b4, 3, 1, b5⟩ :: ⟨a8, 87, 2, a9⟩ :: R_) := (Mem.front (k := 2) d6 rfl)
 obtain ⟨k9, h5, z⟩ := bq z
 obtain ⟨k0, j5, h0, f3⟩ := af8 (x0 := i9) c3 a1 b9 c5 j1 
 rw [h5] at f3
 obtain ⟨b7, b6, j0, d4, e8, e1, e0, d1⟩ := f3
 replace d1 := d1.symm; subst d1
 refine wa rfl rfl h0 (ly (mV rfl (mc (ly (mV rfl (mc (ly (mV rfl ?_))))))))
 refine mc (ct1 (am ?_))
 have g9 : Mem j5 (⟨a8, 87, 2, a9⟩ :: ⟨b4, 3, 1, b5⟩ :: ⟨b7, 3, 1, b6⟩ :: R_) := (Mem.front (k := 2) (Mem.front (k := 1) (Mem.front (k := 0) j0 rfl) rfl) rfl)
 subst z
 exact re (.tmp rfl (.tmp rfl (.tmp rfl .nil))) ⟨a8, a9, b4, b5, b7, b6, Mem.sub g9 (.cons_cons _ (.cons_cons _ (.cons_cons _ (List.Sublist.refl R_)))), f0, e5, e3, e6, d7, d9, d5, e9, d4, e8, e1, e0, rfl⟩

def RF37 (n : (List aa) × (List Int) × (List Int)) (r : PV) : Prop := ∃ c0, ∃ c1, ∃ c2, r = .tup [c0, c1, c2] ∧ (tSl aa.t).R n.1 c0 ∧ (tSl tI).R n.2.1 c1 ∧ (tSl tI).R n.2.2 c2
theorem ua {S : List Fr} {n : (List aa) × (List Int) × (List Int)} {x0 : af} {x1 : Int} {a1 : (List aj)} {p3 : PV} {d9 e0 : Nat} (y0 : jh x0 x1 = a1) (p0 : (tSl aj.t).R a1 p3) (x7 : BO x0 a1) (x6 : a1.length ≤ 12) {K0 : bd → ((List aa) × (List Int) × (List Int))}
  (y9 : ∀ {zE102 : bd} {a3 : PV} {a7 : List PV} {a6 : PV} {a5 : List PV} {a4 : PV} {a8 : List PV} (b9 : All2 aa.t.R zE102.fields a7) (c2 : isL a3 = true) (c1 : zE102.fields.length ≤ 4611686018427387904) (c0 : Wri a3 a7) (b3 : All2 tI.R zE102.headers a5) (b2 : isL a6 = true) (c5 : zE102.headers.length ≤ 4611686018427387904) (b8 : Wri a6 a5) (b7 : All2 tI.R zE102.registers a8) (b6 : isL a4 = true) (b5 : zE102.registers.length ≤ 4611686018427387904) (b4 : Wri a4 a8) (z6 : zE102.fields.length ≤ 600 ∧ zE102.headers.length ≤ 600 ∧ zE102.registers.length ≤ 600) {h : Heap} (M0 : Mem h [⟨a4, 3, 1, a8⟩, ⟨a6, 3, 1, a5⟩, ⟨a3, 87, 2, a7⟩, ⟨.op d9 e0 0, 157, 3, [.agg [a3, a6, a4]]⟩]), K0 zE102 = n → PX Tryz.prog 0 S (QR Tryz.prog [(4, none), (5, none), (6, none)] (RF37 n)) [(7, .op d9 e0 0)] h) :
  ∀ {m : Nat} {a0 : Int} {zE102 : bd} {a3 : PV} {a7 : List PV} {a6 : PV} {a5 : List PV} {a4 : PV} {a8 : List PV} (b9 : All2 aa.t.R zE102.fields a7) (c2 : isL a3 = true) (c1 : zE102.fields.length ≤ 4611686018427387904) (c0 : Wri a3 a7) (b3 : All2 tI.R zE102.headers a5) (b2 : isL a6 = true) (c5 : zE102.headers.length ≤ 4611686018427387904) (b8 : Wri a6 a5) (b7 : All2 tI.R zE102.registers a8) (b6 : isL a4 = true) (b5 : zE102.registers.length ≤ 4611686018427387904) (b4 : Wri a4 a8) (x8 : m = Int.toNat ((a1.length : Int) - a0)) (r8 : 0 ≤ a0) (o6 : (zE102.fields.length : Int) ≤ 50 * a0) (n9 : (zE102.headers.length : Int) ≤ 50 * a0) (o0 : (zE102.registers.length : Int) ≤ 50 * a0) (o4 : a0 ≤ (a1.length : Int)) {h : Heap} (M0 : Mem h [⟨a4, 3, 1, a8⟩, ⟨a6, 3, 1, a5⟩, ⟨a3, 87, 2, a7⟩, ⟨.op d9 e0 0, 157, 3, [.agg [a3, a6, a4]]⟩]), gb a1 K0 m a0 zE102 = n → RC Tryz.prog (.loop bw0) S (QR Tryz.prog [(4, none), (5, none), (6, none)] (RF37 n)) [(14, vi a0), (13, vi (a1.length : Int)), (12, p3), (7, .op d9 e0 0)] h := by
 intro m
 induction m with
 | zero =>
  intro a0 zE102 a3 a7 a6 a5 a4 a8 b9 c2 c1 c0 b3 b2 c5 b8 b7 b6 b5 b4 x8 r8 o6 n9 o0 o4 h M0 z
  rw [gb] at z
  refine cj (sR (bN cn rfl rfl (nS (aq ?_))))
  refine cb rfl ?_ ?_ <;> intro c <;> try simp only [qa] at c
  ·omega
  refine dw (fj (dl ?_))
  exact wP (y9 (zE102 := ({ fields := zE102.fields, headers := zE102.headers, registers := zE102.registers } : bd)) b9 c2 c1 c0 b3 b2 c5 b8 b7 b6 b5 b4 (by omega) (Mem.sub M0 (.cons_cons _ (.cons_cons _ (.cons_cons _ (.cons_cons _ .slnil))))) z) rfl
 | succ m ih =>
  intro a0 zE102 a3 a7 a6 a5 a4 a8 b9 c2 c1 c0 b3 b2 c5 b8 b7 b6 b5 b4 x8 r8 o6 n9 o0 o4 h M0 z
  rw [gb] at z
  refine cj (sR (bN cn rfl rfl (nS (aq ?_))))
  refine cb rfl ?_ ?_ <;> intro c <;> try simp only [qa] at c
  rotate_left
  ·omega
  refine ax (am (aq (bh (sR ?_))))
  obtain ⟨e6, w2, e8⟩ := cz (i := a0) p0 (by omega) (by omega)
  refine ae (bf rfl rfl w2) (lD e8 rfl rfl rfl ?_)
  refine gh (x := .agg [vi 0, vi 0, vi 0, vi 0, vi 0, nilS, nilS]) M0 rfl rfl (fun e9 e7 z4 v9 => ?_)
  refine fu (k := 0) (v := e6) v9 rfl rfl rfl (TR.cnt aj.t e8) (fun n0 e2 => ?_)
  replace e2 : Mem n0 [⟨.op e9 e7 0, 135, 7, [e6]⟩, ⟨a4, 3, 1, a8⟩, ⟨a6, 3, 1, a5⟩, ⟨a3, 87, 2, a7⟩, ⟨.op d9 e0 0, 157, 3, [.agg [a3, a6, a4]]⟩] := e2
  refine nS (aq (sR (ae (ba rfl) (ae (br (k := 0) e2 rfl rfl (aj.g_Kind e8)) (nS ?_)))))
  obtain ⟨w1, t7, z⟩ := bq z
  refine jw (F := fun b S Q => ∀ (a2 : bd) (b0 : PV) (c3 : List PV) (c6 : PV) (a9 : List PV) (b1 : PV) (c4 : List PV) (d6 : All2 aa.t.R a2.fields c3) (d7 : isL b0 = true) (d2 : a2.fields.length ≤ 4611686018427387904) (d3 : Wri b0 c3) (c7 : All2 tI.R a2.headers a9) (c8 : isL c6 = true) (e1 : a2.headers.length ≤ 4611686018427387904) (d5 : Wri c6 a9) (d1 : All2 tI.R a2.registers c4) (d0 : isL b1 = true) (c9 : a2.registers.length ≤ 4611686018427387904) (d4 : Wri b1 c4) (g4 : (a2.fields.length : Int) ≤ ({ fields := zE102.fields, headers := zE102.headers, registers := zE102.registers } : bd).fields.length + 48 ∧ (a2.headers.length : Int) ≤ ({ fields := zE102.fields, headers := zE102.headers, registers := zE102.registers } : bd).headers.length + 48 ∧ (a2.registers.length : Int) ≤ ({ fields := zE102.fields, headers := zE102.headers, registers := zE102.registers } : bd).registers.length + 48) (g7 : Heap) (e5 : Mem g7 [⟨.op e9 e7 0, 135, 7, [e6]⟩, ⟨b1, 3, 1, c4⟩, ⟨c6, 3, 1, a9⟩, ⟨b0, 87, 2, c3⟩, ⟨.op d9 e0 0, 157, 3, [.agg [b0, c6, b1]]⟩]), w1 a2 = n → RC Tryz.prog b S Q [(14, vi a0), (13, vi (a1.length : Int)), (12, p3), (9, .op e9 e7 0), (7, .op d9 e0 0)] g7) ?_ ?_
  ·intro a2 b0 c3 c6 a9 b1 c4 d6 d7 d2 d3 c7 c8 e1 d5 d1 d0 c9 d4 g4 g7 e5 z
   rw [← t7] at z
   refine sR (ae (ba rfl) (ae (br (k := 0) e5 rfl rfl (aj.g_Kind e8)) (bN dc rfl rfl (mV rfl ?_))))
   refine bw 4 (d := 61) (v := vb ((decide (((ix a1 a0).Kind) = 1)) || (decide (((ix a1 a0).Kind) = 4)))) ?_ ?_
   ·intro S Q r
    cases q5 : (decide (((ix a1 a0).Kind) = 1))
    ·intro k
     have q0 := q5
     try simp only [qa] at q0
     refine ai rfl rfl (ba rfl) (ai rfl rfl (br (k := 0) e5 rfl rfl (aj.g_Kind e8)) (ai rfl rfl (bv rfl rfl dc) ?_))
     exact gK rfl rfl rfl rfl rfl k
    ·exact gN 3 rfl rfl rfl rfl rfl rfl
   refine mV rfl ?_
   refine bw 5 (d := 67) (v := vb (((decide (((ix a1 a0).Kind) = 1)) || (decide (((ix a1 a0).Kind) = 4))) && (!decide ((((ix a1 a0).Dst).Header) = (-1))))) ?_ ?_
   ·intro S Q r
    cases t0 : ((decide (((ix a1 a0).Kind) = 1)) || (decide (((ix a1 a0).Kind) = 4)))
    ·exact gN 4 rfl rfl rfl rfl rfl rfl
    ·intro k
     have p9 := t0
     try simp only [qa] at p9
     refine ai rfl rfl (ba rfl) (ai rfl rfl (ba rfl) ?_)
     obtain ⟨y2, u9, w7⟩ := aj.g_Dst e8
     refine ai rfl rfl (br (k := 0) e5 rfl rfl (qc u9 (aa.g_Header w7))) (ai rfl rfl (bv rfl rfl (ig (b := -1))) ?_)
     exact gK rfl rfl rfl rfl rfl k
   refine nS ?_
   refine bm z rfl ?_ ?_ <;> clear z <;> intro c z <;> try simp only [qa] at c
   ·refine aw (ae (ba rfl) (ae (br (k := 4) e5 rfl rfl (mk1 (gf (k := 2) e5 rfl c8).2)) (ae (ba rfl) (ae (ba rfl) ?_))))
    obtain ⟨y7, v4, u2⟩ := aj.g_Dst e8
    refine ae (br (k := 0) e5 rfl rfl (qc v4 (aa.g_Header u2))) (ae (v := .fs true [vi (((ix a1 a0).Dst).Header)]) (fd rfl (all_cons rfl iu)) ?_)
    have u6 : (tSl tI).R ([((ix a1 a0).Dst).Header] : List Int) (.fs true [vi (((ix a1 a0).Dst).Header)]) := mg ⟨rfl, trivial⟩ (by simp)
    obtain ⟨g9, s3, n8⟩ := lb (t := tI) (h := g7) u6
    have t2 : fits (a9.length + g9.length) 8 = true := by rw [All2.length_eq c7, All2.length_eq n8]; (try simp only [List.length_cons, List.length_nil]); exact jl (by first | (have hk := bo_v (l := a1) (k := a0) (by assumption) (by omega) (by omega) (by omega); omega) | (have hk := bo_i (l := a1) (k := a0) (by assumption) (by omega) (by omega) (by omega); omega) | (have g5 := bo_v (l := a1) (k := a0) (by assumption) (by omega) (by omega) (by omega); have g6 := bo_i (l := a1) (k := a0) (by assumption) (by omega) (by omega) (by omega); omega) | omega) (by first | (have hk := bo_v (l := a1) (k := a0) (by assumption) (by omega) (by omega) (by omega); omega) | (have hk := bo_i (l := a1) (k := a0) (by assumption) (by omega) (by omega) (by omega); omega) | (have g5 := bo_v (l := a1) (k := a0) (by assumption) (by omega) (by omega) (by omega); have g6 := bo_i (l := a1) (k := a0) (by assumption) (by omega) (by omega) (by omega); omega) | omega)
    refine jk (k := 2) (es := a9) (news := g9) e5 rfl rfl rfl c8 d5 s3 t2 (fun p8 y8 q3 s2 s8 => ?_)
    have s0 : All2 tI.R (a2.headers ++ ([((ix a1 a0).Dst).Header] : List Int)) (a9 ++ g9) := All2.app c7 n8
    have r6 : (a2.headers ++ ([((ix a1 a0).Dst).Header] : List Int)).length ≤ 4611686018427387904 := by rw [← All2.length_eq s0, List.length_append]; exact gy t2
    refine ae (ba rfl) ?_
    refine gw (k := 4) (v := p8) s8 rfl rfl rfl (gf (k := 2) s8 rfl q3).1 rfl (by first | decide | (simp only [List.length_cons, List.length_nil]; omega) | simp) (fun v2 o9 => ?_)
    replace o9 : Mem v2 [⟨.op e9 e7 0, 135, 7, [e6]⟩, ⟨b1, 3, 1, c4⟩, ⟨p8, 3, 1, (a9 ++ g9)⟩, ⟨b0, 87, 2, c3⟩, ⟨.op d9 e0 0, 157, 3, [.agg [b0, p8, b1]]⟩] := o9
    refine bp (cp (am (aw (bN em rfl rfl (mV rfl (bp (cq ?_)))))))
    have s := db p0
    have o : wr (a0 + 1) = a0 + 1 := de (by omega) (by omega)
    erw [o]
    exact wC (ih (zE102 := ({ fields := a2.fields, headers := (a2.headers ++ ([((ix a1 a0).Dst).Header] : List Int)), registers := a2.registers } : bd)) d6 d7 d2 d3 s0 q3 r6 s2 d1 d0 c9 d4 (by omega) (by omega) (by first | omega | ((try dsimp only); (try simp only [List.length_append, List.length_cons, List.length_nil]); omega)) (by first | omega | ((try dsimp only); (try simp only [List.length_append, List.length_cons, List.length_nil]); omega)) (by first | omega | ((try dsimp only); (try simp only [List.length_append, List.length_cons, List.length_nil]); omega)) (by first | omega | ((try dsimp only); (try simp only [List.length_append, List.length_cons, List.length_nil]); omega)) (Mem.sub o9 (.cons _ (.cons_cons _ (.cons_cons _ (.cons_cons _ (.cons_cons _ .slnil)))))) z) rfl
   ·refine ax (cp (am (aw (bN em rfl rfl (mV rfl (bp (cq ?_)))))))
    have s := db p0
    have o : wr (a0 + 1) = a0 + 1 := de (by omega) (by omega)
    erw [o]
    exact wC (ih (zE102 := ({ fields := a2.fields, headers := a2.headers, registers := a2.registers } : bd)) d6 d7 d2 d3 c7 c8 e1 d5 d1 d0 c9 d4 (by omega) (by omega) (by first | omega | ((try dsimp only); (try simp only [List.length_append, List.length_cons, List.length_nil]); omega)) (by first | omega | ((try dsimp only); (try simp only [List.length_append, List.length_cons, List.length_nil]); omega)) (by first | omega | ((try dsimp only); (try simp only [List.length_append, List.length_cons, List.length_nil]); omega)) (by first | omega | ((try dsimp only); (try simp only [List.length_append, List.length_cons, List.length_nil]); omega)) (Mem.sub e5 (.cons _ (.cons_cons _ (.cons_cons _ (.cons_cons _ (.cons_cons _ .slnil)))))) z) rfl
  ·intro J
   refine bh (sR (bN dc rfl rfl (mV rfl (nS ?_))))
   refine bm z rfl ?_ ?_ <;> clear z <;> intro c z <;> try simp only [qa] at c
   ·refine gu (df (ae (ba rfl) (dg (df ?_))))
    obtain ⟨y4, w9, u5⟩ := aj.g_Value e8
    refine ae (br (k := 0) e2 rfl rfl w9) (dg ?_)
    have v7 : Mem n0 [⟨.op d9 e0 0, 157, 3, [.agg [a3, a6, a4]]⟩, ⟨a3, 87, 2, a7⟩, ⟨a6, 3, 1, a5⟩, ⟨a4, 3, 1, a8⟩, ⟨.op e9 e7 0, 135, 7, [e6]⟩] := (Mem.front (k := 4) (Mem.front (k := 3) (Mem.front (k := 2) (Mem.front (k := 1) e2 rfl) rfl) rfl) rfl)
    obtain ⟨p5, n7, z⟩ := bq z
    obtain ⟨x9, v5, r3, o8⟩ := xj (x0 := ({ fields := zE102.fields, headers := zE102.headers, registers := zE102.registers } : bd)) (x1 := ((ix a1 a0).Value)) u5 b9 c2 c1 c0 b3 b2 c5 b8 b7 b6 b5 b4 v7 (by first | (have hk := bo_v (l := a1) (k := a0) (by assumption) (by omega) (by omega) (by omega); omega) | (have hk := bo_i (l := a1) (k := a0) (by assumption) (by omega) (by omega) (by omega); omega) | (have g5 := bo_v (l := a1) (k := a0) (by assumption) (by omega) (by omega) (by omega); have g6 := bo_i (l := a1) (k := a0) (by assumption) (by omega) (by omega) (by omega); omega))
    rw [n7] at o8
    obtain ⟨g0, h3, g1, h7, f8, l4, u8, j0, k5, i3, h9, l8, i0, k7, m5, l7, h5, i9, m2, n1⟩ := o8
    replace n1 := n1.symm; subst n1
    refine ko rfl rfl r3 ?_
    have r0 := nl n7; try dsimp only at r0
    refine mq (cp ?_)
    have q6 : Mem v5 [⟨.op e9 e7 0, 135, 7, [e6]⟩, ⟨f8, 3, 1, l4⟩, ⟨g1, 3, 1, h7⟩, ⟨g0, 87, 2, h3⟩, ⟨.op d9 e0 0, 157, 3, [.agg [g0, g1, f8]]⟩] := (Mem.front (k := 4) (Mem.front (k := 3) (Mem.front (k := 2) (Mem.front (k := 1) (Mem.front (k := 0) u8 rfl) rfl) rfl) rfl) rfl)
    refine am (wC (J ({ fields := p5.fields, headers := p5.headers, registers := p5.registers } : bd) _ _ _ _ _ _ j0 k5 i3 h9 l8 i0 k7 m5 l7 h5 i9 m2 (by first | omega | ((try dsimp only); (try simp only [List.length_append, List.length_cons, List.length_nil]); first | omega | (have hk := bo_v (l := a1) (k := a0) (by assumption) (by omega) (by omega) (by omega); omega) | (have hk := bo_i (l := a1) (k := a0) (by assumption) (by omega) (by omega) (by omega); omega) | (have g5 := bo_v (l := a1) (k := a0) (by assumption) (by omega) (by omega) (by omega); have g6 := bo_i (l := a1) (k := a0) (by assumption) (by omega) (by omega) (by omega); omega))) _ (Mem.sub q6 (.cons_cons _ (.cons_cons _ (.cons_cons _ (.cons_cons _ (.cons_cons _ .slnil)))))) z) rfl)
   ·refine sR (bN dc rfl rfl (mV rfl (nS ?_)))
    refine bm z rfl ?_ ?_ <;> clear z <;> intro c z <;> try simp only [qa] at c
    ·refine aw (ae (ba rfl) (ae (br (k := 4) e2 rfl rfl (mk1 (gf (k := 2) e2 rfl b2).2)) (ae (ba rfl) (ae (br (k := 0) e2 rfl rfl (aj.g_Header e8)) (ae (v := .fs true [vi ((ix a1 a0).Header)]) (fd rfl (all_cons rfl iu)) ?_)))))
     have u7 : (tSl tI).R ([(ix a1 a0).Header] : List Int) (.fs true [vi ((ix a1 a0).Header)]) := mg ⟨rfl, trivial⟩ (by simp)
     obtain ⟨g8, r4, o5⟩ := lb (t := tI) (h := n0) u7
     have s4 : fits (a5.length + g8.length) 8 = true := by rw [All2.length_eq b3, All2.length_eq o5]; (try simp only [List.length_cons, List.length_nil]); exact jl (by first | (have hk := bo_v (l := a1) (k := a0) (by assumption) (by omega) (by omega) (by omega); omega) | (have hk := bo_i (l := a1) (k := a0) (by assumption) (by omega) (by omega) (by omega); omega) | (have g5 := bo_v (l := a1) (k := a0) (by assumption) (by omega) (by omega) (by omega); have g6 := bo_i (l := a1) (k := a0) (by assumption) (by omega) (by omega) (by omega); omega) | omega) (by first | (have hk := bo_v (l := a1) (k := a0) (by assumption) (by omega) (by omega) (by omega); omega) | (have hk := bo_i (l := a1) (k := a0) (by assumption) (by omega) (by omega) (by omega); omega) | (have g5 := bo_v (l := a1) (k := a0) (by assumption) (by omega) (by omega) (by omega); have g6 := bo_i (l := a1) (k := a0) (by assumption) (by omega) (by omega) (by omega); omega) | omega)
     refine jk (k := 2) (es := a5) (news := g8) e2 rfl rfl rfl b2 b8 r4 s4 (fun p7 z3 s9 r5 t1 => ?_)
     have t9 : All2 tI.R (zE102.headers ++ ([(ix a1 a0).Header] : List Int)) (a5 ++ g8) := All2.app b3 o5
     have t4 : (zE102.headers ++ ([(ix a1 a0).Header] : List Int)).length ≤ 4611686018427387904 := by rw [← All2.length_eq t9, List.length_append]; exact gy s4
     refine ae (ba rfl) ?_
     refine gw (k := 4) (v := p7) t1 rfl rfl rfl (gf (k := 2) t1 rfl s9).1 rfl (by first | decide | (simp only [List.length_cons, List.length_nil]; omega) | simp) (fun w8 p4 => ?_)
     replace p4 : Mem w8 [⟨.op e9 e7 0, 135, 7, [e6]⟩, ⟨a4, 3, 1, a8⟩, ⟨p7, 3, 1, (a5 ++ g8)⟩, ⟨a3, 87, 2, a7⟩, ⟨.op d9 e0 0, 157, 3, [.agg [a3, p7, a4]]⟩] := p4
     refine bp (cp ?_)
     refine am (wC (J ({ fields := zE102.fields, headers := (zE102.headers ++ ([(ix a1 a0).Header] : List Int)), registers := zE102.registers } : bd) _ _ _ _ _ _ b9 c2 c1 c0 t9 s9 t4 r5 b7 b6 b5 b4 (by first | omega | ((try dsimp only); (try simp only [List.length_append, List.length_cons, List.length_nil]); first | omega | (have hk := bo_v (l := a1) (k := a0) (by assumption) (by omega) (by omega) (by omega); omega) | (have hk := bo_i (l := a1) (k := a0) (by assumption) (by omega) (by omega) (by omega); omega) | (have g5 := bo_v (l := a1) (k := a0) (by assumption) (by omega) (by omega) (by omega); have g6 := bo_i (l := a1) (k := a0) (by assumption) (by omega) (by omega) (by omega); omega))) _ (Mem.sub p4 (.cons_cons _ (.cons_cons _ (.cons_cons _ (.cons_cons _ (.cons_cons _ .slnil)))))) z) rfl)
    ·refine sR (bN dc rfl rfl (mV rfl (nS ?_)))
     refine bm z rfl ?_ ?_ <;> clear z <;> intro c z <;> try simp only [qa] at c
     ·refine aq (gu (df (ae (ba rfl) (dg (df ?_)))))
      obtain ⟨y6, w4, w6⟩ := aj.g_Index e8
      refine ae (br (k := 0) e2 rfl rfl w4) (dg ?_)
      have u4 : Mem n0 [⟨.op d9 e0 0, 157, 3, [.agg [a3, a6, a4]]⟩, ⟨a3, 87, 2, a7⟩, ⟨a6, 3, 1, a5⟩, ⟨a4, 3, 1, a8⟩, ⟨.op e9 e7 0, 135, 7, [e6]⟩] := (Mem.front (k := 4) (Mem.front (k := 3) (Mem.front (k := 2) (Mem.front (k := 1) e2 rfl) rfl) rfl) rfl)
      obtain ⟨m6, n5, z⟩ := bq z
      obtain ⟨x4, x3, s5, n4⟩ := xj (x0 := ({ fields := zE102.fields, headers := zE102.headers, registers := zE102.registers } : bd)) (x1 := ((ix a1 a0).Index)) w6 b9 c2 c1 c0 b3 b2 c5 b8 b7 b6 b5 b4 u4 (by first | (have hk := bo_v (l := a1) (k := a0) (by assumption) (by omega) (by omega) (by omega); omega) | (have hk := bo_i (l := a1) (k := a0) (by assumption) (by omega) (by omega) (by omega); omega) | (have g5 := bo_v (l := a1) (k := a0) (by assumption) (by omega) (by omega) (by omega); have g6 := bo_i (l := a1) (k := a0) (by assumption) (by omega) (by omega) (by omega); omega))
      rw [n5] at n4
      obtain ⟨e4, f2, e3, f3, q7, d8, n3, k3, k9, l2, m1, j3, j1, i8, k0, f0, f1, q1, m0, m9⟩ := n4
      replace m9 := m9.symm; subst m9
      refine ko rfl rfl s5 ?_
      have q2 := nl n5; try dsimp only at q2
      refine mq (am (aw (ae (ba rfl) (ae (br (k := 0) n3 rfl rfl (mk1 (gf (k := 3) n3 rfl f1).2)) (ae (ba rfl) (ae (br (k := 4) n3 rfl rfl (aj.g_Register e8)) (ae (v := .fs true [vi ((ix a1 a0).Register)]) (fd rfl (all_cons rfl iu)) ?_)))))))
      have u3 : (tSl tI).R ([(ix a1 a0).Register] : List Int) (.fs true [vi ((ix a1 a0).Register)]) := mg ⟨rfl, trivial⟩ (by simp)
      obtain ⟨f9, q9, n6⟩ := lb (t := tI) (h := x3) u3
      have r9 : fits (d8.length + f9.length) 8 = true := by rw [All2.length_eq f0, All2.length_eq n6]; (try simp only [List.length_cons, List.length_nil]); exact jl (by first | (have hk := bo_v (l := a1) (k := a0) (by assumption) (by omega) (by omega) (by omega); omega) | (have hk := bo_i (l := a1) (k := a0) (by assumption) (by omega) (by omega) (by omega); omega) | (have g5 := bo_v (l := a1) (k := a0) (by assumption) (by omega) (by omega) (by omega); have g6 := bo_i (l := a1) (k := a0) (by assumption) (by omega) (by omega) (by omega); omega) | omega) (by first | (have hk := bo_v (l := a1) (k := a0) (by assumption) (by omega) (by omega) (by omega); omega) | (have hk := bo_i (l := a1) (k := a0) (by assumption) (by omega) (by omega) (by omega); omega) | (have g5 := bo_v (l := a1) (k := a0) (by assumption) (by omega) (by omega) (by omega); have g6 := bo_i (l := a1) (k := a0) (by assumption) (by omega) (by omega) (by omega); omega) | omega)
      refine jk (k := 3) (es := d8) (news := f9) n3 rfl rfl rfl f1 m0 q9 r9 (fun m8 z5 s7 r7 r2 => ?_)
      have r1 : All2 tI.R (m6.registers ++ ([(ix a1 a0).Register] : List Int)) (d8 ++ f9) := All2.app f0 n6
      have t8 : (m6.registers ++ ([(ix a1 a0).Register] : List Int)).length ≤ 4611686018427387904 := by rw [← All2.length_eq r1, List.length_append]; exact gy r9
      refine ae (ba rfl) ?_
      refine gw (k := 0) (v := m8) r2 rfl rfl rfl (gf (k := 3) r2 rfl s7).1 rfl (by first | decide | (simp only [List.length_cons, List.length_nil]; omega) | simp) (fun q8 p2 => ?_)
      replace p2 : Mem q8 [⟨.op d9 e0 0, 157, 3, [.agg [e4, e3, m8]]⟩, ⟨e4, 87, 2, f2⟩, ⟨e3, 3, 1, f3⟩, ⟨m8, 3, 1, (d8 ++ f9)⟩, ⟨.op e9 e7 0, 135, 7, [e6]⟩] := p2
      refine bp (cp ?_)
      have u0 : Mem q8 [⟨.op e9 e7 0, 135, 7, [e6]⟩, ⟨m8, 3, 1, (d8 ++ f9)⟩, ⟨e3, 3, 1, f3⟩, ⟨e4, 87, 2, f2⟩, ⟨.op d9 e0 0, 157, 3, [.agg [e4, e3, m8]]⟩] := (Mem.front (k := 4) (Mem.front (k := 3) (Mem.front (k := 2) (Mem.front (k := 1) (Mem.front (k := 0) p2 rfl) rfl) rfl) rfl) rfl)
      refine am (wC (J ({ fields := m6.fields, headers := m6.headers, registers := (m6.registers ++ ([(ix a1 a0).Register] : List Int)) } : bd) _ _ _ _ _ _ k3 k9 l2 m1 j3 j1 i8 k0 r1 s7 t8 r7 (by first | omega | ((try dsimp only); (try simp only [List.length_append, List.length_cons, List.length_nil]); first | omega | (have hk := bo_v (l := a1) (k := a0) (by assumption) (by omega) (by omega) (by omega); omega) | (have hk := bo_i (l := a1) (k := a0) (by assumption) (by omega) (by omega) (by omega); omega) | (have g5 := bo_v (l := a1) (k := a0) (by assumption) (by omega) (by omega) (by omega); have g6 := bo_i (l := a1) (k := a0) (by assumption) (by omega) (by omega) (by omega); omega))) _ (Mem.sub u0 (.cons_cons _ (.cons_cons _ (.cons_cons _ (.cons_cons _ (.cons_cons _ .slnil)))))) z) rfl)
     ·refine sR (bN dc rfl rfl (mV rfl (nS ?_)))
      refine bm z rfl ?_ ?_ <;> clear z <;> intro c z <;> try simp only [qa] at c
      ·refine aq (gu (df (ae (ba rfl) (dg (df ?_)))))
       obtain ⟨y3, w5, v0⟩ := aj.g_Index e8
       refine ae (br (k := 0) e2 rfl rfl w5) (dg ?_)
       have v8 : Mem n0 [⟨.op d9 e0 0, 157, 3, [.agg [a3, a6, a4]]⟩, ⟨a3, 87, 2, a7⟩, ⟨a6, 3, 1, a5⟩, ⟨a4, 3, 1, a8⟩, ⟨.op e9 e7 0, 135, 7, [e6]⟩] := (Mem.front (k := 4) (Mem.front (k := 3) (Mem.front (k := 2) (Mem.front (k := 1) e2 rfl) rfl) rfl) rfl)
       obtain ⟨p6, o7, z⟩ := bq z
       obtain ⟨x5, v3, t3, o3⟩ := xj (x0 := ({ fields := zE102.fields, headers := zE102.headers, registers := zE102.registers } : bd)) (x1 := ((ix a1 a0).Index)) v0 b9 c2 c1 c0 b3 b2 c5 b8 b7 b6 b5 b4 v8 (by first | (have hk := bo_v (l := a1) (k := a0) (by assumption) (by omega) (by omega) (by omega); omega) | (have hk := bo_i (l := a1) (k := a0) (by assumption) (by omega) (by omega) (by omega); omega) | (have g5 := bo_v (l := a1) (k := a0) (by assumption) (by omega) (by omega) (by omega); have g6 := bo_i (l := a1) (k := a0) (by assumption) (by omega) (by omega) (by omega); omega))
       rw [o7] at o3
       obtain ⟨g2, i1, f5, l1, f4, h4, s6, i5, i7, k8, j8, j2, k6, i2, h6, l6, j4, h0, j5, m7⟩ := o3
       replace m7 := m7.symm; subst m7
       refine ko rfl rfl t3 ?_
       have t6 := nl o7; try dsimp only at t6
       refine mq (am (gu (df (ae (ba rfl) (dg (df ?_))))))
       obtain ⟨y5, u1, v6⟩ := aj.g_Value e8
       refine ae (br (k := 4) s6 rfl rfl u1) (dg ?_)
       have w0 : Mem v3 [⟨.op d9 e0 0, 157, 3, [.agg [g2, f5, f4]]⟩, ⟨g2, 87, 2, i1⟩, ⟨f5, 3, 1, l1⟩, ⟨f4, 3, 1, h4⟩, ⟨.op e9 e7 0, 135, 7, [e6]⟩] := (Mem.front (k := 3) (Mem.front (k := 3) (Mem.front (k := 3) (Mem.front (k := 3) s6 rfl) rfl) rfl) rfl)
       obtain ⟨p1, o1, z⟩ := bq z
       obtain ⟨y1, w3, q4, o2⟩ := xj (x0 := ({ fields := p6.fields, headers := p6.headers, registers := p6.registers } : bd)) (x1 := ((ix a1 a0).Value)) v6 i5 i7 k8 j8 j2 k6 i2 h6 l6 j4 h0 j5 w0 (by first | (have hk := bo_v (l := a1) (k := a0) (by assumption) (by omega) (by omega) (by omega); omega) | (have hk := bo_i (l := a1) (k := a0) (by assumption) (by omega) (by omega) (by omega); omega) | (have g5 := bo_v (l := a1) (k := a0) (by assumption) (by omega) (by omega) (by omega); have g6 := bo_i (l := a1) (k := a0) (by assumption) (by omega) (by omega) (by omega); omega))
       rw [o1] at o2
       obtain ⟨f6, j6, f7, j7, g3, m3, v1, l3, i6, h2, h1, h8, j9, l0, l9, k4, i4, l5, m4, n2⟩ := o2
       replace n2 := n2.symm; subst n2
       refine ko rfl rfl q4 ?_
       have t5 := nl o1; try dsimp only at t5
       refine mq (cp ?_)
       have s1 : Mem w3 [⟨.op e9 e7 0, 135, 7, [e6]⟩, ⟨g3, 3, 1, m3⟩, ⟨f7, 3, 1, j7⟩, ⟨f6, 87, 2, j6⟩, ⟨.op d9 e0 0, 157, 3, [.agg [f6, f7, g3]]⟩] := (Mem.front (k := 4) (Mem.front (k := 3) (Mem.front (k := 2) (Mem.front (k := 1) (Mem.front (k := 0) v1 rfl) rfl) rfl) rfl) rfl)
       refine am (wC (J ({ fields := p1.fields, headers := p1.headers, registers := p1.registers } : bd) _ _ _ _ _ _ l3 i6 h2 h1 h8 j9 l0 l9 k4 i4 l5 m4 (by first | omega | ((try dsimp only); (try simp only [List.length_append, List.length_cons, List.length_nil]); first | omega | (have hk := bo_v (l := a1) (k := a0) (by assumption) (by omega) (by omega) (by omega); omega) | (have hk := bo_i (l := a1) (k := a0) (by assumption) (by omega) (by omega) (by omega); omega) | (have g5 := bo_v (l := a1) (k := a0) (by assumption) (by omega) (by omega) (by omega); have g6 := bo_i (l := a1) (k := a0) (by assumption) (by omega) (by omega) (by omega); omega))) _ (Mem.sub s1 (.cons_cons _ (.cons_cons _ (.cons_cons _ (.cons_cons _ (.cons_cons _ .slnil)))))) z) rfl)
      ·refine ax (cp ?_)
       refine am (wC (J ({ fields := zE102.fields, headers := zE102.headers, registers := zE102.registers } : bd) _ _ _ _ _ _ b9 c2 c1 c0 b3 b2 c5 b8 b7 b6 b5 b4 (by first | omega | ((try dsimp only); (try simp only [List.length_append, List.length_cons, List.length_nil]); first | omega | (have hk := bo_v (l := a1) (k := a0) (by assumption) (by omega) (by omega) (by omega); omega) | (have hk := bo_i (l := a1) (k := a0) (by assumption) (by omega) (by omega) (by omega); omega) | (have g5 := bo_v (l := a1) (k := a0) (by assumption) (by omega) (by omega) (by omega); have g6 := bo_i (l := a1) (k := a0) (by assumption) (by omega) (by omega) (by omega); omega))) _ (Mem.sub e2 (.cons_cons _ (.cons_cons _ (.cons_cons _ (.cons_cons _ (.cons_cons _ .slnil)))))) z) rfl)

theorem co1 {x0 : af} {x1 : Int} {v0 : PV} (r0 : af.t.R x0 v0) : ∃ c0, ∃ c1, ∃ c2, FnR Tryz.prog 37 [v0, vi x1] (.tup [c0, c1, c2]) ∧ (tSl aa.t).R (lg x0 x1).1 c0 ∧ (tSl tI).R (lg x0 x1).2.1 c1 ∧ (tSl tI).R (lg x0 x1).2.2 c2 := by
 obtain ⟨n, z⟩ : ∃ n, lg x0 x1 = n := ⟨_, rfl⟩
 suffices H : RC Tryz.prog ck7 [] (QR Tryz.prog [(4, none), (5, none), (6, none)] (RF37 n)) (argE 0 [v0, vi x1]) ⟨0, []⟩ by
  rw [z]
  obtain ⟨r, h1, c0, c1, c2, rfl, h4, h5, h7⟩ := fnE bl2 (by simp) H
  exact ⟨c0, c1, c2, h1, h4, h5, h7⟩
 unfold lg at z
 refine sR (ae (ej rfl (TR.cnt af.t r0)) (ae (v := nilS) (av rfl) (ae (v := nilS) (av rfl) (ae (v := nilS) (av rfl) (nR ?_)))))
 refine gh (x := .agg [nilS, nilS, nilS]) (Mem.nil ⟨0, []⟩) rfl rfl (fun f4 f6 h2 g7 => ?_)
 refine nS (aq (sR (lD r0 rfl rfl rfl (mV rfl ?_))))
 obtain ⟨d6, b9, z⟩ := bq z
 obtain ⟨h3, g8, d4⟩ := aw5 (x1 := x1) r0 
 rw [b9] at d4
 have d9 : BO x0 d6 := vv b9
 have d7 : d6.length ≤ 12 := (vv b9).1
 refine cL g8 rfl rfl (ak (TR.clo af.t r0) (ak rfl bc)) (ae (cv rfl (cm d4 Tryz.underlying95 _)) (mI rfl (nS (bh ?_))))
 have g5 := nu (sz := 2) (es := []) g7 87 (.inl ⟨none, rfl, rfl⟩) (by simp)
 have f8 := nu (sz := 1) (es := []) g5 3 (.inl ⟨none, rfl, rfl⟩) (by simp)
 have g3 := nu (sz := 1) (es := []) f8 3 (.inl ⟨none, rfl, rfl⟩) (by simp)
 refine wC (ua b9 d4 d9 d7 ?_  (zE102 := ({ fields := ([] : List aa), headers := ([] : List Int), registers := ([] : List Int) } : bd)) aL rfl (by first | decide | simp) (.inl rfl) aL rfl (by first | decide | simp) (.inl rfl) aL rfl (by first | decide | simp) (.inl rfl) rfl (by omega) (by first | omega | ((try dsimp only); (try simp only [List.length_append, List.length_cons, List.length_nil]); omega) | simp) (by first | omega | ((try dsimp only); (try simp only [List.length_append, List.length_cons, List.length_nil]); omega) | simp) (by first | omega | ((try dsimp only); (try simp only [List.length_append, List.length_cons, List.length_nil]); omega) | simp) (by first | omega | ((try dsimp only); (try simp only [List.length_append, List.length_cons, List.length_nil]); omega) | simp) (Mem.sub g3 (.cons_cons _ (.cons_cons _ (.cons_cons _ (.cons_cons _ .slnil))))) z) rfl
 ·intro a0 a3 b1 a2 a6 a1 b2 b8 a5 a7 a8 b5 b0 a4 b3 b4 b7 a9 b6 f0 f9 g6 z
  refine fx (am (aq (gu ?_)))
  have g4 : Mem f9 [⟨.op f4 f6 0, 157, 3, [.agg [a3, a2, a1]]⟩, ⟨a3, 87, 2, b1⟩, ⟨a2, 3, 1, a6⟩, ⟨a1, 3, 1, b2⟩] := (Mem.front (k := 3) (Mem.front (k := 2) (Mem.front (k := 1) (Mem.front (k := 0) g6 rfl) rfl) rfl) rfl)
  obtain ⟨h8, e2, z⟩ := bq z
  obtain ⟨h0, h6, e3, d3⟩ := au5 (x0 := ({ fields := a0.fields, headers := a0.headers, registers := a0.registers } : bd)) b8 a5 a7 a8 b5 b0 a4 b3 b4 b7 a9 b6 g4 (by first | omega | ((try dsimp only); (try simp only [List.length_append, List.length_cons, List.length_nil]); omega) | simp)
  rw [e2] at d3
  obtain ⟨f2, e9, f3, e8, e4, e5, d5, c6, c4, d2, e6, c5, c8, c9, e7, c7, d0, d1, f1, c3⟩ := d3
  replace c3 := c3.symm; subst c3
  refine ko rfl rfl e3 (df (xT rfl rfl (dg (df (xT rfl rfl (dg (df (xT rfl rfl ?_))))))))
  refine dg (df (mV rfl (dg (df (mV rfl (dg (df (mV rfl ?_))))))))
  refine dg (mq (am ?_))
  obtain ⟨f5, e1, g0⟩ := ob (P := Tryz.prog) (k := 0) (t := aa.t) d5 rfl c4 c6 (Nat.le_trans d2 (by decide))
  obtain ⟨g2, d8, g9⟩ := ob (P := Tryz.prog) (k := 1) (t := tI) d5 rfl c8 c5 (Nat.le_trans c9 (by decide))
  obtain ⟨g1, e0, f7⟩ := ob (P := Tryz.prog) (k := 2) (t := tI) d5 rfl d0 c7 (Nat.le_trans d1 (by decide))
  subst z
  exact gm (.tmp rfl (.tmp rfl (.tmp rfl .nil))) (al3 (pr e1 (pr d8 (pr e0 an9))) (ak e1.1 (ak d8.1 (ak e0.1 bc)))) ⟨f5, g2, g1, rfl, g0, g9, f7⟩

def RF180 (n : Bool) (r : PV) : Prop := r = vb n
theorem bu6 {x0 : aa} {x1 : aa} {v0 v1 : PV} (r0 : aa.t.R x0 v0) (r1 : aa.t.R x1 v1) : FnR Tryz.prog 180 [v0, v1] (vb (gi x0 x1)) := by
 refine fnS (R := RF180) cg1 (fun _ h => h) rfl fun n z => ?_
 unfold gi at z
 refine sR (ae (ej rfl (TR.cnt aa.t r0)) (ae (ej rfl (TR.cnt aa.t r1)) (mB rfl (nR (fL rfl (aa.g_Header r0) rfl rfl (fL rfl (aa.g_Header r1) rfl rfl (bN cn rfl rfl (mV rfl ?_))))))))
 refine bw 13 (d := 23) (v := vb ((decide (x0.Header < x1.Header)) || ((decide (x0.Header = x1.Header)) && (decide (x0.Field < x1.Field))))) ?_ ?_
 ·intro S Q r
  cases a2 : (decide (x0.Header < x1.Header))
  ·intro k
   have a0 := a2
   try simp only [qa] at a0
   refine ai rfl rfl (cg rfl (aa.g_Header r0)) (ai rfl rfl (ca rfl rfl rfl) (ai rfl rfl (cg rfl (aa.g_Header r1)) (ai rfl rfl (ca rfl rfl rfl) (ai rfl rfl (bv rfl rfl dc) (ai rfl rfl (av rfl) ?_)))))
   refine bw 6 (d := 22) (v := vb ((decide (x0.Header = x1.Header)) && (decide (x0.Field < x1.Field)))) ?_ ?_
   ·intro S Q r
    cases a3 : (decide (x0.Header = x1.Header))
    ·intro k
     refine iv rfl rfl (iv rfl rfl (iv rfl rfl (iv rfl rfl (iv rfl rfl (ai (v := vb false) rfl rfl (mw rfl rfl rfl rfl) ?_)))))
     exact wD k rfl
    ·intro k
     have a1 := a3
     try simp only [qa] at a1
     refine ai rfl rfl (cg rfl (aa.g_Field r0)) (ai rfl rfl (ca rfl rfl rfl) (ai rfl rfl (cg rfl (aa.g_Field r1)) (ai rfl rfl (ca rfl rfl rfl) (ai rfl rfl (bv rfl rfl cn) (ai (v := vb (decide (x0.Field < x1.Field))) rfl rfl (mw rfl rfl rfl rfl) ?_)))))
     exact wD k rfl
   exact gK rfl rfl rfl rfl rfl k
  ·exact gN 12 rfl rfl rfl rfl rfl rfl
 refine mV rfl (nS ?_)
 exact rR z rfl rfl rfl

def RF113 (n : (List aa)) (r : PV) : Prop := (tSl aa.t).R n r
theorem ru {S : List Fr} {n : (List aa)} {x0 : List aa} {x1 : aa} {v0 v1 : PV} (r0 : (tSl aa.t).R x0 v0) (r1 : aa.t.R x1 v1) (hb : x0.length ≤ 100000) {K0 : Bool → (List aa) → (List aa)}
  (h4 : ∀ {b1 : Bool} {zE102 : List aa} {a0 : List PV} {a1 : PV} (a2 : All2 aa.t.R zE102 a0) (a5 : isL a1 = true) (a3 : Wri a1 a0) (a7 : zE102.length ≤ 4611686018427387904) (h9 : zE102.length ≤ 200000) {h : Heap} (M0 : Mem h [⟨a1, 87, 2, a0⟩]), K0 b1 zE102 = n → PX Tryz.prog 0 S (QR Tryz.prog [(4, none)] (RF113 n)) [(3, .fp v1), (5, a1), (6, vb b1)] h) :
  ∀ {m : Nat} {b1 : Bool} {a4 : Int} {zE102 : List aa} {a0 : List PV} {a1 : PV} (a2 : All2 aa.t.R zE102 a0) (a5 : isL a1 = true) (a3 : Wri a1 a0) (a7 : zE102.length ≤ 4611686018427387904) (g7 : m = Int.toNat ((x0.length : Int) - a4)) (d6 : 0 ≤ a4) (b6 : (zE102.length : Int) ≤ 2 * a4) (b5 : a4 ≤ (x0.length : Int)) {h : Heap} (M0 : Mem h [⟨a1, 87, 2, a0⟩]), dt x0 x1 K0 m b1 a4 zE102 = n → RC Tryz.prog (.loop bk5) S (QR Tryz.prog [(4, none)] (RF113 n)) [(7, vi a4), (6, vb b1), (5, a1), (3, .fp v1), (0, v0)] h := by
 have hb' := hb
 try simp only [qa] at hb'
 intro m
 induction m with
 | zero =>
  intro b1 a4 zE102 a0 a1 a2 a5 a3 a7 g7 d6 b6 b5 h M0 z
  rw [dt] at z
  refine cj (aq (sR (mV rfl (mV rfl (ae (cv rfl (cm r0 Tryz.underlying75 _)) (bN cn rfl rfl (nS ?_)))))))
  refine cb rfl ?_ ?_ <;> intro c <;> try simp only [qa] at c
  ·omega
  refine dw (fj (dl ?_))
  exact wP (h4 a2 a5 a3 a7 (by omega) (Mem.sub M0 (.cons_cons _ .slnil)) z) rfl
 | succ m ih =>
  intro b1 a4 zE102 a0 a1 a2 a5 a3 a7 g7 d6 b6 b5 h M0 z
  rw [dt] at z
  refine cj (aq (sR (mV rfl (mV rfl (ae (cv rfl (cm r0 Tryz.underlying75 _)) (bN cn rfl rfl (nS ?_)))))))
  refine cb rfl ?_ ?_ <;> intro c <;> try simp only [qa] at c
  rotate_left
  ·omega
  refine ax (am (aq (bh (aq (sR (mV rfl (ae (jp rfl) (mV rfl ?_))))))))
  refine bw 8 (d := 24) (v := vb ((!b1) && (!(gi (ix x0 a4) x1)))) ?_ ?_
  ·intro S Q r
   cases d9 : (!b1)
   ·exact gN 7 rfl rfl rfl rfl rfl rfl
   ·intro k
    have c1 := d9
    try simp only [qa] at c1
    refine ai rfl rfl (av rfl) (ai rfl rfl (av rfl) ?_)
    obtain ⟨h6, g0, b2⟩ := cz (i := a4) r0 (by omega) (by omega)
    refine ai rfl rfl (bf rfl rfl g0) (ai rfl rfl (ca rfl (TR.cnt aa.t b2) (TR.agg aa.t b2)) (ai rfl rfl (ca rfl (TR.cnt aa.t r1) (TR.agg aa.t r1)) ?_))
    have f9 := bu6  b2 r1 
    refine jm rfl rfl (nw rfl rfl (ak (TR.clo aa.t b2) (ak (TR.clo aa.t r1) bc)) f9) (ai rfl rfl (jp rfl) ?_)
    exact gK rfl rfl rfl rfl rfl k
  refine nS ?_
  refine bm z rfl ?_ ?_ <;> clear z <;> intro c z <;> try simp only [qa] at c
  ·refine sR (mB rfl (nR (mV rfl (mV rfl ?_))))
   obtain ⟨h7, f2, e7⟩ := cz (i := a4) r0 (by omega) (by omega)
   refine ae (bf rfl rfl f2) (lD e7 rfl rfl rfl (lD r1 rfl rfl rfl (bN (aa.neq_87 e7 r1) rfl rfl (nS ?_))))
   refine bm z rfl ?_ ?_ <;> clear z <;> intro c z <;> try simp only [qa] at c
   ·refine aw (mV rfl (lD r1 rfl rfl rfl (ae (v := .fs true [v1]) (fd rfl (all_cons (TR.cnt aa.t r1) iu)) ?_)))
    have f7 : (tSl aa.t).R ([x1] : List aa) (.fs true [v1]) := mg ⟨r1, trivial⟩ (by simp)
    obtain ⟨a6, d3, b3⟩ := lb (t := aa.t) (h := h) f7
    have e0 : fits (a0.length + a6.length) 16 = true := by rw [All2.length_eq a2, All2.length_eq b3]; (try simp only [List.length_cons, List.length_nil]); exact jl (by first | omega | (simp only [List.length_append, List.length_cons, List.length_nil]; omega)) (by first | omega | (simp only [List.length_append, List.length_cons, List.length_nil]; omega))
    refine jk (k := 0) (es := a0) (news := a6) M0 rfl rfl rfl a5 a3 d3 e0 (fun g9 f1 e9 e2 f0 => ?_)
    have b9 : All2 aa.t.R (zE102 ++ ([x1] : List aa)) (a0 ++ a6) := All2.app a2 b3
    have g8 : (zE102 ++ ([x1] : List aa)).length ≤ 4611686018427387904 := by rw [← All2.length_eq b9, List.length_append]; exact gy e0
    refine mV rfl (nS (aw (mV rfl (mV rfl (mV rfl ?_)))))
    obtain ⟨d2, g1, c2⟩ := cz (i := a4) r0 (by omega) (by omega)
    refine ae (bf rfl rfl g1) (lD c2 rfl rfl rfl (ae (v := .fs true [d2]) (fd rfl (all_cons (TR.cnt aa.t c2) iu)) ?_))
    have e8 : (tSl aa.t).R ([(ix x0 a4)] : List aa) (.fs true [d2]) := mg ⟨c2, trivial⟩ (by simp)
    obtain ⟨b0, c4, b8⟩ := lb (t := aa.t) (h := f1) e8
    have c9 : fits ((a0 ++ a6).length + b0.length) 16 = true := by rw [All2.length_eq b9, All2.length_eq b8]; (try simp only [List.length_cons, List.length_nil]); exact jl (by first | omega | (simp only [List.length_append, List.length_cons, List.length_nil]; omega)) (by first | omega | (simp only [List.length_append, List.length_cons, List.length_nil]; omega))
    refine jk (k := 0) (es := (a0 ++ a6)) (news := b0) f0 rfl rfl rfl e9 e2 c4 c9 (fun h0 h3 g5 c6 f5 => ?_)
    have d1 : All2 aa.t.R ((zE102 ++ ([x1] : List aa)) ++ ([(ix x0 a4)] : List aa)) ((a0 ++ a6) ++ b0) := All2.app b9 b8
    have d7 : ((zE102 ++ ([x1] : List aa)) ++ ([(ix x0 a4)] : List aa)).length ≤ 4611686018427387904 := by rw [← All2.length_eq d1, List.length_append]; exact gy c9
    refine mV rfl (bp (cp (am (aw (mV rfl (bN em rfl rfl (mV rfl (bp ?_))))))))
    refine cq ?_
    have s := db r0
    have o : wr (a4 + 1) = a4 + 1 := de (by omega) (by omega)
    erw [o]
    exact wC (ih  d1 g5 c6 d7 (by omega) (by omega) (by first | omega | (simp only [List.length_append, List.length_cons, List.length_nil]; omega)) (by first | omega | (simp only [List.length_append, List.length_cons, List.length_nil]; omega)) (Mem.sub f5 (.cons_cons _ .slnil)) z) rfl
   ·refine ax (am (aw (mV rfl (mV rfl (mV rfl ?_)))))
    obtain ⟨d0, f6, c3⟩ := cz (i := a4) r0 (by omega) (by omega)
    refine ae (bf rfl rfl f6) (lD c3 rfl rfl rfl (ae (v := .fs true [d0]) (fd rfl (all_cons (TR.cnt aa.t c3) iu)) ?_))
    have f4 : (tSl aa.t).R ([(ix x0 a4)] : List aa) (.fs true [d0]) := mg ⟨c3, trivial⟩ (by simp)
    obtain ⟨a8, e4, b4⟩ := lb (t := aa.t) (h := h) f4
    have e3 : fits (a0.length + a8.length) 16 = true := by rw [All2.length_eq a2, All2.length_eq b4]; (try simp only [List.length_cons, List.length_nil]); exact jl (by first | omega | (simp only [List.length_append, List.length_cons, List.length_nil]; omega)) (by first | omega | (simp only [List.length_append, List.length_cons, List.length_nil]; omega))
    refine jk (k := 0) (es := a0) (news := a8) M0 rfl rfl rfl a5 a3 e4 e3 (fun h2 h8 g2 e5 g4 => ?_)
    have c5 : All2 aa.t.R (zE102 ++ ([(ix x0 a4)] : List aa)) (a0 ++ a8) := All2.app a2 b4
    have c7 : (zE102 ++ ([(ix x0 a4)] : List aa)).length ≤ 4611686018427387904 := by rw [← All2.length_eq c5, List.length_append]; exact gy e3
    refine mV rfl (bp (cp (am (aw (mV rfl (bN em rfl rfl (mV rfl (bp ?_))))))))
    refine cq ?_
    have s := db r0
    have o : wr (a4 + 1) = a4 + 1 := de (by omega) (by omega)
    erw [o]
    exact wC (ih  c5 g2 e5 c7 (by omega) (by omega) (by first | omega | (simp only [List.length_append, List.length_cons, List.length_nil]; omega)) (by first | omega | (simp only [List.length_append, List.length_cons, List.length_nil]; omega)) (Mem.sub g4 (.cons_cons _ .slnil)) z) rfl
  ·refine ax (am (aw (mV rfl (mV rfl (mV rfl ?_)))))
   obtain ⟨d8, f3, c0⟩ := cz (i := a4) r0 (by omega) (by omega)
   refine ae (bf rfl rfl f3) (lD c0 rfl rfl rfl (ae (v := .fs true [d8]) (fd rfl (all_cons (TR.cnt aa.t c0) iu)) ?_))
   have g3 : (tSl aa.t).R ([(ix x0 a4)] : List aa) (.fs true [d8]) := mg ⟨c0, trivial⟩ (by simp)
   obtain ⟨a9, e1, b7⟩ := lb (t := aa.t) (h := h) g3
   have e6 : fits (a0.length + a9.length) 16 = true := by rw [All2.length_eq a2, All2.length_eq b7]; (try simp only [List.length_cons, List.length_nil]); exact jl (by first | omega | (simp only [List.length_append, List.length_cons, List.length_nil]; omega)) (by first | omega | (simp only [List.length_append, List.length_cons, List.length_nil]; omega))
   refine jk (k := 0) (es := a0) (news := a9) M0 rfl rfl rfl a5 a3 e1 e6 (fun h1 h5 f8 d5 g6 => ?_)
   have d4 : All2 aa.t.R (zE102 ++ ([(ix x0 a4)] : List aa)) (a0 ++ a9) := All2.app a2 b7
   have c8 : (zE102 ++ ([(ix x0 a4)] : List aa)).length ≤ 4611686018427387904 := by rw [← All2.length_eq d4, List.length_append]; exact gy e6
   refine mV rfl (bp (cp (am (aw (mV rfl (bN em rfl rfl (mV rfl (bp ?_))))))))
   refine cq ?_
   have s := db r0
   have o : wr (a4 + 1) = a4 + 1 := de (by omega) (by omega)
   erw [o]
   exact wC (ih  d4 f8 d5 c8 (by omega) (by omega) (by first | omega | (simp only [List.length_append, List.length_cons, List.length_nil]; omega)) (by first | omega | (simp only [List.length_append, List.length_cons, List.length_nil]; omega)) (Mem.sub g6 (.cons_cons _ .slnil)) z) rfl

theorem xm {x0 : List aa} {x1 : aa} {v0 v1 : PV} (r0 : (tSl aa.t).R x0 v0) (r1 : aa.t.R x1 v1) (hb : x0.length ≤ 100000) : ∃ r, FnR Tryz.prog 113 [v0, v1] r ∧ (tSl aa.t).R (ia x0 x1) r := by
 refine fnT (R := RF113) cb7 rfl fun n z => ?_
 unfold ia at z
 refine sR (ae (ej rfl (TR.cnt aa.t r1)) (ae (v := nilS) (av rfl) (nR (ae (v := nilS) (av rfl) (nR (mB rfl (nS (aq ?_))))))))
 refine sR (mI rfl (nS (bh ?_)))
 have c2 := nu (sz := 2) (es := []) (Mem.nil ⟨0, []⟩) 87 (.inl ⟨none, rfl, rfl⟩) (by simp)
 refine wC (ru r0 r1 hb ?_  aL rfl (.inl rfl) (by first | decide | simp) rfl (by omega) (by first | omega | simp) (by first | omega | simp) (Mem.sub c2 (.cons_cons _ .slnil)) z) rfl
 ·intro b6 a2 a0 a8 a1 a3 a5 a4 b4 b9 b2 z
  refine fx (am (aq (sR (mV rfl (ae (jp rfl) (nS ?_))))))
  refine bm z rfl ?_ ?_ <;> clear z <;> intro c z <;> try simp only [qa] at c
  ·refine aw (mV rfl (lD r1 rfl rfl rfl (ae (v := .fs true [v1]) (fd rfl (all_cons (TR.cnt aa.t r1) iu)) ?_)))
   have b5 : (tSl aa.t).R ([x1] : List aa) (.fs true [v1]) := mg ⟨r1, trivial⟩ (by simp)
   obtain ⟨a6, b1, a7⟩ := lb (t := aa.t) (h := b9) b5
   have a9 : fits (a0.length + a6.length) 16 = true := by rw [All2.length_eq a1, All2.length_eq a7]; (try simp only [List.length_cons, List.length_nil]); exact jl (by first | omega | (simp only [List.length_append, List.length_cons, List.length_nil]; omega)) (by first | omega | (simp only [List.length_append, List.length_cons, List.length_nil]; omega))
   refine jk (k := 0) (es := a0) (news := a6) b2 rfl rfl rfl a3 a5 b1 a9 (fun c7 c9 b7 c5 c4 => ?_)
   have b3 : All2 aa.t.R (a2 ++ ([x1] : List aa)) (a0 ++ a6) := All2.app a1 a7
   have b0 : (a2 ++ ([x1] : List aa)).length ≤ 4611686018427387904 := by rw [← All2.length_eq b3, List.length_append]; exact gy a9
   refine mV rfl (nR (mV rfl (mV rfl (nS ?_))))
   obtain ⟨c8, c0, b8⟩ := ob (P := Tryz.prog) (k := 0) (t := aa.t) c4 rfl b7 b3 (Nat.le_trans b0 (by decide))
   subst z
   exact gm (.tmp rfl .nil) c0 b8
  ·refine ax (am (sR (mV rfl (mV rfl (nS ?_)))))
   obtain ⟨c6, c1, c3⟩ := ob (P := Tryz.prog) (k := 0) (t := aa.t) b2 rfl a3 a1 (Nat.le_trans a4 (by decide))
   subst z
   exact gm (.tmp rfl .nil) c1 c3

def RF71 (n : (List aa)) (r : PV) : Prop := (tSl aa.t).R n r
theorem ui {S : List Fr} {n : (List aa)} {x0 : List ab} {v0 : PV} (r0 : (tSl ab.t).R x0 v0) (hb : x0.length ≤ 1000) {K0 : (List aa) → (List aa)}
  (b7 : ∀ {a3 : List aa} {a5 : PV} (a4 : (tSl aa.t).R a3 a5), K0 a3 = n → PX Tryz.prog 0 S (QR Tryz.prog [(2, none)] (RF71 n)) [(3, a5)] ⟨0, []⟩) :
  ∀ {m : Nat} {a3 : List aa} {a0 : Int} {a5 : PV} (a4 : (tSl aa.t).R a3 a5) (b6 : m = Int.toNat ((x0.length : Int) - a0)) (a7 : 0 ≤ a0) (a2 : (a3.length : Int) ≤ a0), ie x0 K0 m a3 a0 = n → RC Tryz.prog (.loop bx8) S (QR Tryz.prog [(2, none)] (RF71 n)) [(4, vi a0), (3, a5), (0, v0)] ⟨0, []⟩ := by
 have hb' := hb
 try simp only [qa] at hb'
 intro m
 induction m with
 | zero =>
  intro a3 a0 a5 a4 b6 a7 a2 z
  rw [ie] at z
  refine cj (aq (sR (mV rfl (mV rfl (ae (cv rfl (cm r0 Tryz.underlying32 _)) (bN cn rfl rfl (nS ?_)))))))
  refine cb rfl ?_ ?_ <;> intro c <;> try simp only [qa] at c
  ·omega
  refine dw (fj (dl ?_))
  exact wP (b7 a4 z) rfl
 | succ m ih =>
  intro a3 a0 a5 a4 b6 a7 a2 z
  rw [ie] at z
  refine cj (aq (sR (mV rfl (mV rfl (ae (cv rfl (cm r0 Tryz.underlying32 _)) (bN cn rfl rfl (nS ?_)))))))
  refine cb rfl ?_ ?_ <;> intro c <;> try simp only [qa] at c
  rotate_left
  ·omega
  refine ax (am (aq (bh (sR (mV rfl (mV rfl ?_))))))
  obtain ⟨b9, b3, b4⟩ := cz (i := a0) r0 (by omega) (by omega)
  refine ae (bf rfl rfl b3) (fL rfl (ab.g_Op b4) rfl rfl (bN dc rfl rfl (nS ?_)))
  refine bm z rfl ?_ ?_ <;> clear z <;> intro c z <;> try simp only [qa] at c
  ·refine aw (mV rfl (mV rfl (mV rfl ?_)))
   obtain ⟨c1, a8, b0⟩ := cz (i := a0) r0 (by omega) (by omega)
   refine ae (bf rfl rfl a8) (fL rfl (ab.g_N b0) rfl rfl (mV rfl (mV rfl ?_)))
   obtain ⟨c0, b2, a9⟩ := cz (i := a0) r0 (by omega) (by omega)
   refine ae (bf rfl rfl b2) (fL rfl (ab.g_W a9) rfl rfl (ae (v := .agg [vi ((ix x0 a0).N), vi ((ix x0 a0).W)]) (me (cs := [vi ((ix x0 a0).N), vi ((ix x0 a0).W)]) rfl rfl) ?_))
   obtain ⟨c2, a1, z⟩ := bq z
   obtain ⟨b8, b1, a6⟩ := xm  a4 (show aa.t.R ({ Header := (ix x0 a0).N, Field := (ix x0 a0).W } : aa) (.agg [vi ((ix x0 a0).N), vi ((ix x0 a0).W)]) from rfl) (by first | assumption | omega | (rw [de (by omega) (by omega)]; omega))
   rw [a1] at a6
   have b5 := AddField_len a1
   refine cL b1 rfl rfl (ak (TR.clo (tSl aa.t) a4) (ak (TR.clo aa.t (show aa.t.R ({ Header := (ix x0 a0).N, Field := (ix x0 a0).W } : aa) (.agg [vi ((ix x0 a0).N), vi ((ix x0 a0).W)]) from rfl)) bc)) (mV rfl (bp (cp (am (aw (mV rfl (bN em rfl rfl (mV rfl ?_))))))))
   refine bp (cq ?_)
   have s := db r0
   have o : wr (a0 + 1) = a0 + 1 := de (by omega) (by omega)
   erw [o]
   exact wC (ih  a6 (by omega) (by omega) (by first | omega | (simp; done) | (simp only [List.length_append, List.length_cons, List.length_nil, List.length_set]; omega)) z) rfl
  ·refine ax (cp (am (aw (mV rfl (bN em rfl rfl (mV rfl (bp (cq ?_))))))))
   have s := db r0
   have o : wr (a0 + 1) = a0 + 1 := de (by omega) (by omega)
   erw [o]
   exact wC (ih  a4 (by omega) (by omega) (by first | omega | (simp; done) | (simp only [List.length_append, List.length_cons, List.length_nil, List.length_set]; omega)) z) rfl

theorem cp5 {x0 : List ab} {v0 : PV} (r0 : (tSl ab.t).R x0 v0) (hb : x0.length ≤ 1000) : ∃ r, FnR Tryz.prog 71 [v0] r ∧ (tSl aa.t).R (lf x0) r := by
 refine fnT (R := RF71) cr1 rfl fun n z => ?_
 unfold lf at z
 refine sR (ae (v := nilS) (av rfl) (nR (ae (v := nilS) (av rfl) (nS (aq (sR (mI rfl (nS ?_))))))))
 refine bh ?_
 refine wC (ui r0 hb ?_  jx rfl (by omega) (by simp) z) rfl
 ·intro a2 a1 a0 z
  refine fx (am (sR (mV rfl (mV rfl (nS ?_)))))
  exact rR z rfl (TR.clo (tSl aa.t) a0) a0

end Go.Proofs.YtmonnlkagniolaaGreat
