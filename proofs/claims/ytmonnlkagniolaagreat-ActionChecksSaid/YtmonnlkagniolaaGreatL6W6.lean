/-
 The code of each function does what its plain program says.
-/
import Derived.Test.YtmonnlkagniolaaGreatL6W5
set_option linter.unusedVariables false
set_option linter.unusedSimpArgs false
set_option maxRecDepth 100000
namespace Go.Proofs.YtmonnlkagniolaaGreat
open Go Go.Pb Go.RowKit
def RF112 (n : (List Int)) (r : PV) : Prop := (tSl tI).R n r
theorem tm {S : List Fr} {n : (List Int)} {x0 : List Int} {x1 : Int} {v0 : PV} (r0 : (tSl tI).R x0 v0) (hb : x0.length ≤ 100000) {K0 : Bool → (List Int) → (List Int)}
  (g0 : ∀ {b1 : Bool} {zE102 : List Int} {a0 : List PV} {a1 : PV} (a2 : All2 tI.R zE102 a0) (a5 : isL a1 = true) (a3 : Wri a1 a0) (a7 : zE102.length ≤ 4611686018427387904) (g3 : zE102.length ≤ 200000) {h : Heap} (M0 : Mem h [⟨a1, 3, 1, a0⟩]), K0 b1 zE102 = n → PX Tryz.prog 0 S (QR Tryz.prog [(4, none)] (RF112 n)) [(1, vi x1), (5, a1), (6, vb b1)] h) :
  ∀ {m : Nat} {b1 : Bool} {a4 : Int} {zE102 : List Int} {a0 : List PV} {a1 : PV} (a2 : All2 tI.R zE102 a0) (a5 : isL a1 = true) (a3 : Wri a1 a0) (a7 : zE102.length ≤ 4611686018427387904) (f3 : m = Int.toNat ((x0.length : Int) - a4)) (d2 : 0 ≤ a4) (b6 : (zE102.length : Int) ≤ 2 * a4) (b4 : a4 ≤ (x0.length : Int)) {h : Heap} (M0 : Mem h [⟨a1, 3, 1, a0⟩]), en x0 x1 K0 m b1 a4 zE102 = n → RC Tryz.prog (.loop bc9) S (QR Tryz.prog [(4, none)] (RF112 n)) [(7, vi a4), (6, vb b1), (5, a1), (1, vi x1), (0, v0)] h := by
 have hb' := hb
 try simp only [qa] at hb'
 intro m
 induction m with
 | zero =>
  intro b1 a4 zE102 a0 a1 a2 a5 a3 a7 f3 d2 b6 b4 h M0 z
  rw [en] at z
  refine cj (aq (sR (mV rfl (mV rfl (ae (cv rfl (cm r0 Tryz.underlying29 _)) (bN cn rfl rfl (nS ?_)))))))
  refine cb rfl ?_ ?_ <;> intro c <;> try simp only [qa] at c
  ·omega
  refine dw (fj (dl ?_))
  exact wP (g0 a2 a5 a3 a7 (by omega) (Mem.sub M0 (.cons_cons _ .slnil)) z) rfl
 | succ m ih =>
  intro b1 a4 zE102 a0 a1 a2 a5 a3 a7 f3 d2 b6 b4 h M0 z
  rw [en] at z
  refine cj (aq (sR (mV rfl (mV rfl (ae (cv rfl (cm r0 Tryz.underlying29 _)) (bN cn rfl rfl (nS ?_)))))))
  refine cb rfl ?_ ?_ <;> intro c <;> try simp only [qa] at c
  rotate_left
  ·omega
  refine ax (am (aq (bh (aq (sR (mV rfl (ae (jp rfl) (mV rfl ?_))))))))
  refine bw 7 (d := 23) (v := vb ((!b1) && (decide (x1 ≤ (ix x0 a4))))) ?_ ?_
  ·intro S Q r
   cases d4 : (!b1)
   ·exact gN 6 rfl rfl rfl rfl rfl rfl
   ·intro k
    have b8 := d4
    try simp only [qa] at b8
    refine ai rfl rfl (av rfl) (ai rfl rfl (av rfl) (ai rfl rfl (bf rfl rfl (slI r0 (by omega) (by omega))) (ai rfl rfl (ca rfl rfl rfl) (ai rfl rfl (av rfl) (ai rfl rfl (bv rfl rfl lv) ?_)))))
    exact gK rfl rfl rfl rfl rfl k
  refine nS ?_
  refine bm z rfl ?_ ?_ <;> clear z <;> intro c z <;> try simp only [qa] at c
  ·refine sR (mB rfl (nR (mV rfl (mV rfl (ae (bf rfl rfl (slI r0 (by omega) (by omega))) (lR rfl rfl rfl (mV rfl (bN ig rfl rfl ?_))))))))
   refine nS ?_
   refine bm z rfl ?_ ?_ <;> clear z <;> intro c z <;> try simp only [qa] at c
   ·refine aw (mV rfl (mV rfl (ae (v := .fs true [vi x1]) (fd rfl (all_cons rfl iu)) ?_)))
    have e5 : (tSl tI).R ([x1] : List Int) (.fs true [vi x1]) := mg ⟨rfl, trivial⟩ (by simp)
    obtain ⟨a6, d5, b2⟩ := lb (t := tI) (h := h) e5
    have d6 : fits (a0.length + a6.length) 8 = true := by rw [All2.length_eq a2, All2.length_eq b2]; (try simp only [List.length_cons, List.length_nil]); exact jl (by first | omega | (simp only [List.length_append, List.length_cons, List.length_nil]; omega)) (by first | omega | (simp only [List.length_append, List.length_cons, List.length_nil]; omega))
    refine jk (k := 0) (es := a0) (news := a6) M0 rfl rfl rfl a5 a3 d5 d6 (fun g2 e9 e1 c8 e6 => ?_)
    have b9 : All2 tI.R (zE102 ++ ([x1] : List Int)) (a0 ++ a6) := All2.app a2 b2
    have f4 : (zE102 ++ ([x1] : List Int)).length ≤ 4611686018427387904 := by rw [← All2.length_eq b9, List.length_append]; exact gy d6
    refine mV rfl (nS (aw (mV rfl (mV rfl (mV rfl (ae (bf rfl rfl (slI r0 (by omega) (by omega))) (lR rfl rfl rfl (ae (v := .fs true [vi (ix x0 a4)]) (fd rfl (all_cons rfl iu)) ?_))))))))
    have e8 : (tSl tI).R ([(ix x0 a4)] : List Int) (.fs true [vi (ix x0 a4)]) := mg ⟨rfl, trivial⟩ (by simp)
    obtain ⟨b0, c0, b5⟩ := lb (t := tI) (h := e9) e8
    have c4 : fits ((a0 ++ a6).length + b0.length) 8 = true := by rw [All2.length_eq b9, All2.length_eq b5]; (try simp only [List.length_cons, List.length_nil]); exact jl (by first | omega | (simp only [List.length_append, List.length_cons, List.length_nil]; omega)) (by first | omega | (simp only [List.length_append, List.length_cons, List.length_nil]; omega))
    refine jk (k := 0) (es := (a0 ++ a6)) (news := b0) e6 rfl rfl rfl e1 c8 c0 c4 (fun f6 f8 f2 d9 f0 => ?_)
    have c5 : All2 tI.R ((zE102 ++ ([x1] : List Int)) ++ ([(ix x0 a4)] : List Int)) ((a0 ++ a6) ++ b0) := All2.app b9 b5
    have c1 : ((zE102 ++ ([x1] : List Int)) ++ ([(ix x0 a4)] : List Int)).length ≤ 4611686018427387904 := by rw [← All2.length_eq c5, List.length_append]; exact gy c4
    refine mV rfl (bp (cp (am (aw (mV rfl (bN em rfl rfl (mV rfl (bp ?_))))))))
    refine cq ?_
    have s := db r0
    have o : wr (a4 + 1) = a4 + 1 := de (by omega) (by omega)
    erw [o]
    exact wC (ih  c5 f2 d9 c1 (by omega) (by omega) (by first | omega | (simp only [List.length_append, List.length_cons, List.length_nil]; omega)) (by first | omega | (simp only [List.length_append, List.length_cons, List.length_nil]; omega)) (Mem.sub f0 (.cons_cons _ .slnil)) z) rfl
   ·refine ax (am (aw (mV rfl (mV rfl (mV rfl (ae (bf rfl rfl (slI r0 (by omega) (by omega))) (lR rfl rfl rfl (ae (v := .fs true [vi (ix x0 a4)]) (fd rfl (all_cons rfl iu)) ?_))))))))
    have e3 : (tSl tI).R ([(ix x0 a4)] : List Int) (.fs true [vi (ix x0 a4)]) := mg ⟨rfl, trivial⟩ (by simp)
    obtain ⟨a8, c3, b3⟩ := lb (t := tI) (h := h) e3
    have d7 : fits (a0.length + a8.length) 8 = true := by rw [All2.length_eq a2, All2.length_eq b3]; (try simp only [List.length_cons, List.length_nil]); exact jl (by first | omega | (simp only [List.length_append, List.length_cons, List.length_nil]; omega)) (by first | omega | (simp only [List.length_append, List.length_cons, List.length_nil]; omega))
    refine jk (k := 0) (es := a0) (news := a8) M0 rfl rfl rfl a5 a3 c3 d7 (fun f7 g1 e4 c9 e2 => ?_)
    have c7 : All2 tI.R (zE102 ++ ([(ix x0 a4)] : List Int)) (a0 ++ a8) := All2.app a2 b3
    have d8 : (zE102 ++ ([(ix x0 a4)] : List Int)).length ≤ 4611686018427387904 := by rw [← All2.length_eq c7, List.length_append]; exact gy d7
    refine mV rfl (bp (cp (am (aw (mV rfl (bN em rfl rfl (mV rfl (bp ?_))))))))
    refine cq ?_
    have s := db r0
    have o : wr (a4 + 1) = a4 + 1 := de (by omega) (by omega)
    erw [o]
    exact wC (ih  c7 e4 c9 d8 (by omega) (by omega) (by first | omega | (simp only [List.length_append, List.length_cons, List.length_nil]; omega)) (by first | omega | (simp only [List.length_append, List.length_cons, List.length_nil]; omega)) (Mem.sub e2 (.cons_cons _ .slnil)) z) rfl
  ·refine ax (am (aw (mV rfl (mV rfl (mV rfl (ae (bf rfl rfl (slI r0 (by omega) (by omega))) (lR rfl rfl rfl (ae (v := .fs true [vi (ix x0 a4)]) (fd rfl (all_cons rfl iu)) ?_))))))))
   have e0 : (tSl tI).R ([(ix x0 a4)] : List Int) (.fs true [vi (ix x0 a4)]) := mg ⟨rfl, trivial⟩ (by simp)
   obtain ⟨a9, c2, b7⟩ := lb (t := tI) (h := h) e0
   have d0 : fits (a0.length + a9.length) 8 = true := by rw [All2.length_eq a2, All2.length_eq b7]; (try simp only [List.length_cons, List.length_nil]); exact jl (by first | omega | (simp only [List.length_append, List.length_cons, List.length_nil]; omega)) (by first | omega | (simp only [List.length_append, List.length_cons, List.length_nil]; omega))
   refine jk (k := 0) (es := a0) (news := a9) M0 rfl rfl rfl a5 a3 c2 d0 (fun f5 f9 f1 c6 e7 => ?_)
   have d1 : All2 tI.R (zE102 ++ ([(ix x0 a4)] : List Int)) (a0 ++ a9) := All2.app a2 b7
   have d3 : (zE102 ++ ([(ix x0 a4)] : List Int)).length ≤ 4611686018427387904 := by rw [← All2.length_eq d1, List.length_append]; exact gy d0
   refine mV rfl (bp (cp (am (aw (mV rfl (bN em rfl rfl (mV rfl (bp ?_))))))))
   refine cq ?_
   have s := db r0
   have o : wr (a4 + 1) = a4 + 1 := de (by omega) (by omega)
   erw [o]
   exact wC (ih  d1 f1 c6 d3 (by omega) (by omega) (by first | omega | (simp only [List.length_append, List.length_cons, List.length_nil]; omega)) (by first | omega | (simp only [List.length_append, List.length_cons, List.length_nil]; omega)) (Mem.sub e7 (.cons_cons _ .slnil)) z) rfl

theorem rd {x0 : List Int} {x1 : Int} {v0 : PV} (r0 : (tSl tI).R x0 v0) (hb : x0.length ≤ 100000) : ∃ r, FnR Tryz.prog 112 [v0, vi x1] r ∧ (tSl tI).R (ep x0 x1) r := by
 refine fnT (R := RF112) bs1 rfl fun n z => ?_
 unfold ep at z
 refine sR (ae (v := nilS) (av rfl) (nR (ae (v := nilS) (av rfl) (nR (mB rfl (nS (aq (sR ?_))))))))
 refine mI rfl (nS (bh ?_))
 have c2 := nu (sz := 1) (es := []) (Mem.nil ⟨0, []⟩) 3 (.inl ⟨none, rfl, rfl⟩) (by simp)
 refine wC (tm r0 hb ?_  aL rfl (.inl rfl) (by first | decide | simp) rfl (by omega) (by first | omega | simp) (by first | omega | simp) (Mem.sub c2 (.cons_cons _ .slnil)) z) rfl
 ·intro b5 a2 a0 b0 a1 a3 a5 a4 b4 b8 a9 z
  refine fx (am (aq (sR (mV rfl (ae (jp rfl) (nS ?_))))))
  refine bm z rfl ?_ ?_ <;> clear z <;> intro c z <;> try simp only [qa] at c
  ·refine aw (mV rfl (mV rfl (ae (v := .fs true [vi x1]) (fd rfl (all_cons rfl iu)) ?_)))
   have c1 : (tSl tI).R ([x1] : List Int) (.fs true [vi x1]) := mg ⟨rfl, trivial⟩ (by simp)
   obtain ⟨a6, b3, a7⟩ := lb (t := tI) (h := b8) c1
   have a8 : fits (a0.length + a6.length) 8 = true := by rw [All2.length_eq a1, All2.length_eq a7]; (try simp only [List.length_cons, List.length_nil]); exact jl (by first | omega | (simp only [List.length_append, List.length_cons, List.length_nil]; omega)) (by first | omega | (simp only [List.length_append, List.length_cons, List.length_nil]; omega))
   refine jk (k := 0) (es := a0) (news := a6) a9 rfl rfl rfl a3 a5 b3 a8 (fun c8 c6 b9 c5 c3 => ?_)
   have b2 : All2 tI.R (a2 ++ ([x1] : List Int)) (a0 ++ a6) := All2.app a1 a7
   have b1 : (a2 ++ ([x1] : List Int)).length ≤ 4611686018427387904 := by rw [← All2.length_eq b2, List.length_append]; exact gy a8
   refine mV rfl (nR (mV rfl (mV rfl (nS ?_))))
   obtain ⟨c7, c4, c0⟩ := ob (P := Tryz.prog) (k := 0) (t := tI) c3 rfl b9 b2 (Nat.le_trans b1 (by decide))
   subst z
   exact gm (.tmp rfl .nil) c4 c0
  ·refine ax (am (sR (mV rfl (mV rfl (nS ?_)))))
   obtain ⟨c9, b6, b7⟩ := ob (P := Tryz.prog) (k := 0) (t := tI) a9 rfl a3 a1 (Nat.le_trans a4 (by decide))
   subst z
   exact gm (.tmp rfl .nil) b6 b7

def RF72 (n : (List Int)) (r : PV) : Prop := (tSl tI).R n r
theorem tf {S : List Fr} {n : (List Int)} {x0 : List ab} {v0 : PV} (r0 : (tSl ab.t).R x0 v0) (hb : x0.length ≤ 1000) {K0 : (List Int) → (List Int)}
  (b6 : ∀ {a3 : List Int} {a5 : PV} (a4 : (tSl tI).R a3 a5), K0 a3 = n → PX Tryz.prog 0 S (QR Tryz.prog [(2, none)] (RF72 n)) [(3, a5)] ⟨0, []⟩) :
  ∀ {m : Nat} {a3 : List Int} {a0 : Int} {a5 : PV} (a4 : (tSl tI).R a3 a5) (b3 : m = Int.toNat ((x0.length : Int) - a0)) (a7 : 0 ≤ a0) (a2 : (a3.length : Int) ≤ a0), gx x0 K0 m a3 a0 = n → RC Tryz.prog (.loop bp8) S (QR Tryz.prog [(2, none)] (RF72 n)) [(4, vi a0), (3, a5), (0, v0)] ⟨0, []⟩ := by
 have hb' := hb
 try simp only [qa] at hb'
 intro m
 induction m with
 | zero =>
  intro a3 a0 a5 a4 b3 a7 a2 z
  rw [gx] at z
  refine cj (aq (sR (mV rfl (mV rfl (ae (cv rfl (cm r0 Tryz.underlying32 _)) (bN cn rfl rfl (nS ?_)))))))
  refine cb rfl ?_ ?_ <;> intro c <;> try simp only [qa] at c
  ·omega
  refine dw (fj (dl ?_))
  exact wP (b6 a4 z) rfl
 | succ m ih =>
  intro a3 a0 a5 a4 b3 a7 a2 z
  rw [gx] at z
  refine cj (aq (sR (mV rfl (mV rfl (ae (cv rfl (cm r0 Tryz.underlying32 _)) (bN cn rfl rfl (nS ?_)))))))
  refine cb rfl ?_ ?_ <;> intro c <;> try simp only [qa] at c
  rotate_left
  ·omega
  refine ax (am (aq (bh (sR (mV rfl (mV rfl ?_))))))
  obtain ⟨b7, b0, b1⟩ := cz (i := a0) r0 (by omega) (by omega)
  refine ae (bf rfl rfl b0) (fL rfl (ab.g_Op b1) rfl rfl (bN dc rfl rfl (nS ?_)))
  refine bm z rfl ?_ ?_ <;> clear z <;> intro c z <;> try simp only [qa] at c
  ·refine aw (mV rfl (mV rfl (mV rfl ?_)))
   obtain ⟨b9, a8, a9⟩ := cz (i := a0) r0 (by omega) (by omega)
   refine ae (bf rfl rfl a8) (fL rfl (ab.g_N a9) rfl rfl ?_)
   obtain ⟨b5, a1, z⟩ := bq z
   obtain ⟨b8, b2, a6⟩ := rd (x1 := (ix x0 a0).N) a4 (by first | assumption | omega | (rw [de (by omega) (by omega)]; omega))
   rw [a1] at a6
   have b4 := AddInt_len a1
   refine cL b2 rfl rfl (ak (TR.clo (tSl tI) a4) (ak rfl bc)) (mV rfl (bp (cp (am (aw (mV rfl (bN em rfl rfl (mV rfl ?_))))))))
   refine bp (cq ?_)
   have s := db r0
   have o : wr (a0 + 1) = a0 + 1 := de (by omega) (by omega)
   erw [o]
   exact wC (ih  a6 (by omega) (by omega) (by first | omega | (simp; done) | (simp only [List.length_append, List.length_cons, List.length_nil, List.length_set]; omega)) z) rfl
  ·refine ax (cp (am (aw (mV rfl (bN em rfl rfl (mV rfl (bp (cq ?_))))))))
   have s := db r0
   have o : wr (a0 + 1) = a0 + 1 := de (by omega) (by omega)
   erw [o]
   exact wC (ih  a4 (by omega) (by omega) (by first | omega | (simp; done) | (simp only [List.length_append, List.length_cons, List.length_nil, List.length_set]; omega)) z) rfl

theorem co0 {x0 : List ab} {v0 : PV} (r0 : (tSl ab.t).R x0 v0) (hb : x0.length ≤ 1000) : ∃ r, FnR Tryz.prog 72 [v0] r ∧ (tSl tI).R (ki x0) r := by
 refine fnT (R := RF72) cm3 rfl fun n z => ?_
 unfold ki at z
 refine sR (ae (v := nilS) (av rfl) (nR (ae (v := nilS) (av rfl) (nS (aq (sR (mI rfl (nS ?_))))))))
 refine bh ?_
 refine wC (tf r0 hb ?_  jx rfl (by omega) (by simp) z) rfl
 ·intro a2 a1 a0 z
  refine fx (am (sR (mV rfl (mV rfl (nS ?_)))))
  exact rR z rfl (TR.clo (tSl tI) a0) a0

def RF111 (n : ah) (r : PV) : Prop := ah.t.R n r
theorem te {S : List Fr} {n : ah} {x0 : ah} {x1 : List ab} {a4 : (List aa)} {c5 : (List Int)} {c4 c2 : PV} {a5 a8 a6 a7 : Nat} (hb : x1.length ≤ 1000 ∧ x0.Fields.length ≤ 50000 ∧ x0.Headers.length ≤ 50000) (d5 : lf x1 = a4) (b2 : (tSl aa.t).R a4 c4) (d7 : a4.length ≤ x1.length) (d4 : ki x1 = c5) (d6 : c5.length ≤ x1.length) {K0 : ah → ah}
  (e0 : ∀ {zE102 : ah} {a0 : PV} (a1 : ah.t.R zE102 a0) (e3 : zE102.Headers.length ≤ 50000) {h : Heap} (M0 : Mem h [⟨.op a6 a7 0, 162, 3, [.agg [nilS, nilS, nilS]]⟩, ⟨.op a5 a8 0, 162, 3, [a0]⟩]), K0 zE102 = n → PX Tryz.prog 0 S (QR Tryz.prog [(4, some (3, true))] (RF111 n)) [(2, .op a5 a8 0), (4, .op a6 a7 0), (6, c2)] h) :
  ∀ {m : Nat} {a9 : Int} {zE102 : ah} {a0 : PV} (a1 : ah.t.R zE102 a0) (d8 : m = Int.toNat ((a4.length : Int) - a9)) (c3 : 0 ≤ a9) (b6 : (zE102.Fields.length : Int) ≤ (x0.Fields.length : Int) + a9) (b7 : (zE102.Headers.length : Int) ≤ (x0.Headers.length : Int)) (b8 : a9 ≤ (a4.length : Int)) {h : Heap} (M0 : Mem h [⟨.op a6 a7 0, 162, 3, [.agg [nilS, nilS, nilS]]⟩, ⟨.op a5 a8 0, 162, 3, [a0]⟩]), iq a4 K0 m a9 zE102 = n → RC Tryz.prog (.loop bl4) S (QR Tryz.prog [(4, some (3, true))] (RF111 n)) [(7, vi a9), (6, c2), (5, c4), (4, .op a6 a7 0), (2, .op a5 a8 0)] h := by
 have hb' := hb
 try simp only [qa] at hb'
 intro m
 induction m with
 | zero =>
  intro a9 zE102 a0 a1 d8 c3 b6 b7 b8 h M0 z
  rw [iq] at z
  refine cj (aq (sR (mV rfl (mV rfl (ae (cv rfl (cm b2 Tryz.underlying75 _)) (bN cn rfl rfl (nS ?_)))))))
  refine cb rfl ?_ ?_ <;> intro c <;> try simp only [qa] at c
  ·omega
  refine dw (fj (dl ?_))
  exact wP (e0 a1 (by first | omega | ((try dsimp only); (try simp only [List.length_append, List.length_cons, List.length_nil]); omega) | simp) (Mem.sub M0 (.cons_cons _ (.cons_cons _ .slnil))) z) rfl
 | succ m ih =>
  intro a9 zE102 a0 a1 d8 c3 b6 b7 b8 h M0 z
  rw [iq] at z
  refine cj (aq (sR (mV rfl (mV rfl (ae (cv rfl (cm b2 Tryz.underlying75 _)) (bN cn rfl rfl (nS ?_)))))))
  refine cb rfl ?_ ?_ <;> intro c <;> try simp only [qa] at c
  rotate_left
  ·omega
  refine ax (am (aq (bh (aw (ae (ba rfl) ?_)))))
  obtain ⟨e2, c9, c1⟩ := ah.g_Fields a1
  refine ae (br (k := 1) M0 rfl rfl c9) (mV rfl (mV rfl ?_))
  obtain ⟨e1, d2, c0⟩ := cz (i := a9) b2 (by omega) (by omega)
  refine ae (bf rfl rfl d2) (lD c0 rfl rfl rfl ?_)
  obtain ⟨d0, b5, z⟩ := bq z
  obtain ⟨b3, d1, b0⟩ := xm  c1 c0 (by first | assumption | omega | (rw [de (by omega) (by omega)]; omega))
  rw [b5] at b0
  have d9 := AddField_len b5
  refine cL d1 rfl rfl (ak (TR.clo (tSl aa.t) c1) (ak (TR.clo aa.t c0) bc)) (ae (ba rfl) ?_)
  obtain ⟨c7, a3, a2, d3, c6, b1, b4⟩ := a1
  subst d3
  refine gw (k := 1) (v := b3) M0 rfl rfl rfl (lm (TR.cnt (tSl aa.t) b0) (TR.agg (tSl aa.t) b0)) rfl (by first | decide | (simp only [List.length_cons, List.length_nil]; omega) | simp) (fun c8 b9 => ?_)
  replace b9 : Mem c8 [⟨.op a6 a7 0, 162, 3, [.agg [nilS, nilS, nilS]]⟩, ⟨.op a5 a8 0, 162, 3, [.agg [b3, a3, a2]]⟩] := b9
  refine bp (cp (am (aw (mV rfl (bN em rfl rfl (mV rfl (bp (cq ?_))))))))
  have s := db b2
  have o : wr (a9 + 1) = a9 + 1 := de (by omega) (by omega)
  erw [o]
  exact wC (ih  (show ah.t.R ({ Fields := d0, Headers := zE102.Headers, Registers := zE102.Registers } : ah) (.agg [b3, a3, a2]) from ⟨b3, a3, a2, rfl, b0, b1, b4⟩) (by omega) (by omega) (by first | omega | ((try dsimp only); (try simp only [List.length_append, List.length_cons, List.length_nil]); omega) | simp) (by first | omega | ((try dsimp only); (try simp only [List.length_append, List.length_cons, List.length_nil]); omega) | simp) (by first | omega | ((try dsimp only); (try simp only [List.length_append, List.length_cons, List.length_nil]); omega) | simp) (Mem.sub b9 (.cons_cons _ (.cons_cons _ .slnil))) z) rfl

theorem td {S : List Fr} {n : ah} {x0 : ah} {x1 : List ab} {c1 : (List aa)} {a4 : (List Int)} {a5 : ah} {c3 : PV} {a6 b0 a8 a9 : Nat} (hb : x1.length ≤ 1000 ∧ x0.Fields.length ≤ 50000 ∧ x0.Headers.length ≤ 50000) (d5 : lf x1 = c1) (d7 : c1.length ≤ x1.length) (d3 : ki x1 = a4) (b4 : (tSl tI).R a4 c3) (d6 : a4.length ≤ x1.length) (c4 : a5.Headers.length ≤ 50000) {K2 : ah → ah}
  (d9 : ∀ {zE102 : ah} {a0 : PV} (a1 : ah.t.R zE102 a0) {h : Heap} (M0 : Mem h [⟨.op a8 a9 0, 162, 3, [.agg [nilS, nilS, nilS]]⟩, ⟨.op a6 b0 0, 162, 3, [a0]⟩]), K2 zE102 = n → PX Tryz.prog 2 S (QR Tryz.prog [(4, some (3, true))] (RF111 n)) [(2, .op a6 b0 0), (4, .op a8 a9 0)] h) :
  ∀ {m : Nat} {a7 : Int} {zE102 : ah} {a0 : PV} (a1 : ah.t.R zE102 a0) (d4 : m = Int.toNat ((a4.length : Int) - a7)) (c2 : 0 ≤ a7) (b8 : (zE102.Headers.length : Int) ≤ 50000 + a7) (b6 : a7 ≤ (a4.length : Int)) {h : Heap} (M0 : Mem h [⟨.op a8 a9 0, 162, 3, [.agg [nilS, nilS, nilS]]⟩, ⟨.op a6 b0 0, 162, 3, [a0]⟩]), ir a4 K2 m a7 zE102 = n → RC Tryz.prog (.loop bf8) S (QR Tryz.prog [(4, some (3, true))] (RF111 n)) [(8, vi a7), (6, c3), (4, .op a8 a9 0), (2, .op a6 b0 0)] h := by
 have hb' := hb
 try simp only [qa] at hb'
 intro m
 induction m with
 | zero =>
  intro a7 zE102 a0 a1 d4 c2 b8 b6 h M0 z
  rw [ir] at z
  refine cj (aq (sR (mV rfl (mV rfl (ae (cv rfl (cm b4 Tryz.underlying29 _)) (bN cn rfl rfl (nS ?_)))))))
  refine cb rfl ?_ ?_ <;> intro c <;> try simp only [qa] at c
  ·omega
  refine dw (fj (dl ?_))
  exact wP (d9 a1 (Mem.sub M0 (.cons_cons _ (.cons_cons _ .slnil))) z) rfl
 | succ m ih =>
  intro a7 zE102 a0 a1 d4 c2 b8 b6 h M0 z
  rw [ir] at z
  refine cj (aq (sR (mV rfl (mV rfl (ae (cv rfl (cm b4 Tryz.underlying29 _)) (bN cn rfl rfl (nS ?_)))))))
  refine cb rfl ?_ ?_ <;> intro c <;> try simp only [qa] at c
  rotate_left
  ·omega
  refine ax (am (aq (bh (aw (ae (ba rfl) ?_)))))
  obtain ⟨d8, d0, c0⟩ := ah.g_Headers a1
  refine ae (br (k := 1) M0 rfl rfl d0) (mV rfl (mV rfl (ae (bf rfl rfl (slI b4 (by omega) (by omega))) (lR rfl rfl rfl ?_))))
  obtain ⟨c8, b7, z⟩ := bq z
  obtain ⟨b1, c7, b5⟩ := rd (x1 := (ix a4 a7)) c0 (by first | assumption | omega | (rw [de (by omega) (by omega)]; omega))
  rw [b7] at b5
  have d2 := AddInt_len b7
  refine cL c7 rfl rfl (ak (TR.clo (tSl tI) c0) (ak rfl bc)) (ae (ba rfl) ?_)
  obtain ⟨a3, c5, a2, c9, b2, c6, b3⟩ := a1
  subst c9
  refine gw (k := 1) (v := b1) M0 rfl rfl rfl (lm (TR.cnt (tSl tI) b5) (TR.agg (tSl tI) b5)) rfl (by first | decide | (simp only [List.length_cons, List.length_nil]; omega) | simp) (fun d1 b9 => ?_)
  replace b9 : Mem d1 [⟨.op a8 a9 0, 162, 3, [.agg [nilS, nilS, nilS]]⟩, ⟨.op a6 b0 0, 162, 3, [.agg [a3, b1, a2]]⟩] := b9
  refine bp (cp (am (aw (mV rfl (bN em rfl rfl (mV rfl (bp (cq ?_))))))))
  have s := db b4
  have o : wr (a7 + 1) = a7 + 1 := de (by omega) (by omega)
  erw [o]
  exact wC (ih  (show ah.t.R ({ Fields := zE102.Fields, Headers := c8, Registers := zE102.Registers } : ah) (.agg [a3, b1, a2]) from ⟨a3, b1, a2, rfl, b2, b5, b3⟩) (by omega) (by omega) (by first | omega | ((try dsimp only); (try simp only [List.length_append, List.length_cons, List.length_nil]); omega) | simp) (by first | omega | ((try dsimp only); (try simp only [List.length_append, List.length_cons, List.length_nil]); omega) | simp) (Mem.sub b9 (.cons_cons _ (.cons_cons _ .slnil))) z) rfl

theorem aw4 {x0 : ah} {x1 : List ab} {v0 v1 : PV} (r0 : ah.t.R x0 v0) (r1 : (tSl ab.t).R x1 v1) (hb : x1.length ≤ 1000 ∧ x0.Fields.length ≤ 50000 ∧ x0.Headers.length ≤ 50000) : ∃ r, FnR Tryz.prog 111 [v0, v1] r ∧ ah.t.R (kh x0 x1) r := by
 refine fnT (R := RF111) cc9 rfl fun n z => ?_
 unfold kh at z
 refine sR ?_
 refine ce6 (x := v0) (Mem.nil ⟨0, []⟩) rfl (TR.cnt ah.t r0) (fun b5 c1 c7 c5 => ?_)
 refine gh (x := .agg [nilS, nilS, nilS]) c5 rfl rfl (fun b7 c0 c9 c3 => ?_)
 refine nR (mV rfl ?_)
 obtain ⟨b6, a3, z⟩ := bq z
 obtain ⟨d2, c2, b1⟩ := cp5  r1 (by first | assumption | omega | (rw [de (by omega) (by omega)]; omega))
 rw [a3] at b1
 have a7 : b6.length ≤ x1.length := ak5 a3
 refine cL c2 rfl rfl (ak (TR.clo (tSl ab.t) r1) bc) (mV rfl ?_)
 obtain ⟨c6, a2, z⟩ := bq z
 obtain ⟨c8, b9, b2⟩ := co0  r1 (by first | assumption | omega | (rw [de (by omega) (by omega)]; omega))
 rw [a2] at b2
 have a6 : c6.length ≤ x1.length := ae0 a2
 refine cL b9 rfl rfl (ak (TR.clo (tSl ab.t) r1) bc) (mV rfl (mV rfl (nS (aq (sR (mI rfl (nS (bh ?_))))))))
 have d1 : ah.t.R ({ Fields := ([] : List aa), Headers := ([] : List Int), Registers := ([] : List Int) } : ah) (.agg [nilS, nilS, nilS]) := ⟨nilS, nilS, nilS, rfl, jx, jx, jx⟩
 refine wC (te hb a3 b1 a7 a2 a6 ?_  r0 rfl (by omega) (by first | omega | ((try dsimp only); (try simp only [List.length_append, List.length_cons, List.length_nil]); omega) | simp) (by first | omega | ((try dsimp only); (try simp only [List.length_append, List.length_cons, List.length_nil]); omega) | simp) (by first | omega | ((try dsimp only); (try simp only [List.length_append, List.length_cons, List.length_nil]); omega) | simp) (Mem.sub c3 (.cons_cons _ (.cons_cons _ .slnil))) z) rfl
 ·intro a9 b3 a4 a5 d3 c4 z
  refine fx (am (aq (sR (mI rfl (nS (bh ?_))))))
  refine wC (td hb a3 a7 a2 b2 a6 a5 ?_  a4 rfl (by omega) (by first | omega | ((try dsimp only); (try simp only [List.length_append, List.length_cons, List.length_nil]); omega) | simp) (by first | omega | ((try dsimp only); (try simp only [List.length_append, List.length_cons, List.length_nil]); omega) | simp) (Mem.sub c4 (.cons_cons _ (.cons_cons _ .slnil))) z) rfl
  ·intro b0 a1 a0 d0 b4 z
   refine fx (am (sR (ae (ou (k := 1) b4 rfl rfl (TR.agg ah.t a0)) ?_)))
   refine fu (k := 0) (v := a1) b4 rfl rfl rfl (TR.cnt ah.t a0) (fun b8 a8 => ?_)
   replace a8 : Mem b8 [⟨.op b7 c0 0, 162, 3, [a1]⟩, ⟨.op b5 c1 0, 162, 3, [a1]⟩] := a8
   refine nS ?_
   subst z
   exact gm (.cell rfl (oh (k := 0) a8 rfl (TR.agg ah.t a0)) .nil) (dm (TR.clo ah.t a0)) a0

def RF38 (n : (List aa) × (List Int) × (List Int)) (r : PV) : Prop := ∃ c0, ∃ c1, ∃ c2, r = .tup [c0, c1, c2] ∧ (tSl aa.t).R n.1 c0 ∧ (tSl tI).R n.2.1 c1 ∧ (tSl tI).R n.2.2 c2
theorem vm {S : List Fr} {n : (List aa) × (List Int) × (List Int)} {x0 : af} {x1 : Int} {i3 : Int × Int} {d7 : PV} {a7 a8 : Nat} (o1 : jf x0 x1 = i3) (k0 : (!decide (i3.2 = 0)) = false) (e0 : (tSl aj.t).R ((ix x0.Actions x1).Body) d7) {K0 : ah → ((List aa) × (List Int) × (List Int))}
  (o9 : ∀ {a5 : ah} {b8 : PV} (c0 : ah.t.R a5 b8) {h : Heap} (M0 : Mem h [⟨.op a7 a8 0, 162, 3, [b8]⟩]), K0 a5 = n → PX Tryz.prog 0 S (QR Tryz.prog [(4, none), (5, none), (6, none)] (RF38 n)) [(9, .op a7 a8 0)] h) :
  ∀ {m : Nat} {a0 : Int} {a5 : ah} {b8 : PV} (c0 : ah.t.R a5 b8) (o0 : m = Int.toNat ((((ix x0.Actions x1).Body).length : Int) - a0)) (i6 : 0 ≤ a0) (g1 : (a5.Fields.length : Int) ≤ 100 * a0) (f7 : (a5.Headers.length : Int) ≤ 100 * a0) (f8 : (a5.Registers.length : Int) ≤ 100 * a0) {h : Heap} (M0 : Mem h [⟨.op a7 a8 0, 162, 3, [b8]⟩]), jc x0 x1 K0 m a0 a5 = n → RC Tryz.prog (.loop cb5) S (QR Tryz.prog [(4, none), (5, none), (6, none)] (RF38 n)) [(11, vi a0), (10, d7), (9, .op a7 a8 0)] h := by
 have h0 := k0
 try simp only [qa] at h0
 intro m
 induction m with
 | zero =>
  intro a0 a5 b8 c0 o0 i6 g1 f7 f8 h M0 z
  rw [jc] at z
  refine cj (aq (sR (mV rfl (mV rfl (ae (cv rfl (cm e0 Tryz.underlying95 _)) (bN cn rfl rfl (nS ?_)))))))
  refine cb rfl ?_ ?_ <;> intro c <;> try simp only [qa] at c
  ·omega
  refine dw (fj (dl ?_))
  exact wP (o9 c0 (Mem.sub M0 (.cons_cons _ .slnil)) z) rfl
 | succ m ih =>
  intro a0 a5 b8 c0 o0 i6 g1 f7 f8 h M0 z
  rw [jc] at z
  refine cj (aq (sR (mV rfl (mV rfl (ae (cv rfl (cm e0 Tryz.underlying95 _)) (bN cn rfl rfl (nS ?_)))))))
  refine cb rfl ?_ ?_ <;> intro c <;> try simp only [qa] at c
  rotate_left
  ·omega
  refine ax (am (aq (bh (sR (mV rfl (mV rfl ?_))))))
  obtain ⟨c2, l2, b5⟩ := cz (i := a0) e0 (by first | omega | (have hk := bn (by assumption) (by assumption); have hl := hk.2.1; omega)) (by first | omega | (have hk := bn (by assumption) (by assumption); have hl := hk.2.1; omega))
  refine ae (bf rfl rfl l2) (lD b5 rfl rfl rfl ?_)
  refine gh (x := .agg [vi 0, vi 0, vi 0, vi 0, vi 0, nilS, nilS]) M0 rfl rfl (fun b6 b7 o3 l5 => ?_)
  refine fu (k := 0) (v := c2) l5 rfl rfl rfl (TR.cnt aj.t b5) (fun n5 d2 => ?_)
  replace d2 : Mem n5 [⟨.op b6 b7 0, 135, 7, [c2]⟩, ⟨.op a7 a8 0, 162, 3, [b8]⟩] := d2
  refine nS (aq (sR (ae (ba rfl) (ae (br (k := 0) d2 rfl rfl (aj.g_Kind b5)) (bN dc rfl rfl (mV rfl ?_))))))
  refine bw 4 (d := 45) (v := vb ((decide (((ix ((ix x0.Actions x1).Body) a0).Kind) = 4)) || (decide (((ix ((ix x0.Actions x1).Body) a0).Kind) = 5)))) ?_ ?_
  ·intro S Q r
   cases i9 : (decide (((ix ((ix x0.Actions x1).Body) a0).Kind) = 4))
   ·intro k
    have h1 := i9
    try simp only [qa] at h1
    refine ai rfl rfl (ba rfl) (ai rfl rfl (br (k := 0) d2 rfl rfl (aj.g_Kind b5)) (ai rfl rfl (bv rfl rfl dc) ?_))
    exact gK rfl rfl rfl rfl rfl k
   ·exact gN 3 rfl rfl rfl rfl rfl rfl
  refine nS ?_
  obtain ⟨m7, j6, z⟩ := bq z
  refine jw (F := fun b S Q => ∀ (a3 : ah) (b2 : PV) (a6 : ah.t.R a3 b2) (d4 : (a3.Fields.length : Int) ≤ a5.Fields.length + 24 ∧ (a3.Headers.length : Int) ≤ a5.Headers.length + 24 ∧ (a3.Registers.length : Int) ≤ a5.Registers.length + 24) (d8 : Heap) (c3 : Mem d8 [⟨.op b6 b7 0, 135, 7, [c2]⟩, ⟨.op a7 a8 0, 162, 3, [b2]⟩]), m7 a3 = n → RC Tryz.prog b S Q [(12, .op b6 b7 0), (11, vi a0), (10, d7), (9, .op a7 a8 0)] d8) ?_ ?_
  ·intro a3 b2 a6 d4 d8 c3 z
   rw [← j6] at z
   refine aq (sR (ae (ba rfl) (ae (br (k := 0) c3 rfl rfl (aj.g_Kind b5)) (bN dc rfl rfl (mV rfl ?_)))))
   refine bw 4 (d := 57) (v := vb ((decide (((ix ((ix x0.Actions x1).Body) a0).Kind) = 1)) || (decide (((ix ((ix x0.Actions x1).Body) a0).Kind) = 5)))) ?_ ?_
   ·intro S Q r
    cases j9 : (decide (((ix ((ix x0.Actions x1).Body) a0).Kind) = 1))
    ·intro k
     have g4 := j9
     try simp only [qa] at g4
     refine ai rfl rfl (ba rfl) (ai rfl rfl (br (k := 0) c3 rfl rfl (aj.g_Kind b5)) (ai rfl rfl (bv rfl rfl dc) ?_))
     exact gK rfl rfl rfl rfl rfl k
    ·exact gN 3 rfl rfl rfl rfl rfl rfl
   refine nS ?_
   obtain ⟨l4, j4, z⟩ := bq z
   refine jw (F := fun b S Q => ∀ (a2 : ah) (a9 : PV) (b1 : ah.t.R a2 a9) (d5 : (a2.Fields.length : Int) ≤ a3.Fields.length + 24 ∧ (a2.Headers.length : Int) ≤ a3.Headers.length + 24 ∧ (a2.Registers.length : Int) ≤ a3.Registers.length + 24) (e2 : Heap) (c1 : Mem e2 [⟨.op b6 b7 0, 135, 7, [c2]⟩, ⟨.op a7 a8 0, 162, 3, [a9]⟩]), l4 a2 = n → RC Tryz.prog b S Q [(12, .op b6 b7 0), (11, vi a0), (10, d7), (9, .op a7 a8 0)] e2) ?_ ?_
   ·intro a2 a9 b1 d5 e2 c1 z
    rw [← j4] at z
    refine aq (sR (ae (ba rfl) (ae (br (k := 0) c1 rfl rfl (aj.g_Kind b5)) (bN dc rfl rfl (mV rfl ?_)))))
    refine bw 4 (d := 69) (v := vb ((decide (((ix ((ix x0.Actions x1).Body) a0).Kind) = 1)) || (decide (((ix ((ix x0.Actions x1).Body) a0).Kind) = 4)))) ?_ ?_
    ·intro S Q r
     cases i0 : (decide (((ix ((ix x0.Actions x1).Body) a0).Kind) = 1))
     ·intro k
      have g5 := i0
      try simp only [qa] at g5
      refine ai rfl rfl (ba rfl) (ai rfl rfl (br (k := 0) c1 rfl rfl (aj.g_Kind b5)) (ai rfl rfl (bv rfl rfl dc) ?_))
      exact gK rfl rfl rfl rfl rfl k
     ·exact gN 3 rfl rfl rfl rfl rfl rfl
    refine mV rfl ?_
    refine bw 5 (d := 75) (v := vb (((decide (((ix ((ix x0.Actions x1).Body) a0).Kind) = 1)) || (decide (((ix ((ix x0.Actions x1).Body) a0).Kind) = 4))) && (!decide ((((ix ((ix x0.Actions x1).Body) a0).Dst).Header) = (-1))))) ?_ ?_
    ·intro S Q r
     cases j1 : ((decide (((ix ((ix x0.Actions x1).Body) a0).Kind) = 1)) || (decide (((ix ((ix x0.Actions x1).Body) a0).Kind) = 4)))
     ·exact gN 4 rfl rfl rfl rfl rfl rfl
     ·intro k
      have g9 := j1
      try simp only [qa] at g9
      refine ai rfl rfl (ba rfl) (ai rfl rfl (ba rfl) ?_)
      obtain ⟨o2, m8, l7⟩ := aj.g_Dst b5
      refine ai rfl rfl (br (k := 0) c1 rfl rfl (qc m8 (aa.g_Header l7))) (ai rfl rfl (bv rfl rfl (ig (b := -1))) ?_)
      exact gK rfl rfl rfl rfl rfl k
    refine nS ?_
    obtain ⟨n0, j3, z⟩ := bq z
    refine jw (F := fun b S Q => ∀ (a1 : ah) (b0 : PV) (b3 : ah.t.R a1 b0) (d6 : (a1.Fields.length : Int) ≤ a2.Fields.length + 24 ∧ (a1.Headers.length : Int) ≤ a2.Headers.length + 24 ∧ (a1.Registers.length : Int) ≤ a2.Registers.length + 24) (e1 : Heap) (c4 : Mem e1 [⟨.op b6 b7 0, 135, 7, [c2]⟩, ⟨.op a7 a8 0, 162, 3, [b0]⟩]), n0 a1 = n → RC Tryz.prog b S Q [(12, .op b6 b7 0), (11, vi a0), (10, d7), (9, .op a7 a8 0)] e1) ?_ ?_
    ·intro a1 b0 b3 d6 e1 c4 z
     rw [← j3] at z
     refine aq (sR (ae (ba rfl) (ae (br (k := 0) c4 rfl rfl (aj.g_Kind b5)) (bN dc rfl rfl (nS ?_)))))
     obtain ⟨m9, j8, z⟩ := bq z
     refine jw (F := fun b S Q => ∀ (a4 : ah) (b9 : PV) (b4 : ah.t.R a4 b9) (d3 : (a4.Fields.length : Int) ≤ a1.Fields.length + 24 ∧ (a4.Headers.length : Int) ≤ a1.Headers.length + 24 ∧ (a4.Registers.length : Int) ≤ a1.Registers.length + 24) (d9 : Heap) (c5 : Mem d9 [⟨.op b6 b7 0, 135, 7, [c2]⟩, ⟨.op a7 a8 0, 162, 3, [b9]⟩]), m9 a4 = n → RC Tryz.prog b S Q [(12, .op b6 b7 0), (11, vi a0), (10, d7), (9, .op a7 a8 0)] d9) ?_ ?_
     ·intro a4 b9 b4 d3 d9 c5 z
      rw [← j8] at z
      refine sR (ae (ba rfl) (ae (br (k := 0) c5 rfl rfl (aj.g_Kind b5)) (bN dc rfl rfl (nS ?_))))
      refine bm z rfl ?_ ?_ <;> clear z <;> intro c z <;> try simp only [qa] at c
      ·refine aw (ae (ba rfl) ?_)
       obtain ⟨o7, m1, h8⟩ := ah.g_Registers b4
       refine ae (br (k := 1) c5 rfl rfl m1) (ae (ba rfl) (ae (br (k := 0) c5 rfl rfl (aj.g_Register b5)) ?_))
       obtain ⟨n3, g0, z⟩ := bq z
       obtain ⟨f0, n7, e5⟩ := rd (x1 := (ix ((ix x0.Actions x1).Body) a0).Register) h8 (by first | omega | (have hk := bn (by assumption) (by assumption); have hl := hk.2.1; omega) | (have hk := bn (by assumption) (by assumption); have hl := hk.2.1; have hv := bo_v hk.2 (k := a0) (by omega) (by omega) (by omega); omega) | (have hk := bn (by assumption) (by assumption); have hl := hk.2.1; have hv := bo_i hk.2 (k := a0) (by omega) (by omega) (by omega); omega) | (have hk := bn (by assumption) (by assumption); have hl := hk.2.1; have hv := bo_v hk.2 (k := a0) (by omega) (by omega) (by omega); have hi := bo_i hk.2 (k := a0) (by omega) (by omega) (by omega); omega))
       rw [g0] at e5
       have i8 := AddInt_len g0; try dsimp only at i8
       refine cL n7 rfl rfl (ak (TR.clo (tSl tI) h8) (ak rfl bc)) (ae (ba rfl) ?_)
       obtain ⟨c9, d1, k6, n2, f1, e8, k8⟩ := b4
       subst n2
       refine gw (k := 1) (v := f0) c5 rfl rfl rfl (lm (TR.cnt (tSl tI) e5) (TR.agg (tSl tI) e5)) rfl (by first | decide | (simp only [List.length_cons, List.length_nil]; omega) | simp) (fun l9 g3 => ?_)
       replace g3 : Mem l9 [⟨.op b6 b7 0, 135, 7, [c2]⟩, ⟨.op a7 a8 0, 162, 3, [.agg [c9, d1, f0]]⟩] := g3
       refine bp (cp (am (aw (mV rfl (bN em rfl rfl (mV rfl (bp (cq ?_))))))))
       have s := db e0
       have o : wr (a0 + 1) = a0 + 1 := de (by omega) (by omega)
       erw [o]
       exact wC (ih  (show ah.t.R ({ Fields := a4.Fields, Headers := a4.Headers, Registers := n3 } : ah) (.agg [c9, d1, f0]) from ⟨c9, d1, f0, rfl, f1, e8, e5⟩) (by omega) (by omega) (by first | omega | ((try dsimp only); first | omega | (have hk := bn (by assumption) (by assumption); have hl := hk.2.1; omega))) (by first | omega | ((try dsimp only); first | omega | (have hk := bn (by assumption) (by assumption); have hl := hk.2.1; omega))) (by first | omega | ((try dsimp only); first | omega | (have hk := bn (by assumption) (by assumption); have hl := hk.2.1; omega))) (Mem.sub g3 (.cons _ (.cons_cons _ .slnil))) z) rfl
      ·refine ax (cp (am (aw (mV rfl (bN em rfl rfl (mV rfl (bp (cq ?_))))))))
       have s := db e0
       have o : wr (a0 + 1) = a0 + 1 := de (by omega) (by omega)
       erw [o]
       exact wC (ih  b4 (by omega) (by omega) (by first | omega | ((try dsimp only); first | omega | (have hk := bn (by assumption) (by assumption); have hl := hk.2.1; omega))) (by first | omega | ((try dsimp only); first | omega | (have hk := bn (by assumption) (by assumption); have hl := hk.2.1; omega))) (by first | omega | ((try dsimp only); first | omega | (have hk := bn (by assumption) (by assumption); have hl := hk.2.1; omega))) (Mem.sub c5 (.cons _ (.cons_cons _ .slnil))) z) rfl
     ·intro J
      refine bm z rfl ?_ ?_ <;> clear z <;> intro c z <;> try simp only [qa] at c
      ·refine aw (ae (ba rfl) ?_)
       obtain ⟨o4, n8, i2⟩ := ah.g_Headers b3
       refine ae (br (k := 1) c4 rfl rfl n8) (ae (ba rfl) (ae (br (k := 0) c4 rfl rfl (aj.g_Header b5)) ?_))
       obtain ⟨j2, f5, z⟩ := bq z
       obtain ⟨e9, l1, e6⟩ := rd (x1 := (ix ((ix x0.Actions x1).Body) a0).Header) i2 (by first | omega | (have hk := bn (by assumption) (by assumption); have hl := hk.2.1; omega) | (have hk := bn (by assumption) (by assumption); have hl := hk.2.1; have hv := bo_v hk.2 (k := a0) (by omega) (by omega) (by omega); omega) | (have hk := bn (by assumption) (by assumption); have hl := hk.2.1; have hv := bo_i hk.2 (k := a0) (by omega) (by omega) (by omega); omega) | (have hk := bn (by assumption) (by assumption); have hl := hk.2.1; have hv := bo_v hk.2 (k := a0) (by omega) (by omega) (by omega); have hi := bo_i hk.2 (k := a0) (by omega) (by omega) (by omega); omega))
       rw [f5] at e6
       have i4 := AddInt_len f5; try dsimp only at i4
       refine cL l1 rfl rfl (ak (TR.clo (tSl tI) i2) (ak rfl bc)) (ae (ba rfl) ?_)
       obtain ⟨c8, k7, c6, m4, e7, k9, f4⟩ := b3
       subst m4
       refine gw (k := 1) (v := e9) c4 rfl rfl rfl (lm (TR.cnt (tSl tI) e6) (TR.agg (tSl tI) e6)) rfl (by first | decide | (simp only [List.length_cons, List.length_nil]; omega) | simp) (fun m2 g6 => ?_)
       replace g6 : Mem m2 [⟨.op b6 b7 0, 135, 7, [c2]⟩, ⟨.op a7 a8 0, 162, 3, [.agg [c8, e9, c6]]⟩] := g6
       refine bp ?_
       refine am (wC (J ({ Fields := a1.Fields, Headers := j2, Registers := a1.Registers } : ah) _ (show ah.t.R ({ Fields := a1.Fields, Headers := j2, Registers := a1.Registers } : ah) (.agg [c8, e9, c6]) from ⟨c8, e9, c6, rfl, e7, e6, f4⟩) (by first | omega | ((try dsimp only); first | omega | (have hk := bn (by assumption) (by assumption); have hl := hk.2.1; omega) | (have hk := bn (by assumption) (by assumption); have hl := hk.2.1; have hv := bo_v hk.2 (k := a0) (by omega) (by omega) (by omega); omega) | (have hk := bn (by assumption) (by assumption); have hl := hk.2.1; have hv := bo_i hk.2 (k := a0) (by omega) (by omega) (by omega); omega) | (have hk := bn (by assumption) (by assumption); have hl := hk.2.1; have hv := bo_v hk.2 (k := a0) (by omega) (by omega) (by omega); have hi := bo_i hk.2 (k := a0) (by omega) (by omega) (by omega); omega))) _ (Mem.sub g6 (.cons_cons _ (.cons_cons _ .slnil))) z) rfl)
      ·refine ax ?_
       refine am (wC (J a1 _ (show ah.t.R a1 b0 from b3) (by first | omega | ((try dsimp only); first | omega | (have hk := bn (by assumption) (by assumption); have hl := hk.2.1; omega) | (have hk := bn (by assumption) (by assumption); have hl := hk.2.1; have hv := bo_v hk.2 (k := a0) (by omega) (by omega) (by omega); omega) | (have hk := bn (by assumption) (by assumption); have hl := hk.2.1; have hv := bo_i hk.2 (k := a0) (by omega) (by omega) (by omega); omega) | (have hk := bn (by assumption) (by assumption); have hl := hk.2.1; have hv := bo_v hk.2 (k := a0) (by omega) (by omega) (by omega); have hi := bo_i hk.2 (k := a0) (by omega) (by omega) (by omega); omega))) _ (Mem.sub c4 (.cons_cons _ (.cons_cons _ .slnil))) z) rfl)
    ·intro J
     refine bm z rfl ?_ ?_ <;> clear z <;> intro c z <;> try simp only [qa] at c
     ·refine aw (ae (ba rfl) ?_)
      obtain ⟨o8, l8, j0⟩ := ah.g_Headers b1
      refine ae (br (k := 1) c1 rfl rfl l8) (ae (ba rfl) (ae (ba rfl) ?_))
      obtain ⟨p0, l6, m5⟩ := aj.g_Dst b5
      refine ae (br (k := 0) c1 rfl rfl (qc l6 (aa.g_Header m5))) ?_
      obtain ⟨j7, f6, z⟩ := bq z
      obtain ⟨e4, l3, f2⟩ := rd (x1 := ((ix ((ix x0.Actions x1).Body) a0).Dst).Header) j0 (by first | omega | (have hk := bn (by assumption) (by assumption); have hl := hk.2.1; omega) | (have hk := bn (by assumption) (by assumption); have hl := hk.2.1; have hv := bo_v hk.2 (k := a0) (by omega) (by omega) (by omega); omega) | (have hk := bn (by assumption) (by assumption); have hl := hk.2.1; have hv := bo_i hk.2 (k := a0) (by omega) (by omega) (by omega); omega) | (have hk := bn (by assumption) (by assumption); have hl := hk.2.1; have hv := bo_v hk.2 (k := a0) (by omega) (by omega) (by omega); have hi := bo_i hk.2 (k := a0) (by omega) (by omega) (by omega); omega))
      rw [f6] at f2
      have i1 := AddInt_len f6; try dsimp only at i1
      refine cL l3 rfl rfl (ak (TR.clo (tSl tI) j0) (ak rfl bc)) (ae (ba rfl) ?_)
      obtain ⟨c7, k5, d0, n4, f3, k4, e3⟩ := b1
      subst n4
      refine gw (k := 1) (v := e4) c1 rfl rfl rfl (lm (TR.cnt (tSl tI) f2) (TR.agg (tSl tI) f2)) rfl (by first | decide | (simp only [List.length_cons, List.length_nil]; omega) | simp) (fun n1 g7 => ?_)
      replace g7 : Mem n1 [⟨.op b6 b7 0, 135, 7, [c2]⟩, ⟨.op a7 a8 0, 162, 3, [.agg [c7, e4, d0]]⟩] := g7
      refine bp ?_
      refine am (wC (J ({ Fields := a2.Fields, Headers := j7, Registers := a2.Registers } : ah) _ (show ah.t.R ({ Fields := a2.Fields, Headers := j7, Registers := a2.Registers } : ah) (.agg [c7, e4, d0]) from ⟨c7, e4, d0, rfl, f3, f2, e3⟩) (by first | omega | ((try dsimp only); first | omega | (have hk := bn (by assumption) (by assumption); have hl := hk.2.1; omega) | (have hk := bn (by assumption) (by assumption); have hl := hk.2.1; have hv := bo_v hk.2 (k := a0) (by omega) (by omega) (by omega); omega) | (have hk := bn (by assumption) (by assumption); have hl := hk.2.1; have hv := bo_i hk.2 (k := a0) (by omega) (by omega) (by omega); omega) | (have hk := bn (by assumption) (by assumption); have hl := hk.2.1; have hv := bo_v hk.2 (k := a0) (by omega) (by omega) (by omega); have hi := bo_i hk.2 (k := a0) (by omega) (by omega) (by omega); omega))) _ (Mem.sub g7 (.cons_cons _ (.cons_cons _ .slnil))) z) rfl)
     ·refine ax ?_
      refine am (wC (J a2 _ (show ah.t.R a2 a9 from b1) (by first | omega | ((try dsimp only); first | omega | (have hk := bn (by assumption) (by assumption); have hl := hk.2.1; omega) | (have hk := bn (by assumption) (by assumption); have hl := hk.2.1; have hv := bo_v hk.2 (k := a0) (by omega) (by omega) (by omega); omega) | (have hk := bn (by assumption) (by assumption); have hl := hk.2.1; have hv := bo_i hk.2 (k := a0) (by omega) (by omega) (by omega); omega) | (have hk := bn (by assumption) (by assumption); have hl := hk.2.1; have hv := bo_v hk.2 (k := a0) (by omega) (by omega) (by omega); have hi := bo_i hk.2 (k := a0) (by omega) (by omega) (by omega); omega))) _ (Mem.sub c1 (.cons_cons _ (.cons_cons _ .slnil))) z) rfl)
   ·intro J
    refine bm z rfl ?_ ?_ <;> clear z <;> intro c z <;> try simp only [qa] at c
    ·refine aw (ae (ou (k := 1) c3 rfl rfl (TR.agg ah.t a6)) (ae (ba rfl) ?_))
     obtain ⟨o5, l0, h9⟩ := aj.g_Value b5
     refine ae (br (k := 0) c3 rfl rfl l0) ?_
     obtain ⟨j5, g2, z⟩ := bq z
     obtain ⟨h4, m3, h2⟩ := aw4  a6 h9 (by first | omega | (have hk := bn (by assumption) (by assumption); have hl := hk.2.1; omega) | (have hk := bn (by assumption) (by assumption); have hl := hk.2.1; have hv := bo_v hk.2 (k := a0) (by omega) (by omega) (by omega); omega) | (have hk := bn (by assumption) (by assumption); have hl := hk.2.1; have hv := bo_i hk.2 (k := a0) (by omega) (by omega) (by omega); omega) | (have hk := bn (by assumption) (by assumption); have hl := hk.2.1; have hv := bo_v hk.2 (k := a0) (by omega) (by omega) (by omega); have hi := bo_i hk.2 (k := a0) (by omega) (by omega) (by omega); omega))
     rw [g2] at h2
     have i7 := wy g2; try dsimp only at i7
     refine cL m3 rfl rfl (ak (TR.clo ah.t a6) (ak (TR.clo (tSl ab.t) h9) bc)) ?_
     refine fu (k := 1) (v := h4) c3 rfl rfl rfl (TR.cnt ah.t h2) (fun n9 h6 => ?_)
     replace h6 : Mem n9 [⟨.op b6 b7 0, 135, 7, [c2]⟩, ⟨.op a7 a8 0, 162, 3, [h4]⟩] := h6
     refine bp ?_
     refine am (wC (J j5 _ (show ah.t.R j5 h4 from h2) (by first | omega | ((try dsimp only); first | omega | (have hk := bn (by assumption) (by assumption); have hl := hk.2.1; omega) | (have hk := bn (by assumption) (by assumption); have hl := hk.2.1; have hv := bo_v hk.2 (k := a0) (by omega) (by omega) (by omega); omega) | (have hk := bn (by assumption) (by assumption); have hl := hk.2.1; have hv := bo_i hk.2 (k := a0) (by omega) (by omega) (by omega); omega) | (have hk := bn (by assumption) (by assumption); have hl := hk.2.1; have hv := bo_v hk.2 (k := a0) (by omega) (by omega) (by omega); have hi := bo_i hk.2 (k := a0) (by omega) (by omega) (by omega); omega))) _ (Mem.sub h6 (.cons_cons _ (.cons_cons _ .slnil))) z) rfl)
    ·refine ax ?_
     refine am (wC (J a3 _ (show ah.t.R a3 b2 from a6) (by first | omega | ((try dsimp only); first | omega | (have hk := bn (by assumption) (by assumption); have hl := hk.2.1; omega) | (have hk := bn (by assumption) (by assumption); have hl := hk.2.1; have hv := bo_v hk.2 (k := a0) (by omega) (by omega) (by omega); omega) | (have hk := bn (by assumption) (by assumption); have hl := hk.2.1; have hv := bo_i hk.2 (k := a0) (by omega) (by omega) (by omega); omega) | (have hk := bn (by assumption) (by assumption); have hl := hk.2.1; have hv := bo_v hk.2 (k := a0) (by omega) (by omega) (by omega); have hi := bo_i hk.2 (k := a0) (by omega) (by omega) (by omega); omega))) _ (Mem.sub c3 (.cons_cons _ (.cons_cons _ .slnil))) z) rfl)
  ·intro J
   refine bm z rfl ?_ ?_ <;> clear z <;> intro c z <;> try simp only [qa] at c
   ·refine aw (ae (ou (k := 1) d2 rfl rfl (TR.agg ah.t c0)) (ae (ba rfl) ?_))
    obtain ⟨o6, m6, k3⟩ := aj.g_Index b5
    refine ae (br (k := 0) d2 rfl rfl m6) ?_
    obtain ⟨i5, f9, z⟩ := bq z
    obtain ⟨h5, n6, h3⟩ := aw4  c0 k3 (by first | omega | (have hk := bn (by assumption) (by assumption); have hl := hk.2.1; omega) | (have hk := bn (by assumption) (by assumption); have hl := hk.2.1; have hv := bo_v hk.2 (k := a0) (by omega) (by omega) (by omega); omega) | (have hk := bn (by assumption) (by assumption); have hl := hk.2.1; have hv := bo_i hk.2 (k := a0) (by omega) (by omega) (by omega); omega) | (have hk := bn (by assumption) (by assumption); have hl := hk.2.1; have hv := bo_v hk.2 (k := a0) (by omega) (by omega) (by omega); have hi := bo_i hk.2 (k := a0) (by omega) (by omega) (by omega); omega))
    rw [f9] at h3
    have h7 := wy f9; try dsimp only at h7
    refine cL n6 rfl rfl (ak (TR.clo ah.t c0) (ak (TR.clo (tSl ab.t) k3) bc)) ?_
    refine fu (k := 1) (v := h5) d2 rfl rfl rfl (TR.cnt ah.t h3) (fun m0 g8 => ?_)
    replace g8 : Mem m0 [⟨.op b6 b7 0, 135, 7, [c2]⟩, ⟨.op a7 a8 0, 162, 3, [h5]⟩] := g8
    refine bp ?_
    refine am (wC (J i5 _ (show ah.t.R i5 h5 from h3) (by first | omega | ((try dsimp only); first | omega | (have hk := bn (by assumption) (by assumption); have hl := hk.2.1; omega) | (have hk := bn (by assumption) (by assumption); have hl := hk.2.1; have hv := bo_v hk.2 (k := a0) (by omega) (by omega) (by omega); omega) | (have hk := bn (by assumption) (by assumption); have hl := hk.2.1; have hv := bo_i hk.2 (k := a0) (by omega) (by omega) (by omega); omega) | (have hk := bn (by assumption) (by assumption); have hl := hk.2.1; have hv := bo_v hk.2 (k := a0) (by omega) (by omega) (by omega); have hi := bo_i hk.2 (k := a0) (by omega) (by omega) (by omega); omega))) _ (Mem.sub g8 (.cons_cons _ (.cons_cons _ .slnil))) z) rfl)
   ·refine ax ?_
    refine am (wC (J a5 _ (show ah.t.R a5 b8 from c0) (by first | omega | ((try dsimp only); first | omega | (have hk := bn (by assumption) (by assumption); have hl := hk.2.1; omega) | (have hk := bn (by assumption) (by assumption); have hl := hk.2.1; have hv := bo_v hk.2 (k := a0) (by omega) (by omega) (by omega); omega) | (have hk := bn (by assumption) (by assumption); have hl := hk.2.1; have hv := bo_i hk.2 (k := a0) (by omega) (by omega) (by omega); omega) | (have hk := bn (by assumption) (by assumption); have hl := hk.2.1; have hv := bo_v hk.2 (k := a0) (by omega) (by omega) (by omega); have hi := bo_i hk.2 (k := a0) (by omega) (by omega) (by omega); omega))) _ (Mem.sub d2 (.cons_cons _ (.cons_cons _ .slnil))) z) rfl)

theorem cl3 {x0 : af} {x1 : Int} {v0 : PV} (r0 : af.t.R x0 v0) : ∃ c0, ∃ c1, ∃ c2, FnR Tryz.prog 38 [v0, vi x1] (.tup [c0, c1, c2]) ∧ (tSl aa.t).R (lx x0 x1).1 c0 ∧ (tSl tI).R (lx x0 x1).2.1 c1 ∧ (tSl tI).R (lx x0 x1).2.2 c2 := by
 obtain ⟨n, z⟩ : ∃ n, lx x0 x1 = n := ⟨_, rfl⟩
 suffices H : RC Tryz.prog cl5 [] (QR Tryz.prog [(4, none), (5, none), (6, none)] (RF38 n)) (argE 0 [v0, vi x1]) ⟨0, []⟩ by
  rw [z]
  obtain ⟨r, h1, c0, c1, c2, rfl, d2, d5, d4⟩ := fnE cr3 (by simp) H
  exact ⟨c0, c1, c2, h1, d2, d5, d4⟩
 unfold lx at z
 refine sR (ae (ej rfl (TR.cnt af.t r0)) (ae (v := nilS) (av rfl) (ae (v := nilS) (av rfl) (ae (v := nilS) (av rfl) (nR (lD r0 rfl rfl rfl (mV rfl ?_)))))))
 obtain ⟨d1, a2, z⟩ := bq z
 have a7 := ap2 (x1 := x1) r0 
 rw [a2] at a7
 refine cL a7 rfl rfl (ak (TR.clo af.t r0) (ak rfl bc)) (mV rfl (xT rfl rfl (xT rfl rfl (mV rfl (mV rfl (nS (aq (sR ?_))))))))
 refine mV rfl (bN ig rfl rfl (nS ?_))
 refine bm z rfl ?_ ?_ <;> clear z <;> intro a1 z <;> have a5 := a1 <;> try simp only [qa] at a5
 ·refine sR (ae (v := nilS) (av rfl) (ae (v := nilS) (av rfl) (ae (v := nilS) (av rfl) (nS ?_))))
  subst z
  exact gm (.tmp rfl (.tmp rfl (.tmp rfl .nil))) (dm (show closed (.tup _) = true from (ak (TR.clo (tSl aa.t) jx) (ak (TR.clo (tSl tI) jx) (ak (TR.clo (tSl tI) jx) bc))))) ⟨nilS, nilS, nilS, rfl, jx, jx, jx⟩
 ·refine ax (am (sR (ae (v := .agg [nilS, nilS, nilS]) (me (cs := [nilS, nilS, nilS]) rfl rfl) ?_)))
  refine gh (x := .agg [nilS, nilS, nilS]) (Mem.nil ⟨0, []⟩) rfl rfl (fun b5 b6 d0 c4 => ?_)
  refine fu (k := 0) (v := .agg [nilS, nilS, nilS]) c4 rfl rfl rfl rfl (fun c7 a3 => ?_)
  replace a3 : Mem c7 [⟨.op b5 b6 0, 162, 3, [.agg [nilS, nilS, nilS]]⟩] := a3
  refine nR (gL (af.g_Actions r0) rfl rfl rfl fun d7 b4 => (mV rfl ?_))
  obtain ⟨d6, b7, c3⟩ := cz (i := x1) b4 (by first | omega | (have hk := bn (by assumption) (by assumption); have hl := hk.2.1; omega)) (by first | omega | (have hk := bn (by assumption) (by assumption); have hl := hk.2.1; omega))
  refine ae (bf rfl rfl b7) (gL (bg.g_Body c3) rfl rfl rfl fun c9 b8 => (mV rfl (nS (aq (sR (mI rfl (nS (bh ?_))))))))
  refine wC (vm a2 a1 b8 ?_  (show ah.t.R ({ Fields := ([] : List aa), Headers := ([] : List Int), Registers := ([] : List Int) } : ah) (.agg [nilS, nilS, nilS]) from ⟨nilS, nilS, nilS, rfl, jx, jx, jx⟩) rfl (by omega) (by first | omega | ((try dsimp only); (try simp only [List.length_append, List.length_cons, List.length_nil]); omega) | simp) (by first | omega | ((try dsimp only); (try simp only [List.length_append, List.length_cons, List.length_nil]); omega) | simp) (by first | omega | ((try dsimp only); (try simp only [List.length_append, List.length_cons, List.length_nil]); omega) | simp) (Mem.sub a3 (.cons_cons _ .slnil)) z) rfl
  ·intro a6 b0 a0 d3 a4 z
   refine fx (am (sR (ae (ba rfl) ?_)))
   obtain ⟨c8, b2, b1⟩ := ah.g_Fields a0
   refine ae (br (k := 0) a4 rfl rfl b2) (ae (ba rfl) ?_)
   obtain ⟨c6, c5, a8⟩ := ah.g_Headers a0
   refine ae (br (k := 0) a4 rfl rfl c5) (ae (ba rfl) ?_)
   obtain ⟨b9, b3, a9⟩ := ah.g_Registers a0
   refine ae (br (k := 0) a4 rfl rfl b3) (mV rfl (mV rfl (mV rfl (nS ?_))))
   subst z
   exact gm (.tmp rfl (.tmp rfl (.tmp rfl .nil))) (dm (show closed (.tup _) = true from (ak (TR.clo (tSl aa.t) b1) (ak (TR.clo (tSl tI) a8) (ak (TR.clo (tSl tI) a9) bc))))) ⟨c8, c6, b9, rfl, b1, a8, a9⟩

def RF39 (n : (List aa) × (List Int) × (List Int)) (r : PV) : Prop := ∃ c0, ∃ c1, ∃ c2, r = .tup [c0, c1, c2] ∧ (tSl aa.t).R n.1 c0 ∧ (tSl tI).R n.2.1 c1 ∧ (tSl tI).R n.2.2 c2
theorem tc {S : List Fr} {n : (List aa) × (List Int) × (List Int)} {x0 : af} {x1 : Int} {a5 : (List aj)} {a1 : Int} {d7 d0 : List Int} {d8 : List aa} {c4 c5 : Bool} {v0 f8 : PV} {f1 : List PV} {e3 : PV} {c9 : List PV} {d6 : PV} {e6 : List PV} {e1 d2 : PV} {e2 : List PV} {g4 h4 : PV} {c7 c8 d1 d3 : Nat} (hs : SmH x0) (i8 : jh x0 x1 = a5) (i0 : BO x0 a5) (h9 : a5.length ≤ 12) (h7 : isL e3 = true) (h1 : Wri e3 f1) (g6 : d7.length ≤ 4611686018427387904) (i4 : isL d6 = true) (g9 : Wri d6 c9) (g7 : d0.length ≤ 4611686018427387904) (i3 : isL e1 = true) (h2 : Wri e1 e6) (g8 : d8.length ≤ 4611686018427387904) (j5 : 0 ≤ a1) (j1 : (d8.length : Int) ≤ 1001 * a1) (i6 : (d0.length : Int) ≤ 1001 * a1) (i7 : (d7.length : Int) ≤ 1001 * a1) (j2 : a1 ≤ (a5.length : Int)) (f2 : (decide (a1 < (a5.length : Int))) = true) (h3 : aj.t.R (ix a5 a1) d2) (i1 : c4 = (if (decide (((ix a5 a1).Kind) = 1)) = true then (decide (((ix a5 a1).Kind) = 1)) else (decide (((ix a5 a1).Kind) = 4)))) (g2 : c4 = false) (i5 : c5 = (if (decide (((ix a5 a1).Kind) = 2)) = true then (decide (((ix a5 a1).Kind) = 2)) else (decide (((ix a5 a1).Kind) = 3)))) (f3 : c5 = true) (i9 : All2 tI.R ([(ix a5 a1).Header] : List Int) e2) (h8 : Wri g4 (c9 ++ e2)) (i2 : (d0 ++ ([(ix a5 a1).Header] : List Int)).length ≤ 4611686018427387904) (j6 : isL g4 = true) (h0 : (tSl ay.t).R ((ix x0.Headers ((ix a5 a1).Header)).Fields) h4) {K3 : (List Int) → (List Int) → (List aa) → ((List aa) × (List Int) × (List Int))}
  (j4 : ∀ {b0 a8 : List Int} {a4 : List aa} {a6 : List PV} {a3 : PV} {a7 : List PV} {a2 : PV} {a0 : List PV} {a9 : PV} (c1 : All2 tI.R b0 a6) (c2 : isL a3 = true) (b3 : Wri a3 a6) (b2 : b0.length ≤ 4611686018427387904) (b9 : All2 tI.R a8 a7) (c0 : isL a2 = true) (b6 : Wri a2 a7) (b1 : a8.length ≤ 4611686018427387904) (b8 : All2 aa.t.R a4 a0) (b7 : isL a9 = true) (b4 : Wri a9 a0) (c3 : a4.length ≤ 4611686018427387904) (j7 : (a4.length : Int) ≤ 1001 * (a1 + 1) ∧ (a8.length : Int) ≤ 1001 * (a1 + 1) ∧ (b0.length : Int) ≤ 1001 * (a1 + 1)) {h : Heap} (M0 : Mem h [⟨.op d1 d3 0, 135, 7, [d2]⟩, ⟨a3, 3, 1, a6⟩, ⟨a2, 3, 1, a7⟩, ⟨a9, 87, 2, a0⟩, ⟨.op c7 c8 0, 157, 3, [.agg [a9, a2, a3]]⟩]), K3 b0 a8 a4 = n → PX Tryz.prog 3 S (QR Tryz.prog [(4, none), (5, none), (6, none)] (RF39 n)) [(2, .fp v0), (7, .op c7 c8 0), (13, f8), (14, vi (a5.length : Int)), (15, vi a1)] h) :
  ∀ {m : Nat} {b5 : Int} {b0 a8 : List Int} {a4 : List aa} {a6 : List PV} {a3 : PV} {a7 : List PV} {a2 : PV} {a0 : List PV} {a9 : PV} (c1 : All2 tI.R b0 a6) (c2 : isL a3 = true) (b3 : Wri a3 a6) (b2 : b0.length ≤ 4611686018427387904) (b9 : All2 tI.R a8 a7) (c0 : isL a2 = true) (b6 : Wri a2 a7) (b1 : a8.length ≤ 4611686018427387904) (b8 : All2 aa.t.R a4 a0) (b7 : isL a9 = true) (b4 : Wri a9 a0) (c3 : a4.length ≤ 4611686018427387904) (j0 : m = Int.toNat ((((ix x0.Headers ((ix a5 a1).Header)).Fields).length : Int) - b5)) (f7 : 0 ≤ b5) (e4 : (a4.length : Int) ≤ 1001 * a1 + b5) (d4 : (a8.length : Int) ≤ 1001 * a1 + 1) (d5 : (b0.length : Int) ≤ 1001 * a1) (e0 : b5 ≤ 1000) {h : Heap} (M0 : Mem h [⟨.op d1 d3 0, 135, 7, [d2]⟩, ⟨a3, 3, 1, a6⟩, ⟨a2, 3, 1, a7⟩, ⟨a9, 87, 2, a0⟩, ⟨.op c7 c8 0, 157, 3, [.agg [a9, a2, a3]]⟩]), ip a5 a1 K3 m b5 b0 a8 a4 = n → RC Tryz.prog (.loop bx3) S (QR Tryz.prog [(4, none), (5, none), (6, none)] (RF39 n)) [(49, vi b5), (48, vi (((ix x0.Headers ((ix a5 a1).Header)).Fields).length : Int)), (15, vi a1), (14, vi (a5.length : Int)), (13, f8), (9, .op d1 d3 0), (7, .op c7 c8 0), (2, .fp v0)] h := by
 have e5 := f2
 try simp only [qa] at e5
 have e7 := g2
 try simp only [qa] at e7
 have e9 := f3
 try simp only [qa] at e9
 intro m
 induction m with
 | zero =>
  intro b5 b0 a8 a4 a6 a3 a7 a2 a0 a9 c1 c2 b3 b2 b9 c0 b6 b1 b8 b7 b4 c3 j0 f7 e4 d4 d5 e0 h M0 z
  rw [ip] at z
  refine cj (sR (bN cn rfl rfl (nS (aq ?_))))
  refine cb rfl ?_ ?_ <;> intro c <;> try simp only [qa] at c
  ·omega
  refine dw (fj (dl ?_))
  exact wP (j4 c1 c2 b3 b2 b9 c0 b6 b1 b8 b7 b4 c3 (by omega) (Mem.sub M0 (.cons_cons _ (.cons_cons _ (.cons_cons _ (.cons_cons _ (.cons_cons _ .slnil)))))) z) rfl
 | succ m ih =>
  intro b5 b0 a8 a4 a6 a3 a7 a2 a0 a9 c1 c2 b3 b2 b9 c0 b6 b1 b8 b7 b4 c3 j0 f7 e4 d4 d5 e0 h M0 z
  rw [ip] at z
  refine cj (sR (bN cn rfl rfl (nS (aq ?_))))
  refine cb rfl ?_ ?_ <;> intro c <;> try simp only [qa] at c
  rotate_left
  ·omega
  refine ax (am (aq (bh (sR (mV rfl (mV rfl (nS (aw ?_))))))))
  refine ae (ba rfl) (ae (br (k := 4) M0 rfl rfl (mk1 (gf (k := 3) M0 rfl b7).2)) (ae (ba rfl) (ae (br (k := 0) M0 rfl rfl (aj.g_Header h3)) (mV rfl (ae (v := .agg [vi ((ix a5 a1).Header), vi b5]) (me (cs := [vi ((ix a5 a1).Header), vi b5]) rfl rfl) (ae (v := .fs true [.agg [vi ((ix a5 a1).Header), vi b5]]) (fd rfl (all_cons rfl iu)) ?_))))))
  have h6 : (tSl aa.t).R ([({ Header := (ix a5 a1).Header, Field := b5 } : aa)] : List aa) (.fs true [.agg [vi ((ix a5 a1).Header), vi b5]]) := mg ⟨rfl, trivial⟩ (by simp)
  obtain ⟨c6, f9, d9⟩ := lb (t := aa.t) (h := h) h6
  have g0 : fits (a0.length + c6.length) 16 = true := by rw [All2.length_eq b8, All2.length_eq d9]; (try simp only [List.length_cons, List.length_nil]); exact jl (by first | omega | (have hj := jot (by assumption) (by assumption); have hk := bo_h (l := a5) (k := a1) (by assumption) (by omega) (by omega) (by omega); have f6 := hs _ hk.1 hk.2; first | omega | (simp only [List.length_append, List.length_cons, List.length_nil]; omega))) (by first | omega | (have hj := jot (by assumption) (by assumption); have hk := bo_h (l := a5) (k := a1) (by assumption) (by omega) (by omega) (by omega); have f6 := hs _ hk.1 hk.2; first | omega | (simp only [List.length_append, List.length_cons, List.length_nil]; omega)))
  refine jk (k := 3) (es := a0) (news := c6) M0 rfl rfl rfl b7 b4 f9 g0 (fun f0 j3 f5 g3 f4 => ?_)
  have g1 : All2 aa.t.R (a4 ++ ([({ Header := (ix a5 a1).Header, Field := b5 } : aa)] : List aa)) (a0 ++ c6) := All2.app b8 d9
  have g5 : (a4 ++ ([({ Header := (ix a5 a1).Header, Field := b5 } : aa)] : List aa)).length ≤ 4611686018427387904 := by rw [← All2.length_eq g1, List.length_append]; exact gy g0
  refine ae (ba rfl) ?_
  refine gw (k := 4) (v := f0) f4 rfl rfl rfl (gf (k := 3) f4 rfl f5).1 rfl (by first | decide | (simp only [List.length_cons, List.length_nil]; omega) | simp) (fun h5 e8 => ?_)
  replace e8 : Mem h5 [⟨.op d1 d3 0, 135, 7, [d2]⟩, ⟨a3, 3, 1, a6⟩, ⟨a2, 3, 1, a7⟩, ⟨f0, 87, 2, (a0 ++ c6)⟩, ⟨.op c7 c8 0, 157, 3, [.agg [f0, a2, a3]]⟩] := e8
  refine bp (cp (am (aw (bN em rfl rfl (mV rfl (bp (cq ?_)))))))
  have s := db h0
  have o : wr (b5 + 1) = b5 + 1 := de (by omega) (by omega)
  erw [o]
  exact wC (ih  c1 c2 b3 b2 b9 c0 b6 b1 g1 f5 g3 g5 (by omega) (by omega) (by first | omega | (simp only [List.length_append, List.length_cons, List.length_nil]; omega) | (have hj := jot (by assumption) (by assumption); have hk := bo_h (l := a5) (k := a1) (by assumption) (by omega) (by omega) (by omega); have f6 := hs _ hk.1 hk.2; first | omega | (simp only [List.length_append, List.length_cons, List.length_nil]; omega))) (by first | omega | (simp only [List.length_append, List.length_cons, List.length_nil]; omega) | (have hj := jot (by assumption) (by assumption); have hk := bo_h (l := a5) (k := a1) (by assumption) (by omega) (by omega) (by omega); have f6 := hs _ hk.1 hk.2; first | omega | (simp only [List.length_append, List.length_cons, List.length_nil]; omega))) (by first | omega | (simp only [List.length_append, List.length_cons, List.length_nil]; omega) | (have hj := jot (by assumption) (by assumption); have hk := bo_h (l := a5) (k := a1) (by assumption) (by omega) (by omega) (by omega); have f6 := hs _ hk.1 hk.2; first | omega | (simp only [List.length_append, List.length_cons, List.length_nil]; omega))) (by first | omega | (simp only [List.length_append, List.length_cons, List.length_nil]; omega) | (have hj := jot (by assumption) (by assumption); have hk := bo_h (l := a5) (k := a1) (by assumption) (by omega) (by omega) (by omega); have f6 := hs _ hk.1 hk.2; first | omega | (simp only [List.length_append, List.length_cons, List.length_nil]; omega))) (Mem.sub e8 (.cons_cons _ (.cons_cons _ (.cons_cons _ (.cons_cons _ (.cons_cons _ .slnil)))))) z) rfl

theorem th {S : List Fr} {n : (List aa) × (List Int) × (List Int)} {x0 : af} {x1 : Int} {a1 : (List aj)} {v0 g1 : PV} {c4 c5 : Nat} (r0 : af.t.R x0 v0) (hs : SmH x0) (k8 : jh x0 x1 = a1) (e5 : (tSl aj.t).R a1 g1) (j8 : BO x0 a1) (j5 : a1.length ≤ 12) {K0 : (List Int) → (List Int) → (List aa) → ((List aa) × (List Int) × (List Int))}
  (o5 : ∀ {a8 b0 : List Int} {a9 : List aa} {a4 : List PV} {a7 : PV} {a3 : List PV} {a5 : PV} {a2 : List PV} {a6 : PV} (c3 : All2 tI.R a8 a4) (b7 : isL a7 = true) (b2 : Wri a7 a4) (b4 : a8.length ≤ 4611686018427387904) (c2 : All2 tI.R b0 a3) (c0 : isL a5 = true) (b1 : Wri a5 a3) (b5 : b0.length ≤ 4611686018427387904) (c1 : All2 aa.t.R a9 a2) (b9 : isL a6 = true) (b3 : Wri a6 a2) (b6 : a9.length ≤ 4611686018427387904) (o7 : a9.length ≤ 13000 ∧ b0.length ≤ 13000 ∧ a8.length ≤ 13000) {h : Heap} (M0 : Mem h [⟨a7, 3, 1, a4⟩, ⟨a5, 3, 1, a3⟩, ⟨a6, 87, 2, a2⟩, ⟨.op c4 c5 0, 157, 3, [.agg [a6, a5, a7]]⟩]), K0 a8 b0 a9 = n → PX Tryz.prog 0 S (QR Tryz.prog [(4, none), (5, none), (6, none)] (RF39 n)) [(7, .op c4 c5 0)] h) :
  ∀ {m : Nat} {a0 : Int} {a8 b0 : List Int} {a9 : List aa} {a4 : List PV} {a7 : PV} {a3 : List PV} {a5 : PV} {a2 : List PV} {a6 : PV} (c3 : All2 tI.R a8 a4) (b7 : isL a7 = true) (b2 : Wri a7 a4) (b4 : a8.length ≤ 4611686018427387904) (c2 : All2 tI.R b0 a3) (c0 : isL a5 = true) (b1 : Wri a5 a3) (b5 : b0.length ≤ 4611686018427387904) (c1 : All2 aa.t.R a9 a2) (b9 : isL a6 = true) (b3 : Wri a6 a2) (b6 : a9.length ≤ 4611686018427387904) (n7 : m = Int.toNat ((a1.length : Int) - a0)) (h7 : 0 ≤ a0) (f8 : (a9.length : Int) ≤ 1001 * a0) (f1 : (b0.length : Int) ≤ 1001 * a0) (f2 : (a8.length : Int) ≤ 1001 * a0) (f6 : a0 ≤ (a1.length : Int)) {h : Heap} (M0 : Mem h [⟨a7, 3, 1, a4⟩, ⟨a5, 3, 1, a3⟩, ⟨a6, 87, 2, a2⟩, ⟨.op c4 c5 0, 157, 3, [.agg [a6, a5, a7]]⟩]), du x0 a1 K0 m a0 a8 b0 a9 = n → RC Tryz.prog (.loop cc1) S (QR Tryz.prog [(4, none), (5, none), (6, none)] (RF39 n)) [(15, vi a0), (14, vi (a1.length : Int)), (13, g1), (7, .op c4 c5 0), (2, .fp v0)] h := by
 intro m
 induction m with
 | zero =>
  intro a0 a8 b0 a9 a4 a7 a3 a5 a2 a6 c3 b7 b2 b4 c2 c0 b1 b5 c1 b9 b3 b6 n7 h7 f8 f1 f2 f6 h M0 z
  rw [du] at z
  refine cj (sR (bN cn rfl rfl (nS (aq ?_))))
  refine cb rfl ?_ ?_ <;> intro c <;> try simp only [qa] at c
  ·omega
  refine dw (fj (dl ?_))
  exact wP (o5 c3 b7 b2 b4 c2 c0 b1 b5 c1 b9 b3 b6 (by omega) (Mem.sub M0 (.cons_cons _ (.cons_cons _ (.cons_cons _ (.cons_cons _ .slnil))))) z) rfl
 | succ m ih =>
  intro a0 a8 b0 a9 a4 a7 a3 a5 a2 a6 c3 b7 b2 b4 c2 c0 b1 b5 c1 b9 b3 b6 n7 h7 f8 f1 f2 f6 h M0 z
  rw [du] at z
  refine cj (sR (bN cn rfl rfl (nS (aq ?_))))
  refine cb rfl (fun d4 => ?_) (fun d4 => ?_)
  ·have hgo := z
   have h3 := d4
   try simp only [qa] at h3
   refine ax (am (aq (bh (sR ?_))))
   obtain ⟨d3, n1, d0⟩ := cz (i := a0) e5 (by first | omega | (have hj := jot (by assumption) (by assumption); have hk := bo_h (l := a1) (k := a0) (by assumption) (by omega) (by omega) (by omega); omega)) (by first | omega | (have hj := jot (by assumption) (by assumption); have hk := bo_h (l := a1) (k := a0) (by assumption) (by omega) (by omega) (by omega); omega))
   refine ae (bf rfl rfl n1) (lD d0 rfl rfl rfl ?_)
   refine gh (x := .agg [vi 0, vi 0, vi 0, vi 0, vi 0, nilS, nilS]) M0 rfl rfl (fun d2 c9 o6 n0 => ?_)
   refine fu (k := 0) (v := d3) n0 rfl rfl rfl (TR.cnt aj.t d0) (fun n3 e8 => ?_)
   replace e8 : Mem n3 [⟨.op d2 c9 0, 135, 7, [d3]⟩, ⟨a7, 3, 1, a4⟩, ⟨a5, 3, 1, a3⟩, ⟨a6, 87, 2, a2⟩, ⟨.op c4 c5 0, 157, 3, [.agg [a6, a5, a7]]⟩] := e8
   refine nR (ae (ba rfl) (ae (br (k := 0) e8 rfl rfl (aj.g_Kind d0)) (nS (bh (aq (sR (bN dc rfl rfl (mV rfl ?_))))))))
   refine nS ?_
   obtain ⟨m9, k0, z⟩ := bq z
   refine jw (F := fun b S Q => ∀ (c6 : Bool) (g6 : c6 = (if (decide (((ix a1 a0).Kind) = 1)) = true then (decide (((ix a1 a0).Kind) = 1)) else (decide (((ix a1 a0).Kind) = 4)))) (d8 : Heap) (c8 : Mem d8 [⟨.op d2 c9 0, 135, 7, [d3]⟩, ⟨a7, 3, 1, a4⟩, ⟨a5, 3, 1, a3⟩, ⟨a6, 87, 2, a2⟩, ⟨.op c4 c5 0, 157, 3, [.agg [a6, a5, a7]]⟩]), m9 c6 = n → RC Tryz.prog b S Q [(21, vb c6), (20, vi ((ix a1 a0).Kind)), (15, vi a0), (14, vi (a1.length : Int)), (13, g1), (9, .op d2 c9 0), (7, .op c4 c5 0), (2, .fp v0)] d8) ?_ ?_
   ·intro c6 g6 d8 c8 z
    rw [← k0] at z
    refine bm z rfl ?_ ?_ <;> clear z <;> intro h2 z <;> have i0 := h2 <;> try simp only [qa] at i0
    ·refine aw (ae (ba rfl) (ae (br (k := 4) c8 rfl rfl (mk1 (gf (k := 3) c8 rfl b9).2)) (ae (ba rfl) ?_)))
     obtain ⟨k7, m3, l5⟩ := aj.g_Dst d0
     refine ae (br (k := 0) c8 rfl rfl m3) (ae (v := .fs true [k7]) (fd rfl (all_cons (TR.cnt aa.t l5) iu)) ?_)
     have m6 : (tSl aa.t).R ([(ix a1 a0).Dst] : List aa) (.fs true [k7]) := mg ⟨l5, trivial⟩ (by simp)
     obtain ⟨d5, j9, g9⟩ := lb (t := aa.t) (h := d8) m6
     have l1 : fits (a2.length + d5.length) 16 = true := by rw [All2.length_eq c1, All2.length_eq g9]; (try simp only [List.length_cons, List.length_nil]); exact jl (by first | omega | (have hj := jot (by assumption) (by assumption); have hk := bo_h (l := a1) (k := a0) (by assumption) (by omega) (by omega) (by omega); have j2 := hs _ hk.1 hk.2; first | omega | (simp only [List.length_append, List.length_cons, List.length_nil]; omega))) (by first | omega | (have hj := jot (by assumption) (by assumption); have hk := bo_h (l := a1) (k := a0) (by assumption) (by omega) (by omega) (by omega); have j2 := hs _ hk.1 hk.2; first | omega | (simp only [List.length_append, List.length_cons, List.length_nil]; omega)))
     refine jk (k := 3) (es := a2) (news := d5) c8 rfl rfl rfl b9 b3 j9 l1 (fun i4 n8 l7 l6 k6 => ?_)
     have k5 : All2 aa.t.R (a9 ++ ([(ix a1 a0).Dst] : List aa)) (a2 ++ d5) := All2.app c1 g9
     have j1 : (a9 ++ ([(ix a1 a0).Dst] : List aa)).length ≤ 4611686018427387904 := by rw [← All2.length_eq k5, List.length_append]; exact gy l1
     refine ae (ba rfl) ?_
     refine gw (k := 4) (v := i4) k6 rfl rfl rfl (gf (k := 3) k6 rfl l7).1 rfl (by first | decide | (simp only [List.length_cons, List.length_nil]; omega) | simp) (fun n2 h8 => ?_)
     replace h8 : Mem n2 [⟨.op d2 c9 0, 135, 7, [d3]⟩, ⟨a7, 3, 1, a4⟩, ⟨a5, 3, 1, a3⟩, ⟨i4, 87, 2, (a2 ++ d5)⟩, ⟨.op c4 c5 0, 157, 3, [.agg [i4, a5, a7]]⟩] := h8
     refine bp (cp (cp (am (aw (bN em rfl rfl (mV rfl (bp (cq ?_))))))))
     have s := db e5
     have o : wr (a0 + 1) = a0 + 1 := de (by omega) (by omega)
     erw [o]
     exact wC (ih  c3 b7 b2 b4 c2 c0 b1 b5 k5 l7 l6 j1 (by omega) (by omega) (by first | omega | (simp only [List.length_append, List.length_cons, List.length_nil]; omega)) (by first | omega | (simp only [List.length_append, List.length_cons, List.length_nil]; omega)) (by first | omega | (simp only [List.length_append, List.length_cons, List.length_nil]; omega)) (by first | omega | (simp only [List.length_append, List.length_cons, List.length_nil]; omega)) (Mem.sub h8 (.cons _ (.cons_cons _ (.cons_cons _ (.cons_cons _ (.cons_cons _ .slnil)))))) z) rfl
    ·refine aq (sR (bN dc rfl rfl (mV rfl (nS ?_))))
     obtain ⟨m4, k9, z⟩ := bq z
     refine jw (F := fun b S Q => ∀ (c7 : Bool) (g8 : c7 = (if (decide (((ix a1 a0).Kind) = 2)) = true then (decide (((ix a1 a0).Kind) = 2)) else (decide (((ix a1 a0).Kind) = 3)))) (d1 : Heap) (b8 : Mem d1 [⟨.op d2 c9 0, 135, 7, [d3]⟩, ⟨a7, 3, 1, a4⟩, ⟨a5, 3, 1, a3⟩, ⟨a6, 87, 2, a2⟩, ⟨.op c4 c5 0, 157, 3, [.agg [a6, a5, a7]]⟩]), m4 c7 = n → RC Tryz.prog b S Q [(31, vb c7), (20, vi ((ix a1 a0).Kind)), (15, vi a0), (14, vi (a1.length : Int)), (13, g1), (9, .op d2 c9 0), (7, .op c4 c5 0), (2, .fp v0)] d1) ?_ ?_
     ·intro c7 g8 d1 b8 z
      rw [← k9] at z
      refine bm z rfl ?_ ?_ <;> clear z <;> intro g2 z <;> have i1 := g2 <;> try simp only [qa] at i1
      ·refine sR (ae (ba rfl) (ae (br (k := 4) b8 rfl rfl (mk1 (gf (k := 2) b8 rfl c0).2)) (ae (ba rfl) (ae (br (k := 0) b8 rfl rfl (aj.g_Header d0)) (ae (v := .fs true [vi ((ix a1 a0).Header)]) (fd rfl (all_cons rfl iu)) ?_)))))
       have n6 : (tSl tI).R ([(ix a1 a0).Header] : List Int) (.fs true [vi ((ix a1 a0).Header)]) := mg ⟨rfl, trivial⟩ (by simp)
       obtain ⟨d6, l8, f7⟩ := lb (t := tI) (h := d1) n6
       have l4 : fits (a3.length + d6.length) 8 = true := by rw [All2.length_eq c2, All2.length_eq f7]; (try simp only [List.length_cons, List.length_nil]); exact jl (by first | omega | (have hj := jot (by assumption) (by assumption); have hk := bo_h (l := a1) (k := a0) (by assumption) (by omega) (by omega) (by omega); have j2 := hs _ hk.1 hk.2; first | omega | (simp only [List.length_append, List.length_cons, List.length_nil]; omega))) (by first | omega | (have hj := jot (by assumption) (by assumption); have hk := bo_h (l := a1) (k := a0) (by assumption) (by omega) (by omega) (by omega); have j2 := hs _ hk.1 hk.2; first | omega | (simp only [List.length_append, List.length_cons, List.length_nil]; omega)))
       refine jk (k := 2) (es := a3) (news := d6) b8 rfl rfl rfl c0 b1 l8 l4 (fun i2 o3 i3 g5 j3 => ?_)
       have j4 : All2 tI.R (b0 ++ ([(ix a1 a0).Header] : List Int)) (a3 ++ d6) := All2.app c2 f7
       have g7 : (b0 ++ ([(ix a1 a0).Header] : List Int)).length ≤ 4611686018427387904 := by rw [← All2.length_eq j4, List.length_append]; exact gy l4
       refine ae (ba rfl) ?_
       refine gw (k := 4) (v := i2) j3 rfl rfl rfl (gf (k := 2) j3 rfl i3).1 rfl (by first | decide | (simp only [List.length_cons, List.length_nil]; omega) | simp) (fun n4 g0 => ?_)
       replace g0 : Mem n4 [⟨.op d2 c9 0, 135, 7, [d3]⟩, ⟨a7, 3, 1, a4⟩, ⟨i2, 3, 1, (a3 ++ d6)⟩, ⟨a6, 87, 2, a2⟩, ⟨.op c4 c5 0, 157, 3, [.agg [a6, i2, a7]]⟩] := g0
       refine nR (gL (af.g_Headers r0) rfl rfl rfl fun o1 n5 => (ae (ba rfl) (ae (br (k := 0) g0 rfl rfl (aj.g_Header d0)) ?_)))
       obtain ⟨n9, m7, m1⟩ := cz (i := (ix a1 a0).Header) n5 (by first | omega | (have hj := jot (by assumption) (by assumption); have hk := bo_h (l := a1) (k := a0) (by assumption) (by omega) (by omega) (by omega); omega)) (by first | omega | (have hj := jot (by assumption) (by assumption); have hk := bo_h (l := a1) (k := a0) (by assumption) (by omega) (by omega) (by omega); omega))
       refine ae (bf rfl rfl m7) (gL (cy.g_Fields m1) rfl rfl rfl fun o4 j6 => (ae (cv rfl (cm j6 Tryz.underlying23 _)) (mI rfl (nS (bh ?_)))))
       refine wC (tc hs k8 j8 j5 b7 b2 b4 c0 b1 b5 b9 b3 b6 h7 f8 f1 f2 f6 d4 d0 g6 h2 g8 g2 f7 g5 g7 i3 j6 ?_  c3 b7 b2 b4 j4 i3 g5 g7 c1 b9 b3 b6 rfl (by omega) (by first | omega | ((try dsimp only); (try simp only [List.length_append, List.length_cons, List.length_nil]); omega) | simp) (by first | omega | ((try dsimp only); (try simp only [List.length_append, List.length_cons, List.length_nil]); omega) | simp) (by first | omega | ((try dsimp only); (try simp only [List.length_append, List.length_cons, List.length_nil]); omega) | simp) (by first | omega | ((try dsimp only); (try simp only [List.length_append, List.length_cons, List.length_nil]); omega) | simp) (Mem.sub g0 (.cons_cons _ (.cons_cons _ (.cons_cons _ (.cons_cons _ (.cons_cons _ .slnil)))))) z) rfl
       ·intro h0 h1 g4 i5 i9 i7 j7 i6 k3 e7 f0 e0 e3 f3 f4 d9 e1 e6 f5 e2 e4 m0 o2 m8 z
        refine fx (cp (cp (am (aw (bN em rfl rfl (mV rfl (bp (cq ?_))))))))
        have s := db e5
        have o : wr (a0 + 1) = a0 + 1 := de (by omega) (by omega)
        erw [o]
        exact wC (ih  e7 f0 e0 e3 f3 f4 d9 e1 e6 f5 e2 e4 (by omega) (by omega) (by first | omega | (simp only [List.length_append, List.length_cons, List.length_nil]; omega)) (by first | omega | (simp only [List.length_append, List.length_cons, List.length_nil]; omega)) (by first | omega | (simp only [List.length_append, List.length_cons, List.length_nil]; omega)) (by first | omega | (simp only [List.length_append, List.length_cons, List.length_nil]; omega)) (Mem.sub m8 (.cons _ (.cons_cons _ (.cons_cons _ (.cons_cons _ (.cons_cons _ .slnil)))))) z) rfl
      ·refine sR (bN dc rfl rfl (mV rfl (nS ?_)))
       refine bm z rfl ?_ ?_ <;> clear z <;> intro c z <;> try simp only [qa] at c
       ·refine aw (ae (ba rfl) (ae (br (k := 4) b8 rfl rfl (mk1 (gf (k := 1) b8 rfl b7).2)) (ae (ba rfl) (ae (br (k := 0) b8 rfl rfl (aj.g_Register d0)) (ae (v := .fs true [vi ((ix a1 a0).Register)]) (fd rfl (all_cons rfl iu)) ?_)))))
        have m2 : (tSl tI).R ([(ix a1 a0).Register] : List Int) (.fs true [vi ((ix a1 a0).Register)]) := mg ⟨rfl, trivial⟩ (by simp)
        obtain ⟨d7, l9, g3⟩ := lb (t := tI) (h := d1) m2
        have k4 : fits (a4.length + d7.length) 8 = true := by rw [All2.length_eq c3, All2.length_eq g3]; (try simp only [List.length_cons, List.length_nil]); exact jl (by first | omega | (have hj := jot (by assumption) (by assumption); have hk := bo_h (l := a1) (k := a0) (by assumption) (by omega) (by omega) (by omega); have j2 := hs _ hk.1 hk.2; first | omega | (simp only [List.length_append, List.length_cons, List.length_nil]; omega))) (by first | omega | (have hj := jot (by assumption) (by assumption); have hk := bo_h (l := a1) (k := a0) (by assumption) (by omega) (by omega) (by omega); have j2 := hs _ hk.1 hk.2; first | omega | (simp only [List.length_append, List.length_cons, List.length_nil]; omega)))
        refine jk (k := 1) (es := a4) (news := d7) b8 rfl rfl rfl b7 b2 l9 k4 (fun h4 o0 l3 l0 i8 => ?_)
        have j0 : All2 tI.R (a8 ++ ([(ix a1 a0).Register] : List Int)) (a4 ++ d7) := All2.app c3 g3
        have l2 : (a8 ++ ([(ix a1 a0).Register] : List Int)).length ≤ 4611686018427387904 := by rw [← All2.length_eq j0, List.length_append]; exact gy k4
        refine ae (ba rfl) ?_
        refine gw (k := 4) (v := h4) i8 rfl rfl rfl (gf (k := 1) i8 rfl l3).1 rfl (by first | decide | (simp only [List.length_cons, List.length_nil]; omega) | simp) (fun m5 h9 => ?_)
        replace h9 : Mem m5 [⟨.op d2 c9 0, 135, 7, [d3]⟩, ⟨h4, 3, 1, (a4 ++ d7)⟩, ⟨a5, 3, 1, a3⟩, ⟨a6, 87, 2, a2⟩, ⟨.op c4 c5 0, 157, 3, [.agg [a6, a5, h4]]⟩] := h9
        refine bp (cp (cp (am (aw (bN em rfl rfl (mV rfl (bp (cq ?_))))))))
        have s := db e5
        have o : wr (a0 + 1) = a0 + 1 := de (by omega) (by omega)
        erw [o]
        exact wC (ih  j0 l3 l0 l2 c2 c0 b1 b5 c1 b9 b3 b6 (by omega) (by omega) (by first | omega | (simp only [List.length_append, List.length_cons, List.length_nil]; omega)) (by first | omega | (simp only [List.length_append, List.length_cons, List.length_nil]; omega)) (by first | omega | (simp only [List.length_append, List.length_cons, List.length_nil]; omega)) (by first | omega | (simp only [List.length_append, List.length_cons, List.length_nil]; omega)) (Mem.sub h9 (.cons _ (.cons_cons _ (.cons_cons _ (.cons_cons _ (.cons_cons _ .slnil)))))) z) rfl
       ·refine ax (cp (cp (am (aw (bN em rfl rfl (mV rfl (bp (cq ?_))))))))
        have s := db e5
        have o : wr (a0 + 1) = a0 + 1 := de (by omega) (by omega)
        erw [o]
        exact wC (ih  c3 b7 b2 b4 c2 c0 b1 b5 c1 b9 b3 b6 (by omega) (by omega) (by first | omega | (simp only [List.length_append, List.length_cons, List.length_nil]; omega)) (by first | omega | (simp only [List.length_append, List.length_cons, List.length_nil]; omega)) (by first | omega | (simp only [List.length_append, List.length_cons, List.length_nil]; omega)) (by first | omega | (simp only [List.length_append, List.length_cons, List.length_nil]; omega)) (Mem.sub b8 (.cons _ (.cons_cons _ (.cons_cons _ (.cons_cons _ (.cons_cons _ .slnil)))))) z) rfl
     ·intro J
      refine bm z rfl ?_ ?_ <;> clear z <;> intro f9 z <;> have h5 := f9 <;> try simp only [qa] at h5
      ·refine ax ?_
       refine am (wC (J _ (ac3 f9).symm _ (Mem.sub c8 (.cons_cons _ (.cons_cons _ (.cons_cons _ (.cons_cons _ (.cons_cons _ .slnil)))))) z) rfl)
      ·refine aw (bN dc rfl rfl (mV rfl (bp ?_)))
       refine am (wC (J _ (aa9 f9).symm _ (Mem.sub c8 (.cons_cons _ (.cons_cons _ (.cons_cons _ (.cons_cons _ (.cons_cons _ .slnil)))))) z) rfl)
   ·intro J
    refine bm z rfl ?_ ?_ <;> clear z <;> intro e9 z <;> have h6 := e9 <;> try simp only [qa] at h6
    ·refine ax ?_
     refine am (wC (J _ (ac3 e9).symm _ (Mem.sub e8 (.cons_cons _ (.cons_cons _ (.cons_cons _ (.cons_cons _ (.cons_cons _ .slnil)))))) z) rfl)
    ·refine aw (bN dc rfl rfl (mV rfl (bp ?_)))
     refine am (wC (J _ (aa9 e9).symm _ (Mem.sub e8 (.cons_cons _ (.cons_cons _ (.cons_cons _ (.cons_cons _ (.cons_cons _ .slnil)))))) z) rfl)
  ·exfalso
   try simp only [qa] at d4
   omega

theorem cl2 {x0 : af} {x1 : Int} {v0 : PV} (r0 : af.t.R x0 v0) (hs : SmH x0) : ∃ c0, ∃ c1, ∃ c2, FnR Tryz.prog 39 [v0, vi x1] (.tup [c0, c1, c2]) ∧ (tSl aa.t).R (kd x0 x1).1 c0 ∧ (tSl tI).R (kd x0 x1).2.1 c1 ∧ (tSl tI).R (kd x0 x1).2.2 c2 := by
 obtain ⟨n, z⟩ : ∃ n, kd x0 x1 = n := ⟨_, rfl⟩
 suffices H : RC Tryz.prog ce9 [] (QR Tryz.prog [(4, none), (5, none), (6, none)] (RF39 n)) (argE 0 [v0, vi x1]) ⟨0, []⟩ by
  rw [z]
  obtain ⟨r, h1, c0, c1, c2, rfl, h6, h7, h8⟩ := fnE bd3 (by simp) H
  exact ⟨c0, c1, c2, h1, h6, h7, h8⟩
 unfold kd at z
 refine sR (ae (ej rfl (TR.cnt af.t r0)) (ae (v := nilS) (av rfl) (ae (v := nilS) (av rfl) (ae (v := nilS) (av rfl) (nR ?_)))))
 refine gh (x := .agg [nilS, nilS, nilS]) (Mem.nil ⟨0, []⟩) rfl rfl (fun f6 f8 h4 g8 => ?_)
 refine nS (aq (sR (lD r0 rfl rfl rfl (mV rfl ?_))))
 obtain ⟨d8, a3, z⟩ := bq z
 obtain ⟨h5, h2, d6⟩ := aw5 (x1 := x1) r0 
 rw [a3] at d6
 have e0 : BO x0 d8 := vv a3
 have d9 : d8.length ≤ 12 := (vv a3).1
 refine cL h2 rfl rfl (ak (TR.clo af.t r0) (ak rfl bc)) (ae (cv rfl (cm d6 Tryz.underlying95 _)) (mI rfl (nS (bh ?_))))
 have g3 := nu (sz := 2) (es := []) g8 87 (.inl ⟨none, rfl, rfl⟩) (by simp)
 have g0 := nu (sz := 1) (es := []) g3 3 (.inl ⟨none, rfl, rfl⟩) (by simp)
 have g1 := nu (sz := 1) (es := []) g0 3 (.inl ⟨none, rfl, rfl⟩) (by simp)
 refine wC (th r0 hs a3 d6 e0 d9 ?_  aL rfl (.inl rfl) (by first | decide | simp) aL rfl (.inl rfl) (by first | decide | simp) aL rfl (.inl rfl) (by first | decide | simp) rfl (by omega) (by first | omega | ((try dsimp only); (try simp only [List.length_append, List.length_cons, List.length_nil]); omega) | simp) (by first | omega | ((try dsimp only); (try simp only [List.length_append, List.length_cons, List.length_nil]); omega) | simp) (by first | omega | ((try dsimp only); (try simp only [List.length_append, List.length_cons, List.length_nil]); omega) | simp) (by first | omega | ((try dsimp only); (try simp only [List.length_append, List.length_cons, List.length_nil]); omega) | simp) (Mem.sub g1 (.cons_cons _ (.cons_cons _ (.cons_cons _ (.cons_cons _ .slnil))))) z) rfl
 ·intro a5 b3 b1 b2 a1 a4 a2 a8 a0 b8 c5 a7 b0 c3 b7 a9 b4 b6 c4 b5 a6 f2 f7 g9 z
  refine fx (am (aq (gu ?_)))
  have h0 : Mem f7 [⟨.op f6 f8 0, 157, 3, [.agg [a0, a2, a1]]⟩, ⟨a0, 87, 2, a8⟩, ⟨a2, 3, 1, a4⟩, ⟨a1, 3, 1, b2⟩] := (Mem.front (k := 3) (Mem.front (k := 2) (Mem.front (k := 1) (Mem.front (k := 0) g9 rfl) rfl) rfl) rfl)
  obtain ⟨i0, e1, z⟩ := bq z
  obtain ⟨h3, h9, e5, d5⟩ := au5 (x0 := ({ fields := b1, headers := b3, registers := a5 } : bd)) b6 c4 a6 b5 c3 b7 b4 a9 b8 c5 b0 a7 h0 (by first | omega | ((try dsimp only); (try simp only [List.length_append, List.length_cons, List.length_nil]); omega) | simp)
  rw [e1] at d5
  obtain ⟨f0, f5, f1, e8, e7, f4, d7, c7, c9, c8, f3, c6, d4, d0, e6, d1, d2, d3, e9, b9⟩ := d5
  replace b9 := b9.symm; subst b9
  refine ko rfl rfl e5 (df (xT rfl rfl (dg (df (xT rfl rfl (dg (df (xT rfl rfl ?_))))))))
  refine dg (df (mV rfl (dg (df (mV rfl (dg (df (mV rfl ?_))))))))
  refine dg (mq (am ?_))
  obtain ⟨g2, e4, g7⟩ := ob (P := Tryz.prog) (k := 0) (t := aa.t) d7 rfl c9 c7 (Nat.le_trans c8 (by decide))
  obtain ⟨g4, e3, g6⟩ := ob (P := Tryz.prog) (k := 1) (t := tI) d7 rfl d4 c6 (Nat.le_trans d0 (by decide))
  obtain ⟨g5, e2, f9⟩ := ob (P := Tryz.prog) (k := 2) (t := tI) d7 rfl d2 d1 (Nat.le_trans d3 (by decide))
  subst z
  exact gm (.tmp rfl (.tmp rfl (.tmp rfl .nil))) (al3 (pr e4 (pr e3 (pr e2 an9))) (ak e4.1 (ak e3.1 (ak e2.1 bc)))) ⟨g2, g4, g5, rfl, g7, g6, f9⟩

end Go.Proofs.YtmonnlkagniolaaGreat
