/-
 The code of each function does what its plain program says.
-/
import Derived.Test.YthdnpgpnodgicaaGreatL7W5
set_option linter.all false
set_option maxRecDepth 100000
namespace Go.Proofs.YthdnpgpnodgicaaGreat
open Go Go.Pb Go.RowKit
def RF157 (res : Bool) (r : PV) : Prop := r = vb res
theorem bl7 {x0 : ae} {x1 : ae} {v0 v1 : PV} (r0 : ae.t.R x0 v0) (r1 : ae.t.R x1 v1) : FnR Tryz.prog 157 [v0, v1] (vb (ky x0 x1)) := by
 refine fnS (R := RF157) bl4 (fun _ h => h) rfl fun res hres => ?_
 unfold ky at hres
 refine sR (ab (dt rfl (TR.cnt ae.t r0)) (ab (dt rfl (TR.cnt ae.t r1)) (mB rfl (nR (fL rfl (ae.g_Mask r1) rfl rfl (fL rfl (ae.g_Mask r0) rfl rfl (ab (ba (a := cg x1.Mask) (b := cg x0.Mask) rfl rfl al5) (ab (ba (a := cg (x1.Mask &&& ~~~x0.Mask)) (b := cg 0#64) rfl rfl dg4) ?_))))))))
 refine mV rfl ?_
 refine cn 10 (d := 21) (v := vb ((decide ((x1.Mask &&& ~~~x0.Mask) = 0#64)) && (decide (((x0.Value ^^^ x1.Value) &&& x1.Mask) = 0#64)))) ?_ ?_
 ·intro S Q r
  cases a1 : (decide ((x1.Mask &&& ~~~x0.Mask) = 0#64))
  ·exact gN 9 rfl rfl rfl rfl rfl rfl
  ·intro k
   have a0 := a1
   try simp only [qa] at a0
   refine am rfl rfl (bz rfl (ae.g_Value r0)) (am rfl rfl (br rfl rfl rfl) (am rfl rfl (bz rfl (ae.g_Value r1)) (am rfl rfl (br rfl rfl rfl) (am rfl rfl (ba (a := cg x0.Value) (b := cg x1.Value) rfl rfl di1) (am rfl rfl (bz rfl (ae.g_Mask r1)) (am rfl rfl (br rfl rfl rfl) (am rfl rfl (ba (a := cg (x0.Value ^^^ x1.Value)) (b := cg x1.Mask) rfl rfl wl) (am rfl rfl (ba (a := cg ((x0.Value ^^^ x1.Value) &&& x1.Mask)) (b := cg 0#64) rfl rfl dg4) ?_))))))))
   exact gK rfl rfl rfl rfl rfl k
 refine mV rfl (nS ?_)
 exact rR hres rfl rfl rfl

def RF148 (res : Bool) (r : PV) : Prop := r = vb res
theorem wq {S : List Fr} {res : Bool} {x0 : List ae} {x1 : Int} {v0 : PV} (r0 : (tSl ae.t).R x0 v0) (hi : 0 ≤ x1) (hj : x1 < x0.length) {K0 : Unit → Bool}
  (c7 : ∀ {h : Heap} (M0 : Mem h []), K0 () = res → PX Tryz.prog 0 S (QR Tryz.prog [(4, none)] (RF148 res)) [] h) :
  ∀ {m : Nat} {a1 : Int} (c3 : m = Int.toNat ((x0.length : Int) - a1)) (a9 : 0 ≤ a1) {h : Heap} (M0 : Mem h []), gq x0 x1 K0 m a1 = res → RC Tryz.prog (.loop cm9) S (QR Tryz.prog [(4, none)] (RF148 res)) [(9, vi a1), (8, vi (x0.length : Int)), (7, v0), (1, vi x1), (0, v0)] h := by
 intro m
 induction m with
 | zero =>
  intro a1 c3 a9 h M0 hres
  rw [gq] at hres
  refine bt (sR (bN cy rfl rfl (nS (ah ?_))))
  refine bc rfl ?_ ?_ <;> intro c <;> try simp only [qa] at c
  ·omega
  refine dm (fb (df ?_))
  exact wP (c7 (Mem.sub M0 .slnil) hres) rfl
 | succ m ih =>
  intro a1 c3 a9 h M0 hres
  rw [gq] at hres
  refine bt (sR (bN cy rfl rfl (nS (ah ?_))))
  refine bc rfl ?_ ?_ <;> intro c <;> try simp only [qa] at c
  rotate_left
  ·omega
  refine ay (ai (ah (bd (sR (mV rfl ?_)))))
  obtain ⟨b0, b4, a0⟩ := dl (i := a1) r0 (by first | omega | omega) (by first | omega | omega)
  refine ab (bq rfl rfl b4) (lD a0 rfl rfl rfl ?_)
  refine dh (x := .agg [cg 0#64, cg 0#64]) M0 rfl rfl (fun b8 b7 c5 c0 => ?_)
  refine mV rfl ?_
  refine db (k := 0) (v := b0) c0 rfl rfl rfl (TR.cnt ae.t a0) (fun c1 a2 => ?_)
  replace a2 : Mem c1 [⟨.op b8 b7 0, 99, 2, [b0]⟩] := a2
  refine nS (ah (sR (mV rfl (mV rfl (bN oe rfl rfl (mV rfl ?_))))))
  refine cn 8 (d := 25) (v := vb ((decide (a1 = x1)) || (!(ky (ix x0 x1) (ix x0 a1))))) ?_ ?_
  ·intro S Q r
   cases b3 : (decide (a1 = x1))
   ·intro k
    have a6 := b3
    try simp only [qa] at a6
    refine am rfl rfl (au rfl) (am rfl rfl (au rfl) ?_)
    obtain ⟨c4, b6, a3⟩ := dl (i := x1) r0 (by first | omega | omega) (by first | omega | omega)
    refine am rfl rfl (bq rfl rfl b6) (am rfl rfl (br rfl (TR.cnt ae.t a3) (TR.agg ae.t a3)) (am rfl rfl (fw (k := 0) a2 rfl rfl (TR.agg ae.t a0)) ?_))
    have b9 := bl7  a3 a0 
    refine kp rfl rfl (sj rfl rfl (aq (TR.clo ae.t a3) (aq (TR.clo ae.t a0) bg)) b9) (am rfl rfl (io rfl) ?_)
    exact gK rfl rfl rfl rfl rfl k
   ·exact gN 7 rfl rfl rfl rfl rfl rfl
  refine nS ?_
  refine di hres rfl ?_ ?_ <;> clear hres <;> intro c hres <;> try simp only [qa] at c
  ·refine dm (fb (fe (ai (af (bN ep rfl rfl (mV rfl (aw (cx ?_))))))))
   have hbd := dv r0
   have hinc : wr (a1 + 1) = a1 + 1 := du (by omega) (by omega)
   erw [hinc]
   exact wC (ih   (by omega) (by omega) (Mem.sub a2 (.cons _ .slnil)) hres) rfl
  ·refine ay (ai (sR (ab (fw (k := 0) a2 rfl rfl (TR.agg ae.t a0)) (mV rfl (mV rfl ?_)))))
   obtain ⟨c6, b5, a5⟩ := dl (i := x1) r0 (by first | omega | omega) (by first | omega | omega)
   refine ab (bq rfl rfl b5) (lD a5 rfl rfl rfl ?_)
   obtain ⟨b2, a7, hres⟩ := dq hres
   have b1 := bl7  a0 a5 
   rw [a7] at b1
   refine cL b1 rfl rfl (aq (TR.clo ae.t a0) (aq (TR.clo ae.t a5) bg)) (ab (io rfl) (mV rfl ?_))
   refine cn 4 (d := 37) (v := vb ((!b2) || (decide (a1 < x1)))) ?_ ?_
   ·intro S Q r
    cases a8 : (!b2)
    ·intro k
     have a4 := a8
     try simp only [qa] at a4
     refine am rfl rfl (au rfl) (am rfl rfl (au rfl) (am rfl rfl (ba rfl rfl cy) ?_))
     exact gK rfl rfl rfl rfl rfl k
    ·exact gN 3 rfl rfl rfl rfl rfl rfl
   refine nS ?_
   refine di hres rfl ?_ ?_ <;> clear hres <;> intro c hres <;> try simp only [qa] at c
   ·refine sR (mB rfl (nS ?_))
    exact rR hres rfl rfl rfl
   ·refine ay (dj (ai (af (bN ep rfl rfl (mV rfl (aw (cx ?_)))))))
    have hbd := dv r0
    have hinc : wr (a1 + 1) = a1 + 1 := du (by omega) (by omega)
    erw [hinc]
    exact wC (ih   (by omega) (by omega) (Mem.sub a2 (.cons _ .slnil)) hres) rfl

theorem cq1 {x0 : List ae} {x1 : Int} {v0 : PV} (r0 : (tSl ae.t).R x0 v0) (hi : 0 ≤ x1) (hj : x1 < x0.length) : FnR Tryz.prog 148 [v0, vi x1] (vb (po x0 x1)) := by
 refine fnS (R := RF148) bm0 (fun _ h => h) rfl fun res hres => ?_
 unfold po at hres
 refine sR (mB rfl (nS (ah (sR (mV rfl (ab (cw rfl (cf r0 Tryz.underlying96 _)) (mI rfl (nS ?_))))))))
 refine bd ?_
 refine wC (wq r0 hi hj ?_  rfl (by omega) (Mem.sub (Mem.nil ⟨0, []⟩) .slnil) hres) rfl
 ·intro a0 a1 hres
  refine fe (ai (sR (mB rfl (nS ?_))))
  exact rR hres rfl rfl rfl

def RF124 (res : (List ae)) (r : PV) : Prop := (tSl ae.t).R res r
theorem xj {S : List Fr} {res : (List ae)} {x0 : List ae} {v0 : PV} (r0 : (tSl ae.t).R x0 v0) (hl : x0.length ≤ 1000000) {K0 : (List ae) → (List ae)}
  (d5 : ∀ {a1 : List ae} {a0 : List PV} {a2 : PV} (a5 : All2 ae.t.R a1 a0) (a7 : isL a2 = true) (a4 : Wri a2 a0) (a6 : a1.length ≤ 4611686018427387904) {h : Heap} (M0 : Mem h [⟨a2, 99, 2, a0⟩]), K0 a1 = res → PX Tryz.prog 0 S (QR Tryz.prog [(2, none)] (RF124 res)) [(3, a2)] h) :
  ∀ {m : Nat} {a3 : Int} {a1 : List ae} {a0 : List PV} {a2 : PV} (a5 : All2 ae.t.R a1 a0) (a7 : isL a2 = true) (a4 : Wri a2 a0) (a6 : a1.length ≤ 4611686018427387904) (d1 : m = Int.toNat ((x0.length : Int) - a3)) (b9 : 0 ≤ a3) (b2 : (a1.length : Int) ≤ a3) {h : Heap} (M0 : Mem h [⟨a2, 99, 2, a0⟩]), gx x0 K0 m a3 a1 = res → RC Tryz.prog (.loop ci1) S (QR Tryz.prog [(2, none)] (RF124 res)) [(8, vi a3), (7, vi (x0.length : Int)), (6, v0), (3, a2), (0, v0)] h := by
 intro m
 induction m with
 | zero =>
  intro a3 a1 a0 a2 a5 a7 a4 a6 d1 b9 b2 h M0 hres
  rw [gx] at hres
  refine bt (sR (bN cy rfl rfl (nS (ah ?_))))
  refine bc rfl ?_ ?_ <;> intro c <;> try simp only [qa] at c
  ·omega
  refine dm (fb (df ?_))
  exact wP (d5 a5 a7 a4 a6 (Mem.sub M0 (.cons_cons _ .slnil)) hres) rfl
 | succ m ih =>
  intro a3 a1 a0 a2 a5 a7 a4 a6 d1 b9 b2 h M0 hres
  rw [gx] at hres
  refine bt (sR (bN cy rfl rfl (nS (ah ?_))))
  refine bc rfl ?_ ?_ <;> intro c <;> try simp only [qa] at c
  rotate_left
  ·omega
  refine ay (ai (ah (bd (sR (mV rfl ?_)))))
  obtain ⟨c0, c7, a9⟩ := dl (i := a3) r0 (by first | omega | (have hk := bn (by assumption) (by assumption); omega) | (have hk := tck (by assumption) (by assumption); omega) | (have hk := rtck (by assumption) (by assumption); omega) | (have hk := eck (by assumption) (by assumption) (by assumption); omega) | (have hk := tv (by assumption) (by assumption); omega) | (have hk := rtv (by assumption) (by assumption); omega)) (by first | omega | (have hk := bn (by assumption) (by assumption); omega) | (have hk := tck (by assumption) (by assumption); omega) | (have hk := rtck (by assumption) (by assumption); omega) | (have hk := eck (by assumption) (by assumption) (by assumption); omega) | (have hk := tv (by assumption) (by assumption); omega) | (have hk := rtv (by assumption) (by assumption); omega))
  refine ab (bq rfl rfl c7) (lD a9 rfl rfl rfl ?_)
  refine dh (x := .agg [cg 0#64, cg 0#64]) M0 rfl rfl (fun c9 c8 d6 c4 => ?_)
  refine mV rfl ?_
  refine db (k := 0) (v := c0) c4 rfl rfl rfl (TR.cnt ae.t a9) (fun b8 a8 => ?_)
  replace a8 : Mem b8 [⟨.op c9 c8 0, 99, 2, [c0]⟩, ⟨a2, 99, 2, a0⟩] := a8
  refine nR (mV rfl (mV rfl ?_))
  obtain ⟨d3, c1, hres⟩ := dq hres
  have b7 := cq1 (x1 := a3) r0 (by first | assumption | omega | (have := rv (by assumption) (by assumption); omega) | (rw [du (by omega) (by omega)]; omega) | (simp only [List.length_cons, List.length_nil]; omega)) (by first | assumption | omega | (have := rv (by assumption) (by assumption); omega) | (rw [du (by omega) (by omega)]; omega) | (simp only [List.length_cons, List.length_nil]; omega))
  rw [c1] at b7
  refine cL b7 rfl rfl (aq (TR.clo (tSl ae.t) r0) (aq rfl bg)) (ab (io rfl) (nS ?_))
  refine di hres rfl ?_ ?_ <;> clear hres <;> intro c hres <;> try simp only [qa] at c
  ·refine af (mV rfl (ab (bf rfl) (ab (cp (k := 0) a8 rfl rfl (ae.g_Value a9)) (ab (bf rfl) (ab (cp (k := 0) a8 rfl rfl (ae.g_Mask a9)) (ab (ba (a := cg ((ix x0 a3).Value)) (b := cg ((ix x0 a3).Mask)) rfl rfl wl) (ab (bf rfl) (ab (cp (k := 0) a8 rfl rfl (ae.g_Mask a9)) ?_))))))))
   refine ab (v := .agg [cg (((ix x0 a3).Value) &&& ((ix x0 a3).Mask)), cg ((ix x0 a3).Mask)]) (nt (cs := [cg (((ix x0 a3).Value) &&& ((ix x0 a3).Mask)), cg ((ix x0 a3).Mask)]) rfl rfl) (ab (v := .fs true [.agg [cg (((ix x0 a3).Value) &&& ((ix x0 a3).Mask)), cg ((ix x0 a3).Mask)]]) (iw rfl (all_cons rfl lu)) ?_)
   have d0 : (tSl ae.t).R ([({ Value := (((ix x0 a3).Value) &&& ((ix x0 a3).Mask)), Mask := (ix x0 a3).Mask } : ae)] : List ae) (.fs true [.agg [cg (((ix x0 a3).Value) &&& ((ix x0 a3).Mask)), cg ((ix x0 a3).Mask)]]) := tp ⟨rfl, trivial⟩ (by simp)
   obtain ⟨b0, b4, b1⟩ := uv (t := ae.t) (h := b8) d0
   have c3 : fits (a0.length + b0.length) 16 = true := by rw [All2.length_eq a5, All2.length_eq b1]; (try simp only [List.length_cons, List.length_nil]); exact oz (by omega) (by omega)
   refine pt (k := 1) (es := a0) (news := b0) a8 rfl rfl rfl a7 a4 b4 c3 (fun d4 d2 c6 b3 c5 => ?_)
   have b5 : All2 ae.t.R (a1 ++ ([({ Value := (((ix x0 a3).Value) &&& ((ix x0 a3).Mask)), Mask := (ix x0 a3).Mask } : ae)] : List ae)) (a0 ++ b0) := All2.app a5 b1
   have b6 : (a1 ++ ([({ Value := (((ix x0 a3).Value) &&& ((ix x0 a3).Mask)), Mask := (ix x0 a3).Mask } : ae)] : List ae)).length ≤ 4611686018427387904 := by rw [← All2.length_eq b5, List.length_append]; exact ur c3
   refine mV rfl (aw (dj (ai (af (bN ep rfl rfl (mV rfl (aw (cx ?_))))))))
   have hbd := dv r0
   have hinc : wr (a3 + 1) = a3 + 1 := du (by omega) (by omega)
   erw [hinc]
   exact wC (ih  b5 c6 b3 b6 (by omega) (by omega) (by first | omega | (simp; done) | (simp only [List.length_append, List.length_cons, List.length_nil, List.length_set]; omega)) (Mem.sub c5 (.cons _ (.cons_cons _ .slnil))) hres) rfl
  ·refine ay (dj (ai (af (bN ep rfl rfl (mV rfl (aw (cx ?_)))))))
   have hbd := dv r0
   have hinc : wr (a3 + 1) = a3 + 1 := du (by omega) (by omega)
   erw [hinc]
   exact wC (ih  a5 a7 a4 a6 (by omega) (by omega) (by first | omega | (simp; done) | (simp only [List.length_append, List.length_cons, List.length_nil, List.length_set]; omega)) (Mem.sub a8 (.cons _ (.cons_cons _ .slnil))) hres) rfl

theorem da7 {x0 : List ae} {v0 : PV} (r0 : (tSl ae.t).R x0 v0) (hl : x0.length ≤ 1000000) : ∃ r, FnR Tryz.prog 124 [v0] r ∧ (tSl ae.t).R (nu x0) r := by
 refine fnT (R := RF124) br3 rfl fun res hres => ?_
 unfold nu at hres
 refine sR (ab (v := nilS) (au rfl) (nR (ab (v := nilS) (au rfl) (nS (ah (sR (mV rfl (ab (cw rfl (cf r0 Tryz.underlying96 _)) ?_))))))))
 refine mI rfl (nS (bd ?_))
 have a7 := pq (sz := 2) (es := []) (Mem.nil ⟨0, []⟩) 99 (.inl ⟨none, rfl, rfl⟩) (by simp)
 refine wC (xj r0 hl ?_  aL rfl (.inl rfl) (by first | decide | simp) rfl (by omega) (by first | omega | (simp; done) | (simp only [List.length_append, List.length_cons, List.length_nil, List.length_set]; omega)) (Mem.sub a7 (.cons_cons _ .slnil)) hres) rfl
 ·intro a4 a3 a6 a1 a2 a5 a0 b1 b0 hres
  refine fe (ai (sR (mV rfl (mV rfl (nS ?_)))))
  obtain ⟨b2, a9, a8⟩ := xr (P := Tryz.prog) (k := 0) (t := ae.t) b0 rfl a2 a1 (Nat.le_trans a0 (by decide))
  subst hres
  exact dw (.tmp rfl .nil) a9 a8

def RF99 (res : (List ae) × Int) (r : PV) : Prop := ∃ c0, r = .tup [c0, vi res.2] ∧ (tSl ae.t).R res.1 c0
theorem cm7 {x0 : List ae} {v0 : PV} (r0 : (tSl ae.t).R x0 v0) (hl : x0.length ≤ 1000000) : ∃ c0, FnR Tryz.prog 99 [v0] (.tup [c0, vi ((fi x0).2)]) ∧ (tSl ae.t).R (fi x0).1 c0 := by
 obtain ⟨res, hres⟩ : ∃ res, fi x0 = res := ⟨_, rfl⟩
 suffices H : RC Tryz.prog ek8 [] (QR Tryz.prog [(2, none), (3, none)] (RF99 res)) (argE 0 [v0]) ⟨0, []⟩ by
  rw [hres]
  obtain ⟨r, h1, c0, rfl, a4⟩ := fnE ce9 (by simp) H
  exact ⟨c0, h1, a4⟩
 unfold fi at hres
 refine sR (ab (v := nilS) (au rfl) (mI rfl (nR (mV rfl ?_))))
 obtain ⟨a5, a1, hres⟩ := dq hres
 obtain ⟨a2, a3, a0⟩ := da7  r0 (by first | assumption | omega | (have := rv (by assumption) (by assumption); omega) | (rw [du (by omega) (by omega)]; omega) | (simp only [List.length_cons, List.length_nil]; omega))
 rw [a1] at a0
 refine cL a3 rfl rfl (aq (TR.clo (tSl ae.t) r0) bg) (mV rfl (nS (ah (sR (mV rfl (ab (cw rfl (cf a0 Tryz.underlying96 _)) (bN ij rfl rfl (nS ?_))))))))
 refine di hres rfl ?_ ?_ <;> clear hres <;> intro c hres <;> try simp only [qa] at c
 ·refine sR (ab (v := nilS) (au rfl) (mI rfl (nS ?_)))
  subst hres
  exact dw (.tmp rfl (.tmp rfl .nil)) (ck (show closed (.tup _) = true from (aq (TR.clo (tSl ae.t) gu) (aq rfl bg)))) ⟨nilS, rfl, gu⟩
 ·refine ay (ai (sR (mV rfl (mV rfl (mI rfl (nS ?_))))))
  subst hres
  exact dw (.tmp rfl (.tmp rfl .nil)) (ck (show closed (.tup _) = true from (aq (TR.clo (tSl ae.t) a0) (aq rfl bg)))) ⟨a2, rfl, a0⟩

def RF100 (res : (List ae)) (r : PV) : Prop := (tSl ae.t).R res r
theorem xb {S : List Fr} {res : (List ae)} {x0 : List ae} {x1 : Int} {v0 : PV} (r0 : (tSl ae.t).R x0 v0) (hw : x1 ≤ 64) (h0 : 0 ≤ x1) (hl : x0.length ≤ 1000000) {K0 : (List ae) → (List ae)}
  (d1 : ∀ {a2 : List ae} {a1 : List PV} {a3 : PV} (a5 : All2 ae.t.R a2 a1) (a7 : isL a3 = true) (a4 : Wri a3 a1) (a6 : a2.length ≤ 4611686018427387904) {h : Heap} (M0 : Mem h [⟨a3, 99, 2, a1⟩]), K0 a2 = res → PX Tryz.prog 0 S (QR Tryz.prog [(4, none)] (RF100 res)) [(6, a3)] h) :
  ∀ {m : Nat} {a0 : Int} {a2 : List ae} {a1 : List PV} {a3 : PV} (a5 : All2 ae.t.R a2 a1) (a7 : isL a3 = true) (a4 : Wri a3 a1) (a6 : a2.length ≤ 4611686018427387904) (c9 : m = Int.toNat ((x0.length : Int) - a0)) (b5 : 0 ≤ a0) (b2 : (a2.length : Int) ≤ a0) {h : Heap} (M0 : Mem h [⟨a3, 99, 2, a1⟩]), jh x0 x1 K0 m a0 a2 = res → RC Tryz.prog (.loop ci2) S (QR Tryz.prog [(4, none)] (RF100 res)) [(15, vi a0), (14, vi (x0.length : Int)), (13, v0), (6, a3), (5, cg (18446744073709551615#64 >>> (wr (64 - x1)).toNat))] h := by
 intro m
 induction m with
 | zero =>
  intro a0 a2 a1 a3 a5 a7 a4 a6 c9 b5 b2 h M0 hres
  rw [jh] at hres
  refine bt (sR (bN cy rfl rfl (nS (ah ?_))))
  refine bc rfl ?_ ?_ <;> intro c <;> try simp only [qa] at c
  ·omega
  refine dm (fb (df ?_))
  exact wP (d1 a5 a7 a4 a6 (Mem.sub M0 (.cons_cons _ .slnil)) hres) rfl
 | succ m ih =>
  intro a0 a2 a1 a3 a5 a7 a4 a6 c9 b5 b2 h M0 hres
  rw [jh] at hres
  refine bt (sR (bN cy rfl rfl (nS (ah ?_))))
  refine bc rfl ?_ ?_ <;> intro c <;> try simp only [qa] at c
  rotate_left
  ·omega
  refine ay (ai (ah (bd (sR ?_))))
  obtain ⟨b9, c3, b0⟩ := dl (i := a0) r0 (by first | omega | (have hk := bn (by assumption) (by assumption); omega) | (have hk := tck (by assumption) (by assumption); omega) | (have hk := rtck (by assumption) (by assumption); omega) | (have hk := eck (by assumption) (by assumption) (by assumption); omega) | (have hk := tv (by assumption) (by assumption); omega) | (have hk := rtv (by assumption) (by assumption); omega)) (by first | omega | (have hk := bn (by assumption) (by assumption); omega) | (have hk := tck (by assumption) (by assumption); omega) | (have hk := rtck (by assumption) (by assumption); omega) | (have hk := eck (by assumption) (by assumption) (by assumption); omega) | (have hk := tv (by assumption) (by assumption); omega) | (have hk := rtv (by assumption) (by assumption); omega))
  refine ab (bq rfl rfl c3) (lD b0 rfl rfl rfl ?_)
  refine dh (x := .agg [cg 0#64, cg 0#64]) M0 rfl rfl (fun c7 c4 d3 c1 => ?_)
  refine db (k := 0) (v := b9) c1 rfl rfl rfl (TR.cnt ae.t b0) (fun b6 a8 => ?_)
  replace a8 : Mem b6 [⟨.op c7 c4 0, 99, 2, [b9]⟩, ⟨a3, 99, 2, a1⟩] := a8
  refine nR (ab (bf rfl) (ab (cp (k := 0) a8 rfl rfl (ae.g_Mask b0)) (mV rfl (ab (ba (a := cg ((ix x0 a0).Mask)) (b := cg (18446744073709551615#64 >>> (wr (64 - x1)).toNat)) rfl rfl wl) (mV rfl (nS (af (mV rfl ?_))))))))
  refine ab (bf rfl) (ab (cp (k := 0) a8 rfl rfl (ae.g_Value b0)) (mV rfl (ab (ba (a := cg ((ix x0 a0).Value)) (b := cg (((ix x0 a0).Mask) &&& (18446744073709551615#64 >>> (wr (64 - x1)).toNat))) rfl rfl wl) (mV rfl (ab (v := .agg [cg (((ix x0 a0).Value) &&& (((ix x0 a0).Mask) &&& (18446744073709551615#64 >>> (wr (64 - x1)).toNat))), cg (((ix x0 a0).Mask) &&& (18446744073709551615#64 >>> (wr (64 - x1)).toNat))]) (nt (cs := [cg (((ix x0 a0).Value) &&& (((ix x0 a0).Mask) &&& (18446744073709551615#64 >>> (wr (64 - x1)).toNat))), cg (((ix x0 a0).Mask) &&& (18446744073709551615#64 >>> (wr (64 - x1)).toNat))]) rfl rfl) (ab (v := .fs true [.agg [cg (((ix x0 a0).Value) &&& (((ix x0 a0).Mask) &&& (18446744073709551615#64 >>> (wr (64 - x1)).toNat))), cg (((ix x0 a0).Mask) &&& (18446744073709551615#64 >>> (wr (64 - x1)).toNat))]]) (iw rfl (all_cons rfl lu)) ?_))))))
  have c6 : (tSl ae.t).R ([({ Value := (((ix x0 a0).Value) &&& (((ix x0 a0).Mask) &&& (18446744073709551615#64 >>> (wr (64 - x1)).toNat))), Mask := (((ix x0 a0).Mask) &&& (18446744073709551615#64 >>> (wr (64 - x1)).toNat)) } : ae)] : List ae) (.fs true [.agg [cg (((ix x0 a0).Value) &&& (((ix x0 a0).Mask) &&& (18446744073709551615#64 >>> (wr (64 - x1)).toNat))), cg (((ix x0 a0).Mask) &&& (18446744073709551615#64 >>> (wr (64 - x1)).toNat))]]) := tp ⟨rfl, trivial⟩ (by simp)
  obtain ⟨a9, c0, b1⟩ := uv (t := ae.t) (h := b6) c6
  have b8 : fits (a1.length + a9.length) 16 = true := by rw [All2.length_eq a5, All2.length_eq b1]; (try simp only [List.length_cons, List.length_nil]); exact oz (by omega) (by omega)
  refine pt (k := 1) (es := a1) (news := a9) a8 rfl rfl rfl a7 a4 c0 b8 (fun d0 d2 c8 b7 c5 => ?_)
  have b4 : All2 ae.t.R (a2 ++ ([({ Value := (((ix x0 a0).Value) &&& (((ix x0 a0).Mask) &&& (18446744073709551615#64 >>> (wr (64 - x1)).toNat))), Mask := (((ix x0 a0).Mask) &&& (18446744073709551615#64 >>> (wr (64 - x1)).toNat)) } : ae)] : List ae)) (a1 ++ a9) := All2.app a5 b1
  have b3 : (a2 ++ ([({ Value := (((ix x0 a0).Value) &&& (((ix x0 a0).Mask) &&& (18446744073709551615#64 >>> (wr (64 - x1)).toNat))), Mask := (((ix x0 a0).Mask) &&& (18446744073709551615#64 >>> (wr (64 - x1)).toNat)) } : ae)] : List ae)).length ≤ 4611686018427387904 := by rw [← All2.length_eq b4, List.length_append]; exact ur b8
  refine mV rfl (aw (dj (ai (af (bN ep rfl rfl (mV rfl (aw (cx ?_))))))))
  have hbd := dv r0
  have hinc : wr (a0 + 1) = a0 + 1 := du (by omega) (by omega)
  erw [hinc]
  exact wC (ih  b4 c8 b7 b3 (by omega) (by omega) (by first | omega | (simp; done) | (simp only [List.length_append, List.length_cons, List.length_nil, List.length_set]; omega)) (Mem.sub c5 (.cons _ (.cons_cons _ .slnil))) hres) rfl

theorem df4 {x0 : List ae} {x1 : Int} {v0 : PV} (r0 : (tSl ae.t).R x0 v0) (hw : x1 ≤ 64) (h0 : 0 ≤ x1) (hl : x0.length ≤ 1000000) : ∃ r, FnR Tryz.prog 100 [v0, vi x1] r ∧ (tSl ae.t).R (ju x0 x1) r := by
 refine fnT (R := RF100) bn5 rfl fun res hres => ?_
 unfold ju at hres
 refine sR (ab (v := nilS) (au rfl) (nR (mV rfl (bN af9 rfl rfl (ab (ba (a := cg 18446744073709551615#64) (b := vi (wr (64 - x1))) rfl rfl (bc9 (by first | omega | (rw [du (by omega) (by omega)]; omega)))) (mV rfl (nR (ab (v := nilS) (au rfl) ?_))))))))
 refine nS (ah (sR (mV rfl (ab (cw rfl (cf r0 Tryz.underlying96 _)) (mI rfl (nS (bd ?_)))))))
 have a7 := pq (sz := 2) (es := []) (Mem.nil ⟨0, []⟩) 99 (.inl ⟨none, rfl, rfl⟩) (by simp)
 refine wC (xb r0 hw h0 hl ?_  aL rfl (.inl rfl) (by first | decide | simp) rfl (by omega) (by first | omega | (simp; done) | (simp only [List.length_append, List.length_cons, List.length_nil, List.length_set]; omega)) (Mem.sub a7 (.cons_cons _ .slnil)) hres) rfl
 ·intro a3 a4 a6 a2 a1 a5 a0 b2 b0 hres
  refine fe (ai (sR (mV rfl (mV rfl (nS ?_)))))
  obtain ⟨b1, a9, a8⟩ := xr (P := Tryz.prog) (k := 0) (t := ae.t) b0 rfl a1 a2 (Nat.le_trans a0 (by decide))
  subst hres
  exact dw (.tmp rfl .nil) a9 a8

def RF125 (res : Bool) (r : PV) : Prop := r = vb res
theorem dc8 {x0 : Int} : FnR Tryz.prog 125 [vi x0] (vb (qq x0)) := by
 refine fnS (R := RF125) bl9 (fun _ h => h) rfl fun res hres => ?_
 unfold qq at hres
 refine sR (mB rfl (nR (mV rfl (bN tn rfl rfl (mV rfl ?_)))))
 refine cn 3 (d := 8) (v := vb ((decide (1 ≤ x0)) && (decide (x0 ≤ 64)))) ?_ ?_
 ·intro S Q r
  cases a1 : (decide (1 ≤ x0))
  ·exact gN 2 rfl rfl rfl rfl rfl rfl
  ·intro k
   have a0 := a1
   try simp only [qa] at a0
   refine am rfl rfl (au rfl) (am rfl rfl (ba rfl rfl bz2) ?_)
   exact gK rfl rfl rfl rfl rfl k
 refine mV rfl (nS ?_)
 exact rR hres rfl rfl rfl

def RF126 (res : (BitVec 64)) (r : PV) : Prop := r = cg res
theorem bj0 {x0 : Int} (hw : x0 ≤ 64) (h0 : 0 ≤ x0) : FnR Tryz.prog 126 [vi x0] (cg (dz x0)) := by
 refine fnS (R := RF126) bl1 (fun _ h => h) rfl fun res hres => ?_
 unfold dz at hres
 refine sR (ab (v := cg 0#64) (au rfl) (nR (mV rfl (bN af9 rfl rfl (ab (ba (a := cg 18446744073709551615#64) (b := vi (wr (64 - x0))) rfl rfl (bc9 (by first | omega | (rw [du (by omega) (by omega)]; omega)))) (mV rfl (nS ?_)))))))
 exact rR hres rfl rfl rfl

def RF127 (res : ae) (r : PV) : Prop := ae.t.R res r
theorem bq5 {x0 : ae} {v0 : PV} (r0 : ae.t.R x0 v0) : ∃ r, FnR Tryz.prog 127 [v0] r ∧ ae.t.R (fc x0) r := by
 refine fnT (R := RF127) bm8 rfl fun res hres => ?_
 unfold fc at hres
 refine sR (ab (dt rfl (TR.cnt ae.t r0)) ?_)
 refine dh (x := .agg [cg 0#64, cg 0#64]) (Mem.nil ⟨0, []⟩) rfl rfl (fun a1 a4 a5 a2 => ?_)
 refine nR (fL rfl (ae.g_Value r0) rfl rfl (fL rfl (ae.g_Mask r0) rfl rfl (ab (ba (a := cg x0.Value) (b := cg x0.Mask) rfl rfl wl) (fL rfl (ae.g_Mask r0) rfl rfl (ab (v := .agg [cg (x0.Value &&& x0.Mask), cg x0.Mask]) (nt (cs := [cg (x0.Value &&& x0.Mask), cg x0.Mask]) rfl rfl) ?_)))))
 refine db (k := 0) (v := .agg [cg (x0.Value &&& x0.Mask), cg x0.Mask]) a2 rfl rfl rfl rfl (fun a3 a0 => ?_)
 replace a0 : Mem a3 [⟨.op a1 a4 0, 99, 2, [.agg [cg (x0.Value &&& x0.Mask), cg x0.Mask]]⟩] := a0
 refine nS ?_
 subst hres
 exact dw (.cell rfl (jk (k := 0) a0 rfl rfl) .nil) (ck (TR.clo ae.t (show ae.t.R ({ Value := (x0.Value &&& x0.Mask), Mask := x0.Mask } : ae) (.agg [cg (x0.Value &&& x0.Mask), cg x0.Mask]) from rfl))) (show ae.t.R ({ Value := (x0.Value &&& x0.Mask), Mask := x0.Mask } : ae) (.agg [cg (x0.Value &&& x0.Mask), cg x0.Mask]) from rfl)

def RF128 (res : ae × Bool) (r : PV) : Prop := ∃ c0, r = .tup [c0, vb res.2] ∧ ae.t.R res.1 c0
theorem ct6 {x0 : ae} {x1 : ae} {v0 v1 : PV} (r0 : ae.t.R x0 v0) (r1 : ae.t.R x1 v1) : ∃ c0, FnR Tryz.prog 128 [v0, v1] (.tup [c0, vb ((ig x0 x1).2)]) ∧ ae.t.R (ig x0 x1).1 c0 := by
 obtain ⟨res, hres⟩ : ∃ res, ig x0 x1 = res := ⟨_, rfl⟩
 suffices H : RC Tryz.prog dh8 [] (QR Tryz.prog [(4, some (2, true)), (5, none)] (RF128 res)) (argE 0 [v0, v1]) ⟨0, []⟩ by
  rw [hres]
  obtain ⟨r, h1, c0, rfl, a7⟩ := fnE bm3 (by simp) H
  exact ⟨c0, h1, a7⟩
 unfold ig at hres
 refine sR (ab (dt rfl (TR.cnt ae.t r0)) (ab (dt rfl (TR.cnt ae.t r1)) ?_))
 refine dh (x := .agg [cg 0#64, cg 0#64]) (Mem.nil ⟨0, []⟩) rfl rfl (fun a3 a4 a8 a2 => ?_)
 refine mB rfl (nS (ah (sR (fL rfl (ae.g_Value r0) rfl rfl (fL rfl (ae.g_Value r1) rfl rfl (ab (ba (a := cg x0.Value) (b := cg x1.Value) rfl rfl di1) (fL rfl (ae.g_Mask r0) rfl rfl (ab (ba (a := cg (x0.Value ^^^ x1.Value)) (b := cg x0.Mask) rfl rfl wl) ?_))))))))
 refine fL rfl (ae.g_Mask r1) rfl rfl (ab (ba (a := cg ((x0.Value ^^^ x1.Value) &&& x0.Mask)) (b := cg x1.Mask) rfl rfl wl) (ab (ba (a := cg (((x0.Value ^^^ x1.Value) &&& x0.Mask) &&& x1.Mask)) (b := cg 0#64) rfl rfl cc5) (nS ?_)))
 refine di hres rfl ?_ ?_ <;> clear hres <;> intro c hres <;> try simp only [qa] at c
 ·refine sR (ab (v := .agg [cg 0#64, cg 0#64]) (nt (cs := [cg 0#64, cg 0#64]) rfl rfl) ?_)
  refine db (k := 0) (v := .agg [cg 0#64, cg 0#64]) a2 rfl rfl rfl rfl (fun a5 a1 => ?_)
  replace a1 : Mem a5 [⟨.op a3 a4 0, 99, 2, [.agg [cg 0#64, cg 0#64]]⟩] := a1
  refine mB rfl (nS ?_)
  subst hres
  exact dw (.cell rfl (jk (k := 0) a1 rfl rfl) (.tmp rfl .nil)) (ck (show closed (.tup _) = true from (aq (TR.clo ae.t (show ae.t.R ({ Value := 0#64, Mask := 0#64 } : ae) (.agg [cg 0#64, cg 0#64]) from rfl)) (aq rfl bg)))) ⟨.agg [cg 0#64, cg 0#64], rfl, rfl⟩
 ·refine ay (ai (sR (fL rfl (ae.g_Value r0) rfl rfl (fL rfl (ae.g_Mask r0) rfl rfl (ab (ba (a := cg x0.Value) (b := cg x0.Mask) rfl rfl wl) (fL rfl (ae.g_Value r1) rfl rfl (fL rfl (ae.g_Mask r1) rfl rfl (ab (ba (a := cg x1.Value) (b := cg x1.Mask) rfl rfl wl) ?_))))))))
  refine ab (ba (a := cg (x0.Value &&& x0.Mask)) (b := cg (x1.Value &&& x1.Mask)) rfl rfl d_or) (fL rfl (ae.g_Mask r0) rfl rfl (fL rfl (ae.g_Mask r1) rfl rfl (ab (ba (a := cg x0.Mask) (b := cg x1.Mask) rfl rfl d_or) (ab (v := .agg [cg ((x0.Value &&& x0.Mask) ||| (x1.Value &&& x1.Mask)), cg (x0.Mask ||| x1.Mask)]) (nt (cs := [cg ((x0.Value &&& x0.Mask) ||| (x1.Value &&& x1.Mask)), cg (x0.Mask ||| x1.Mask)]) rfl rfl) ?_))))
  refine db (k := 0) (v := .agg [cg ((x0.Value &&& x0.Mask) ||| (x1.Value &&& x1.Mask)), cg (x0.Mask ||| x1.Mask)]) a2 rfl rfl rfl rfl (fun a6 a0 => ?_)
  replace a0 : Mem a6 [⟨.op a3 a4 0, 99, 2, [.agg [cg ((x0.Value &&& x0.Mask) ||| (x1.Value &&& x1.Mask)), cg (x0.Mask ||| x1.Mask)]]⟩] := a0
  refine mB rfl (nS ?_)
  subst hres
  exact dw (.cell rfl (jk (k := 0) a0 rfl rfl) (.tmp rfl .nil)) (ck (show closed (.tup _) = true from (aq (TR.clo ae.t (show ae.t.R ({ Value := ((x0.Value &&& x0.Mask) ||| (x1.Value &&& x1.Mask)), Mask := (x0.Mask ||| x1.Mask) } : ae) (.agg [cg ((x0.Value &&& x0.Mask) ||| (x1.Value &&& x1.Mask)), cg (x0.Mask ||| x1.Mask)]) from rfl)) (aq rfl bg)))) ⟨.agg [cg ((x0.Value &&& x0.Mask) ||| (x1.Value &&& x1.Mask)), cg (x0.Mask ||| x1.Mask)], rfl, rfl⟩

theorem cj5 {P : Program} {l : List UInt8} {ty : TypeId} {k : IntKind} {i : Int} (ht : P.underlying ty = some .string) (h0 : 0 ≤ i) (h1 : i < l.length) : indexSR P ty (vs l) (.sc (.int k i)) = some (vu8 (ix l i)) := by
 have h2 : i.toNat < l.length := by omega
 have h3 : (⟨l.toArray⟩ : ByteArray)[i.toNat]? = some l[i.toNat] := by
  rw [getElem?_pos (⟨l.toArray⟩ : ByteArray) i.toNat (by simpa [ByteArray.size] using h2)]
  rfl
 simp only [indexSR, toV, Instr.index, asIntOf, underlying, program, bind, Sem.bind, Sem.instMonad, pure, pureRun, ht]
 rw [if_pos h0, h3, px h0 h1]
 rfl
def tabL : List UInt8 := [0, 1, 2, 2, 3, 3, 3, 3, 4, 4, 4, 4, 4, 4, 4, 4, 5, 5, 5, 5, 5, 5, 5, 5, 5, 5, 5, 5, 5, 5, 5, 5, 6, 6, 6, 6, 6, 6, 6, 6, 6, 6, 6, 6, 6, 6, 6, 6, 6, 6, 6, 6, 6, 6, 6, 6, 6, 6, 6, 6, 6, 6, 6, 6, 7, 7, 7, 7, 7, 7, 7, 7, 7, 7, 7, 7, 7, 7, 7, 7, 7, 7, 7, 7, 7, 7, 7, 7, 7, 7, 7, 7, 7, 7, 7, 7, 7, 7, 7, 7, 7, 7, 7, 7, 7, 7, 7, 7, 7, 7, 7, 7, 7, 7, 7, 7, 7, 7, 7, 7, 7, 7, 7, 7, 7, 7, 7, 7, 8, 8, 8, 8, 8, 8, 8, 8, 8, 8, 8, 8, 8, 8, 8, 8, 8, 8, 8, 8, 8, 8, 8, 8, 8, 8, 8, 8, 8, 8, 8, 8, 8, 8, 8, 8, 8, 8, 8, 8, 8, 8, 8, 8, 8, 8, 8, 8, 8, 8, 8, 8, 8, 8, 8, 8, 8, 8, 8, 8, 8, 8, 8, 8, 8, 8, 8, 8, 8, 8, 8, 8, 8, 8, 8, 8, 8, 8, 8, 8, 8, 8, 8, 8, 8, 8, 8, 8, 8, 8, 8, 8, 8, 8, 8, 8, 8, 8, 8, 8, 8, 8, 8, 8, 8, 8, 8, 8, 8, 8, 8, 8, 8, 8, 8, 8, 8, 8, 8, 8, 8, 8, 8, 8, 8, 8, 8, 8]
theorem cq0 : ∀ i : Fin 256, ((ix tabL (i.val : Int)).toNat : Int) = cj (BitVec.ofNat 64 i.val) := by decide +kernel
theorem ct5 {a : BitVec 64} {s : Nat} (h : 2 ^ s ≤ a.toNat) : cj a = s + cj (a >>> s) := by
 have h0 := Nat.two_pow_pos s
 have hd : (a >>> s).toNat = a.toNat / 2 ^ s := by rw [BitVec.toNat_ushiftRight, Nat.shiftRight_eq_div_pow]
 have hp : 0 < a.toNat / 2 ^ s := Nat.div_pos h h0
 have e1 : a ≠ 0#64 := fun e => by rw [e] at h; simp at h
 have e2 : a >>> s ≠ 0#64 := fun e => by rw [e] at hd; simp at hd; omega
 unfold cj
 rw [if_neg e1, if_neg e2, hd]
 have key : a.toNat.log2 = s + (a.toNat / 2 ^ s).log2 := by
  have q1 := Nat.log2_self_le (n := a.toNat / 2 ^ s) (by omega)
  have q2 := Nat.lt_log2_self (n := a.toNat / 2 ^ s)
  have n0 : a.toNat ≠ 0 := by omega
  have b1 : s + (a.toNat / 2 ^ s).log2 ≤ a.toNat.log2 := by
   rw [Nat.le_log2 n0, Nat.pow_add]
   calc 2 ^ s * 2 ^ (a.toNat / 2 ^ s).log2 ≤ 2 ^ s * (a.toNat / 2 ^ s) := Nat.mul_le_mul_left _ q1
    _ ≤ a.toNat := Nat.mul_div_le _ _
  have b2 : a.toNat.log2 < s + (a.toNat / 2 ^ s).log2 + 1 := by
   rw [Nat.log2_lt n0, Nat.add_assoc, Nat.pow_add, Nat.mul_comm]
   exact (Nat.div_lt_iff_lt_mul h0).1 q2
  omega
 rw [key]
 omega
theorem cp6 {x0 : BitVec 64} : FnR Tryz.prog 129 [cg x0] (vi (cj x0)) := by
 generalize hres : cj x0 = res
 obtain ⟨r, h1, rfl⟩ : ∃ r, FnR Tryz.prog 129 [cg x0] r ∧ r = vi res := by
  refine fnE bk8 (by simp) ?_
  have step : ∀ {a : BitVec 64} {n : Int} {s : Nat}, n + cj a = res → (BitVec.ofNat 64 (2 ^ s)) ≤ a → s < 64 → (n + s) + cj (a >>> s) = res := by
   intro a n s h hle hs
   have h2 : 2 ^ s ≤ a.toNat := by
    have h3 : (BitVec.ofNat 64 (2 ^ s)).toNat ≤ a.toNat := hle
    rw [BitVec.toNat_ofNat, Nat.mod_eq_of_lt (Nat.pow_lt_pow_right (by decide) hs)] at h3
    exact h3
   rw [ct5 h2] at h
   omega
  refine ah (af (ab (v := vi 0) (au rfl) (aw (ai (ah ?_)))))
  refine vv (F := fun b S Q => ∀ {a : BitVec 64} {n : Int}, n + cj a = res → a.toNat < 2 ^ 32 → 0 ≤ n → n ≤ 32 → RC Tryz.prog b S Q [(2, vi n), (0, cg a)] ⟨0, []⟩) ?_ ?_
  ·intro a n hn hb n0 n1
   refine ah ?_
   refine vv (F := fun b S Q => ∀ {a : BitVec 64} {n : Int}, n + cj a = res → a.toNat < 2 ^ 16 → 0 ≤ n → n ≤ 48 → RC Tryz.prog b S Q [(2, vi n), (0, cg a)] ⟨0, []⟩) ?_ ?_
   ·clear hn hb n0 n1
    intro a n hn hb n0 n1
    refine ah ?_
    refine vv (F := fun b S Q => ∀ {a : BitVec 64} {n : Int}, n + cj a = res → a.toNat < 2 ^ 8 → 0 ≤ n → n ≤ 56 → RC Tryz.prog b S Q [(2, vi n), (0, cg a)] ⟨0, []⟩) ?_ ?_
    ·clear hn hb n0 n1
     intro a n hn hb n0 n1
     have hw : IntKind.u8.wrap (a.toNat : Int) = (a.toNat : Int) := by
      have : (a.toNat : Int) < 256 := by omega
      simp only [IntKind.wrap, IntKind.bits, IntKind.signed]
      simp
      omega
     have hc : convR Tryz.prog 97 5 (cg a) = some (.sc (.int .u8 (a.toNat : Int))) := by
      rw [← hw]; exact ac3 Tryz.underlying97 Tryz.underlying5
     have ht := cq0 ⟨a.toNat, hb⟩
     simp only [BitVec.ofNat_toNat, BitVec.setWidth_eq] at ht
     refine ah (af (mV rfl (mV rfl (ab (xk rfl hc) (ab (rb (a := vs tabL) rfl rfl (cj5 Tryz.underlying9 (by omega) (by show (a.toNat : Int) < 256; omega))) (ab (xk rfl (c_yi Tryz.underlying5 Tryz.underlying3)) ?_))))))
     rw [ht]
     have hwr : wr (n + cj a) = n + cj a := by
      have h1 : ((ix tabL (a.toNat : Int)).toNat : Int) < 256 := by have := (ix tabL (a.toNat : Int)).toNat_lt; omega
      exact du (by omega) (by omega)
     refine ab (v := vi (n + cj a)) (ba rfl rfl (by rw [← hwr]; exact ep)) (mV rfl (aw (ai ?_)))
     exact dw (.tmp rfl .nil) (ck rfl) (by rw [hn]; rfl)
    ·intro J
     refine ah (af (mV rfl (ab (ba (b := cg 256#64) rfl rfl by4) (aw (ai (bc rfl (fun hc => ?_) fun hc => ?_))))))
     ·simp only [decide_eq_true_eq] at hc
      have hwr : wr (n + 8) = n + 8 := du (by omega) (by omega)
      refine ah (af (mV rfl (ab (ba rfl rfl (bc9 (y := 8) (by decide))) (mV rfl (aw (ai ?_))))))
      refine af (mV rfl (ab (v := vi (n + 8)) (ba rfl rfl (by rw [← hwr]; exact ep)) (mV rfl (aw (ai ?_)))))
      exact wC (J (a := a >>> 8) (n := n + 8) (step (s := 8) hn hc (by decide)) (by rw [BitVec.toNat_ushiftRight, Nat.shiftRight_eq_div_pow]; omega) (by omega) (by omega)) rfl
     ·simp only [decide_eq_false_iff_not] at hc
      have hc : ¬(256#64).toNat ≤ a.toNat := hc
      refine ay (ai (li ?_ (J hn (by simp at hc; omega) n0 (by omega))))
      exact (sB rfl)
   ·intro J
    refine ah (af (mV rfl (ab (ba (b := cg 65536#64) rfl rfl by4) (aw (ai (bc rfl (fun hc => ?_) fun hc => ?_))))))
    ·simp only [decide_eq_true_eq] at hc
     have hwr : wr (n + 16) = n + 16 := du (by omega) (by omega)
     refine ah (af (mV rfl (ab (ba rfl rfl (bc9 (y := 16) (by decide))) (mV rfl (aw (ai ?_))))))
     refine af (mV rfl (ab (v := vi (n + 16)) (ba rfl rfl (by rw [← hwr]; exact ep)) (mV rfl (aw (ai ?_)))))
     exact wC (J (a := a >>> 16) (n := n + 16) (step (s := 16) hn hc (by decide)) (by rw [BitVec.toNat_ushiftRight, Nat.shiftRight_eq_div_pow]; omega) (by omega) (by omega)) rfl
    ·simp only [decide_eq_false_iff_not] at hc
     have hc : ¬(65536#64).toNat ≤ a.toNat := hc
     refine ay (ai (li ?_ (J hn (by simp at hc; omega) n0 (by omega))))
     exact (sB rfl)
  ·intro J
   refine ah (af (mV rfl (ab (ba (b := cg 4294967296#64) rfl rfl by4) (aw (ai (bc rfl (fun hc => ?_) fun hc => ?_))))))
   ·simp only [decide_eq_true_eq] at hc
    refine ah (af (mV rfl (ab (ba rfl rfl (bc9 (y := 32) (by decide))) (mV rfl (aw (ai ?_))))))
    refine af (ab (v := vi 32) (au rfl) (aw (ai ?_)))
    exact wC (J (a := x0 >>> 32) (n := 32) (by have := step (s := 32) (n := 0) (a := x0) (by omega) hc (by decide); simpa using this) (by have := x0.isLt; rw [BitVec.toNat_ushiftRight, Nat.shiftRight_eq_div_pow]; omega) (by omega) (by omega)) rfl
   ·simp only [decide_eq_false_iff_not] at hc
    have hc : ¬(4294967296#64).toNat ≤ x0.toNat := hc
    refine ay (ai (li ?_ (J (a := x0) (n := 0) (by omega) (by simp at hc; omega) (by omega) (by omega))))
    exact (sB rfl)
 exact h1

theorem do8 {P : Program} {a : BitVec 64} : unR .xor P (cg a) = some (cg (~~~a)) := by
 have h : Op.intBits .xor .u64 (IntKind.u64.max) a.toNat = pure (.int .u64 ((~~~a).toNat : Int)) := by
  have := vf (k := .u64) rfl (op := .xor) (a := BitVec.allOnes 64) (b := a) (f := fun a b => a ^^^ b) rfl
  rw [show (IntKind.u64.max) = (((BitVec.allOnes 64).toNat : Nat) : Int) by rfl]
  refine this.trans ?_
  exact congrArg (fun z : BitVec 64 => (pure (Value.int .u64 (z.toNat : Int)) : Sem Value)) BitVec.allOnes_xor
 simp only [unR, toV, Op.unary, IntKind.signed, Bool.false_eq_true, if_false, h]
 rfl

def cbV (c : ae) : PV := .agg [cg c.Value, cg c.Mask]
theorem ae3 (c : ae) : ae.t.R c (cbV c) := rfl
theorem am2 {c : ae} {v : PV} (r : ae.t.R c v) : v = cbV c := r
def cbC (l : List ae) : List PV := l.flatMap fun c => [cg c.Value, cg c.Mask]
theorem xd : ∀ l : List ae, (cbC l).length = l.length * 2
 | [] => rfl
 | c :: l => by
  have ih := xd l
  show (cg c.Value :: cg c.Mask :: cbC l).length = _
  simp only [List.length_cons, ih]
  omega
theorem aj0 : ∀ l : List ae, rowCells (l.map cbV) = some (cbC l)
 | [] => rfl
 | c :: l => by
  have ih := aj0 l
  simp only [List.map_cons, rowCells, ih, cbV, PV.cellsOf]
  rfl
theorem cq4 (l k : List ae) : cbC (l ++ k) = cbC l ++ cbC k := by simp [cbC]
theorem am8 : ∀ (l : List ae) (n : Nat), (cbC l).take (n * 2) = cbC (l.take n)
 | l, 0 => by simp [cbC]
 | [], n + 1 => by simp [cbC]
 | c :: l, n + 1 => by
  have ih := am8 l n
  show (cg c.Value :: cg c.Mask :: cbC l).take ((n + 1) * 2) = cg c.Value :: cg c.Mask :: cbC (l.take n)
  rw [show (n + 1) * 2 = n * 2 + 1 + 1 by omega, List.take_succ_cons, List.take_succ_cons, ih]
theorem bq8 : ∀ {l : List ae} {n : Nat} {c : ae}, n < l.length → spl (cbC l) (n * 2) [cg c.Value, cg c.Mask] = cbC (l.set n c)
 | [], n, c, h => by simp at h
 | a :: l, 0, c, h => by simp [cbC, spl]
 | a :: l, n + 1, c, h => by
  have ih := bq8 (l := l) (n := n) (c := c) (by simpa using h)
  have e : cbC (a :: l) = cg a.Value :: cg a.Mask :: cbC l := rfl
  rw [List.set_cons_succ, show cbC (a :: l.set n c) = cg a.Value :: cg a.Mask :: cbC (l.set n c) from rfl, ← ih, e]
  simp only [spl, show (n + 1) * 2 = n * 2 + 1 + 1 by omega, List.take_succ_cons, List.cons_append, List.length_cons, List.length_nil]
  rw [show n * 2 + 1 + 1 + (0 + 1 + 1) = n * 2 + (0 + 1 + 1) + 1 + 1 by omega, List.drop_succ_cons, List.drop_succ_cons]
theorem cb3 (l : List ae) : ∀ y ∈ l.map cbV, cnt y = some 2 := by
 intro y hy
 obtain ⟨c, _, rfl⟩ := List.mem_map.1 hy
 rfl
theorem at1 : ∀ l : List ae, All2 ae.t.R l (l.map cbV)
 | [] => trivial
 | c :: l => ⟨rfl, at1 l⟩
theorem cl3 {P : Program} {S : List Fr} {Q : Post} {E : TEnv} {h : Heap} {L : List Ent} {hf : Bool} {r : List AOper} {o o' : Operand} {k id ver n : Nat} {ty : TypeId} {sz : Nat} {l : List ae} {c : ae} (M : Mem h L) (eo : evE E o = some (.op id ver (0 + n * 2))) (ev' : evE E o' = some (cbV c)) (hk : L[k]? = some ⟨.op id ver 0, ty, sz, [.agg (cbC l)]⟩) (hn : n < l.length)
  (K : ∀ h', Mem h' (L.set k ⟨.op id ver 0, ty, sz, [.agg (cbC (l.set n c))]⟩) → RD P r S Q E h') : RD P (⟨none, .store 2 o o', none, hf⟩ :: r) S Q E h := by
 refine jx (off := n * 2) (k := k) (v := cbV c) (ds := [cg c.Value, cg c.Mask]) M eo ev' hk rfl rfl ?_ (fun h' M' => ?_)
 ·rw [xd]; simp only [List.length_cons, List.length_nil]; omega
 ·rw [bq8 hn] at M'
  exact K h' M'
theorem bk2 {E : TEnv} {h : Heap} {L : List Ent} {o hi mx : Operand} {lo : Option Operand} {k id ver sz : Nat} {x : PV} {n : Int} (M : Mem h L) (eo : evE E o = some (.op id ver 0)) (hk : L[k]? = some ⟨.op id ver 0, 155, sz, [x]⟩) (ha : Bnd E 0 lo 0) (hb : evE E hi = some (vi n)) (hm : evE E mx = some (vi n)) (h0 : 0 ≤ n) (h1 : n ≤ 64) :
  OV Tryz.prog (.sliceS 155 o lo (some hi) (some mx)) false E h (if n.toNat = 0 then .fs true [] else .os id ver 0 n.toNat) := ⟨rfl, fun T hT => by
 obtain ⟨_, x', cs, h2, h3, h4⟩ := M.atF hk
 have a0 : h.bl[id]? = some (.cells ver 155 true cs) := h4
 have e1 : boundF T 0 lo = some 0 := ha.eq hT (Int.le_refl 0)
 have e2 : boundF T 64 (some hi) = some n.toNat := by simp only [boundF, dy hT hb]; rw [if_pos h0]
 have e3 : boundF T 0 (some mx) = some n.toNat := by simp only [boundF, dy hT hm]; rw [if_pos h0]
 obtain ⟨nn, e4, e5⟩ : ∃ nn, Tryz.prog.info? 99 = some nn ∧ nn.size = 2 := ⟨_, rfl, rfl⟩
 show opQ Tryz.prog T h _ = _
 simp only [opQ, dy hT eo, a0, Tryz.underlying155, e4, e1, e2, e3, boundM, Option.map_some, e5]
 rw [if_pos ⟨trivial, trivial, by decide, by omega, by omega, by decide, by simp [okMaxF]; omega⟩]
 by_cases hz : n.toNat = 0
 ·rw [if_pos hz, if_pos (by omega), hz]; rfl
 ·rw [if_neg hz, if_neg (by omega)]; simp⟩
theorem cy5 {E : TEnv} {h : Heap} {L : List Ent} {o : Operand} {k id ver sz : Nat} {x : PV} (M : Mem h L) (eo : evE E o = some (.op id ver 0)) (hk : L[k]? = some ⟨.op id ver 0, 155, sz, [x]⟩) :
  OV Tryz.prog (.sliceS 155 o none none none) false E h (.os id ver 0 64) := ⟨rfl, fun T hT => by
 obtain ⟨_, x', cs, h2, h3, h4⟩ := M.atF hk
 have a0 : h.bl[id]? = some (.cells ver 155 true cs) := h4
 obtain ⟨nn, e4, e5⟩ : ∃ nn, Tryz.prog.info? 99 = some nn ∧ nn.size = 2 := ⟨_, rfl, rfl⟩
 show opQ Tryz.prog T h _ = _
 simp only [opQ, dy hT eo, a0, Tryz.underlying155, e4, boundF, boundM, e5]
 rw [if_pos ⟨trivial, trivial, by decide, by omega, by omega, by decide, rfl⟩, if_neg (by omega)]⟩
theorem cx4 {a : BitVec 64} {n : Nat} (ha : a ≠ 0#64) (hn : a.toNat < 2 ^ n) (a0 : n ≤ 64) : 1 ≤ cj a ∧ cj a ≤ n ∧ (a &&& ~~~(1#64 <<< (cj a - 1).toNat)).toNat < 2 ^ (cj a - 1).toNat := by
 have h0 : a.toNat ≠ 0 := fun h => ha (BitVec.eq_of_toNat_eq (by simpa using h))
 have e : cj a = (a.toNat.log2 : Int) + 1 := by unfold cj; rw [if_neg ha]
 have hl : a.toNat.log2 < n := (Nat.log2_lt h0).2 hn
 rw [e]
 refine ⟨by omega, by omega, ?_⟩
 rw [show ((a.toNat.log2 : Int) + 1 - 1).toNat = a.toNat.log2 by omega]
 have hlt := Nat.lt_log2_self (n := a.toNat)
 generalize a.toNat.log2 = k at *
 apply Nat.lt_pow_two_of_testBit
 intro i hi
 show (a &&& ~~~(1#64 <<< k)).toNat.testBit i = false
 rw [BitVec.testBit_toNat, BitVec.getLsbD_and]
 by_cases hik : i = k
 ·subst hik
  rw [BitVec.getLsbD_not, BitVec.getLsbD_shiftLeft]
  by_cases h64 : i < 64
  ·simp [h64]
  ·simp [h64]
 ·have : a.getLsbD i = false := by
   rw [← BitVec.testBit_toNat]
   exact Nat.testBit_lt_two_pow (Nat.lt_of_lt_of_le hlt (Nat.pow_le_pow_right (by decide) (by omega)))
  rw [this]; rfl
theorem db7 {S : List Fr} {Q : Post} {i4 w4 i9 w9 a0 a1 : Nat} {y : ae} {res : List ae} 
  (K : ∀ {h : Heap} {l : List ae} {R : PV}, res.length ≤ 64 → l.length = 64 → l.take res.length = res → Mem h [⟨.op a0 a1 0, 99, 2, [R]⟩, ⟨.op i9 w9 0, 155, 128, [.agg (cbC l)]⟩, ⟨.op i4 w4 0, 99, 2, [cbV y]⟩] → PX Tryz.prog 0 S Q [(10, vi (res.length : Int)), (9, .op i9 w9 0)] h) :
  ∀ (m : Nat) {n : Nat} {left : BitVec 64} {rest : ae} {l : List ae} {h : Heap}, m + n = 64 → left.toNat < 2 ^ m → l.length = 64 → l.take n ++ eg y m left rest = res → Mem h [⟨.op a0 a1 0, 99, 2, [cbV rest]⟩, ⟨.op i9 w9 0, 155, 128, [.agg (cbC l)]⟩, ⟨.op i4 w4 0, 99, 2, [cbV y]⟩] →
   RC Tryz.prog (.loop bd0) S Q [(12, cg left), (11, .op a0 a1 0), (10, vi (n : Int)), (9, .op i9 w9 0), (4, .op i4 w4 0)] h := by
 have stop : ∀ {m n : Nat} {left : BitVec 64} {rest : ae} {l : List ae} {h : Heap}, m + n = 64 → left = 0#64 → l.length = 64 → l.take n = res → Mem h [⟨.op a0 a1 0, 99, 2, [cbV rest]⟩, ⟨.op i9 w9 0, 155, 128, [.agg (cbC l)]⟩, ⟨.op i4 w4 0, 99, 2, [cbV y]⟩] →
   RC Tryz.prog (.loop bd0) S Q [(12, cg left), (11, .op a0 a1 0), (10, vi (n : Int)), (9, .op i9 w9 0), (4, .op i4 w4 0)] h := by
  intro m n left rest l h hm hz hl hp M
  subst hz
  refine bt ?_
  refine ah (af (mV rfl (ab (v := vb false) (ba (a := cg 0#64) (b := cg 0#64) rfl rfl cc5) (aw (ai (ah (bc rfl (fun hc => by cases hc) fun hc => ?_)))))))
  have hr : res.length = n := by rw [← hp, List.length_take]; omega
  refine dm (fb (df (bp4 ?_ (K (by omega) hl (by rw [hr]; exact hp) M))))
  exact ko (by rw [hr]; rfl) (sB rfl)
 intro m
 induction m with
 | zero =>
  intro n left rest l h hm hb hl hp M
  have hz : left = 0#64 := BitVec.eq_of_toNat_eq (by simp only [BitVec.toNat_ofNat]; omega)
  exact stop hm hz hl (by simpa [eg] using hp) M
 | succ m ih =>
  intro n left rest l h hm hb hl hp M
  by_cases hz : left = 0#64
  ·rw [eg, if_pos hz, List.append_nil] at hp
   exact stop hm hz hl hp M
  ·rw [eg, if_neg hz] at hp
   obtain ⟨t1, t2, t3⟩ := cx4 hz hb (by omega)
   refine bt ?_
   refine ah (af (mV rfl (ab (ba (b := cg 0#64) rfl rfl cc5) (aw (ai (ah (bc rfl (fun hc => ?_) fun hc => ?_)))))))
   ·have a2 : wr (cj left - 1) = cj left - 1 := du (by omega) (by omega)
    refine ay (ai (ah (bd (ah (af (mV rfl (cL cp6 rfl rfl (aq rfl bg) (ab (v := vi (cj left - 1)) (ba rfl rfl (by rw [← a2]; exact af9)) ?_))))))))
    refine ab (ba (a := cg 1#64) rfl rfl (cd4 (y := cj left - 1) (by omega))) (mV rfl (aw (ai ?_)))
    generalize hbit : (1#64 <<< (cj left - 1).toNat) = bit at *
    refine ah (af (mV rfl (mV rfl (ab (ba rfl rfl al5) (mV rfl (aw (ai ?_)))))))
    refine ah (af (ab (bf rfl) (ab (cp (k := 0) (off := 1) (w := cg rest.Mask) M rfl rfl rfl) (mV rfl (ab (ba rfl rfl d_or) (ab (bf rfl) ?_))))))
    refine jx (off := 1) (k := 0) (v := cg (rest.Mask ||| bit)) M rfl rfl rfl rfl rfl (by simp [cbV]) (fun h1 M1 => aw (ai ?_))
    replace M1 : Mem h1 [⟨.op a0 a1 0, 99, 2, [.agg [cg rest.Value, cg (rest.Mask ||| bit)]]⟩, ⟨.op i9 w9 0, 155, 128, [.agg (cbC l)]⟩, ⟨.op i4 w4 0, 99, 2, [cbV y]⟩] := M1
    refine ah (af (mV rfl (ab (bf rfl) (ab (cp (k := 0) (off := 0) (w := cg rest.Value) M1 rfl rfl rfl) (ab (bf rfl) (ab (cp (k := 2) (off := 0) (w := cg y.Value) M1 rfl rfl rfl) ?_))))))
    refine ab (dy8 rfl do8) (mV rfl (ab (ba rfl rfl wl) (ab (ba rfl rfl d_or) (ab (bf rfl) (ab (cp (k := 0) (off := 1) (w := cg (rest.Mask ||| bit)) M1 rfl rfl rfl) ?_)))))
    refine ab (v := cbV ({ Value := rest.Value ||| (~~~y.Value &&& bit), Mask := rest.Mask ||| bit } : ae)) (nt (cs := [cg (rest.Value ||| (~~~y.Value &&& bit)), cg (rest.Mask ||| bit)]) rfl rfl) (ab (ag3 (k := (n : Int)) rfl rfl (by omega) (by show (n : Int) < 64; omega)) ?_)
    refine cl3 (k := 1) (n := n) M1 (by show some (PV.op i9 w9 (0 + (n : Int).toNat * 2)) = _; rw [Int.toNat_natCast]) rfl rfl (by omega) (fun h2 M2 => aw (ai ?_))
    replace M2 : Mem h2 [⟨.op a0 a1 0, 99, 2, [.agg [cg rest.Value, cg (rest.Mask ||| bit)]]⟩, ⟨.op i9 w9 0, 155, 128, [.agg (cbC (l.set n ({ Value := rest.Value ||| (~~~y.Value &&& bit), Mask := rest.Mask ||| bit } : ae)))]⟩, ⟨.op i4 w4 0, 99, 2, [cbV y]⟩] := M2
    refine af (ab (bf rfl) (ab (cp (k := 0) (off := 0) (w := cg rest.Value) M2 rfl rfl rfl) (ab (bf rfl) (ab (cp (k := 2) (off := 0) (w := cg y.Value) M2 rfl rfl rfl) (mV rfl (ab (ba rfl rfl wl) (ab (ba rfl rfl d_or) (ab (bf rfl) ?_))))))))
    refine jx (off := 0) (k := 0) (v := cg (rest.Value ||| (y.Value &&& bit))) M2 rfl rfl rfl rfl rfl (by simp) (fun h3 M3 => aw (dj (ai ?_)))
    replace M3 : Mem h3 [⟨.op a0 a1 0, 99, 2, [cbV ({ Value := rest.Value ||| (y.Value &&& bit), Mask := rest.Mask ||| bit } : ae)]⟩, ⟨.op i9 w9 0, 155, 128, [.agg (cbC (l.set n ({ Value := rest.Value ||| (~~~y.Value &&& bit), Mask := rest.Mask ||| bit } : ae)))]⟩, ⟨.op i4 w4 0, 99, 2, [cbV y]⟩] := M3
    have hinc : wr ((n : Int) + 1) = ((n + 1 : Nat) : Int) := by rw [du (by omega) (by omega)]; rfl
    refine af (mV rfl (ab (v := vi ((n + 1 : Nat) : Int)) (ba rfl rfl (by rw [← hinc]; exact ep)) (mV rfl (aw (cx ?_)))))
    have hll : (l.set n ({ Value := rest.Value ||| (~~~y.Value &&& bit), Mask := rest.Mask ||| bit } : ae)).length = 64 := by rw [List.length_set]; exact hl
    refine wC (ih (n := n + 1) (left := left &&& ~~~bit) (by omega) (Nat.lt_of_lt_of_le t3 (Nat.pow_le_pow_right (by decide) (by omega))) hll ?_ M3) rfl
    ·rw [← hp, List.take_succ_eq_append_getElem (by omega), List.getElem_set_self, List.take_set_of_le (by omega), List.append_assoc]
     rfl
   ·simp [hz] at hc
theorem cd1 : ∀ l : List ae, closedL (l.map cbV) = true
 | [] => rfl
 | c :: l => by
  have ih := cd1 l
  simp only [List.map_cons, closedL, ih, Bool.and_true]
  rfl
theorem du8 (l : List ae) : (l.map cbV).all (fun v => cnt v == some 2) = true := List.all_eq_true.2 fun y hy => by rw [cb3 l y hy]; rfl
def zcb : ae := { Value := 0#64, Mask := 0#64 }
theorem dc2 {x0 x1 : ae} {x2 : Int} {v0 v1 : PV} (r0 : ae.t.R x0 v0) (r1 : ae.t.R x1 v1) : ∃ r, FnR Tryz.prog 101 [v0, v1, vi x2] r ∧ (tSl ae.t).R (co x0 x1 x2) r := by
 have e0 := am2 r0
 have e1 := am2 r1
 subst e0
 subst e1
 refine fnE bo6 (by simp) ?_
 refine ah (af (wy (Mem.nil _) rfl rfl (fun i3 w3 h3 M3 => wy M3 rfl rfl (fun i4 w4 h4 M4 => ab (v := nilS) (au rfl) (aw (ai ?_))))))
 refine ah (ah (af (mV rfl (cL dc8 rfl rfl (aq rfl bg) (ab (io rfl) (aw (ai (bc rfl (fun hc => ?_) fun hc => ?_))))))))
 ·have hs : co x0 x1 x2 = [] := by unfold co; rw [if_pos hc]
  refine ah (af (ab (v := nilS) (au rfl) (aw (ai ?_))))
  exact dw (.tmp rfl .nil) (ck rfl) (by rw [hs]; exact gu)
 ·have hv : 1 ≤ x2 ∧ x2 ≤ 64 := by
   have := hc
   unfold qq at this
   simp only [Bool.not_eq_false', Bool.and_eq_true, decide_eq_true_eq] at this
   exact this
  refine ay (ai (ah (af (ab (bf rfl) (ab (cp (k := 1) (off := 1) (w := cg x0.Mask) M4 rfl rfl rfl) (mV rfl ?_))))))
  refine cL (bj0 (by omega) (by omega)) rfl rfl (aq rfl bg) (ab (ba rfl rfl wl) (ab (bf rfl) ?_))
  refine jx (off := 1) (k := 1) (v := cg (x0.Mask &&& dz x2)) M4 rfl rfl rfl rfl rfl (by simp [cbV]) (fun h5 M5 => aw (ai ?_))
  replace M5 : Mem h5 [⟨.op i4 w4 0, 99, 2, [cbV x1]⟩, ⟨.op i3 w3 0, 99, 2, [cbV ({ Value := x0.Value, Mask := x0.Mask &&& dz x2 } : ae)]⟩] := M5
  refine ah (af (ab (bf rfl) (ab (cp (k := 0) (off := 1) (w := cg x1.Mask) M5 rfl rfl rfl) (mV rfl ?_))))
  refine cL (bj0 (by omega) (by omega)) rfl rfl (aq rfl bg) (ab (ba rfl rfl wl) (ab (bf rfl) ?_))
  refine jx (off := 1) (k := 0) (v := cg (x1.Mask &&& dz x2)) M5 rfl rfl rfl rfl rfl (by simp [cbV]) (fun h6 M6 => aw (ai ?_))
  replace M6 : Mem h6 [⟨.op i4 w4 0, 99, 2, [cbV ({ Value := x1.Value, Mask := x1.Mask &&& dz x2 } : ae)]⟩, ⟨.op i3 w3 0, 99, 2, [cbV ({ Value := x0.Value, Mask := x0.Mask &&& dz x2 } : ae)]⟩] := M6
  have hs : co x0 x1 x2 = if (!(ig (fc ({ Value := x0.Value, Mask := x0.Mask &&& dz x2 } : ae)) (fc ({ Value := x1.Value, Mask := x1.Mask &&& dz x2 } : ae))).2) = true then [fc ({ Value := x0.Value, Mask := x0.Mask &&& dz x2 } : ae)] else eg (fc ({ Value := x1.Value, Mask := x1.Mask &&& dz x2 } : ae)) 64 ((fc ({ Value := x1.Value, Mask := x1.Mask &&& dz x2 } : ae)).Mask &&& ~~~(fc ({ Value := x0.Value, Mask := x0.Mask &&& dz x2 } : ae)).Mask) (fc ({ Value := x0.Value, Mask := x0.Mask &&& dz x2 } : ae)) := by
   unfold co; rw [if_neg (by rw [hc]; simp)]; rfl
  obtain ⟨ca, Fa, sa⟩ := bq5 (ae3 ({ Value := x0.Value, Mask := x0.Mask &&& dz x2 } : ae))
  obtain ⟨cb, Fb, sb⟩ := bq5 (ae3 ({ Value := x1.Value, Mask := x1.Mask &&& dz x2 } : ae))
  have ea := am2 sa
  have eb := am2 sb
  generalize fc ({ Value := x0.Value, Mask := x0.Mask &&& dz x2 } : ae) = a at *
  generalize fc ({ Value := x1.Value, Mask := x1.Mask &&& dz x2 } : ae) = b at *
  subst ea
  subst eb
  refine ah (af (ab (fw (k := 1) M6 rfl rfl rfl) (cL Fa rfl rfl (aq rfl bg) (ab (fw (k := 0) M6 rfl rfl rfl) (cL Fb rfl rfl (aq rfl bg) ?_)))))
  refine db (k := 1) (v := cbV a) M6 rfl rfl rfl rfl (fun h7 M7 => db (k := 0) (v := cbV b) M7 rfl rfl rfl rfl (fun h8 M8 => aw (ai ?_)))
  replace M8 : Mem h8 [⟨.op i4 w4 0, 99, 2, [cbV b]⟩, ⟨.op i3 w3 0, 99, 2, [cbV a]⟩] := M8
  obtain ⟨ci, Fi, si⟩ := ct6 (ae3 a) (ae3 b)
  refine ah (ah (af (ab (fw (k := 1) M8 rfl rfl rfl) (ab (fw (k := 0) M8 rfl rfl rfl) (cL Fi rfl rfl (aq rfl (aq rfl bg)) (mV rfl (ab (ft rfl rfl) (ab (ft rfl rfl) ?_))))))))
  refine dh (x := cbV zcb) M8 rfl rfl (fun i7 w7 h9 M9 => ?_)
  refine db (k := 0) (v := ci) M9 rfl rfl rfl (TR.cnt _ si) (fun a7 a1 => mV rfl (aw (ai ?_)))
  replace a1 : Mem a7 [⟨.op i7 w7 0, 99, 2, [ci]⟩, ⟨.op i4 w4 0, 99, 2, [cbV b]⟩, ⟨.op i3 w3 0, 99, 2, [cbV a]⟩] := a1
  refine ah (af (mV rfl (ab (io rfl) (aw (ai (bc rfl (fun hd => ?_) fun hd => ?_))))))
  ·rw [if_pos hd] at hs
   refine ah (af (ab (fw (k := 2) a1 rfl rfl rfl) (ab (v := .fs true [cbV a]) (iw rfl (all_cons rfl lu)) (mV rfl (aw (ai ?_))))))
   exact dw (.tmp rfl .nil) (ck rfl) (by rw [hs]; exact tp ⟨rfl, trivial⟩ (by simp))
  ·rw [if_neg (by rw [hd]; simp)] at hs
   refine ay (ai (ah (af (dh (x := .agg (cbC (List.replicate 64 zcb))) a1 rfl rfl (fun i9 w9 a9 a3 => aw (ai ?_))))))
   refine ah (af (ab (v := vi ((0 : Nat) : Int)) (au rfl) (aw (ai ?_))))
   refine ah (af (ab (fw (k := 3) a3 rfl rfl rfl) ?_))
   refine dh (x := cbV zcb) a3 rfl rfl (fun a6 a8 b0 a4 => ?_)
   refine db (k := 0) (v := cbV a) a4 rfl rfl rfl rfl (fun a5 a0 => aw (ai ?_))
   replace a0 : Mem a5 [⟨.op a6 a8 0, 99, 2, [cbV a]⟩, ⟨.op i9 w9 0, 155, 128, [.agg (cbC (List.replicate 64 zcb))]⟩, ⟨.op i7 w7 0, 99, 2, [ci]⟩, ⟨.op i4 w4 0, 99, 2, [cbV b]⟩, ⟨.op i3 w3 0, 99, 2, [cbV a]⟩] := a0
   refine ah (ah (af (ab (bf rfl) (ab (cp (k := 3) (off := 1) (w := cg b.Mask) a0 rfl rfl rfl) (ab (bf rfl) (ab (cp (k := 4) (off := 1) (w := cg a.Mask) a0 rfl rfl rfl) (ab (ba rfl rfl al5) (mV rfl (aw (ai (bd ?_)))))))))) )
   generalize hres : eg b 64 (b.Mask &&& ~~~a.Mask) a = res
   rw [hres] at hs
   refine wC (db7 (y := b) (res := res) ?_ 64 (n := 0) (left := b.Mask &&& ~~~a.Mask) (rest := a) (l := List.replicate 64 zcb) rfl (by have := (b.Mask &&& ~~~a.Mask).isLt; omega) (by simp) (by rw [List.take_zero, List.nil_append]; exact hres) (Mem.sub a0 (.cons_cons _ (.cons_cons _ (.cons _ (.cons_cons _ (.cons _ .slnil))))))) rfl
   ·intro b1 l R hr hl ht a2
    refine fe (ai (ah (af (mV rfl (mV rfl ?_)))))
    refine ab (bk2 (k := 1) (n := (res.length : Int)) a2 rfl rfl rfl rfl rfl (by omega) (by omega)) (mV rfl (aw (ai ?_)))
    rw [Int.toNat_natCast]
    by_cases hz : res.length = 0
    ·rw [if_pos hz]
     have : res = [] := List.eq_nil_of_length_eq_zero hz
     exact dw (.tmp rfl .nil) (ck rfl) (by rw [hs, this]; exact tp trivial (by simp))
    ·rw [if_neg hz]
     obtain ⟨_, x', cs, q1, q2, q3⟩ := a2.atF (k := 1) rfl
     simp only [List.cons.injEq, and_true] at q1
     subst q1
     simp only [PV.cellsOf, Option.some.injEq] at q2
     subst q2
     refine dw (.tmp rfl .nil) (av2 (sz := 2) (es := res.map cbV) q3 (by rw [xd, hl]; omega) (by simp) ?_ (du8 res) (cd1 res)) (by rw [hs]; exact tp (at1 res) (by omega))
     rw [aj0, List.drop_zero, am8, ht]

theorem ar0 (y : ae) : ∀ (m : Nat) (left : BitVec 64) (rest : ae), (eg y m left rest).length ≤ m
 | 0, _, _ => Nat.le_refl _
 | m + 1, left, rest => by
  rw [eg]
  split
  ·simp
  ·rw [List.length_cons]
   have := ar0 y m (left &&& ~~~(1#64 <<< (cj left - 1).toNat)) ({ Value := rest.Value ||| (y.Value &&& (1#64 <<< (cj left - 1).toNat)), Mask := rest.Mask ||| (1#64 <<< (cj left - 1).toNat) } : ae)
   omega
theorem am1 (a b : ae) (w : Int) : (co a b w).length ≤ 64 := by
 unfold co
 simp only [LET]
 split
 ·simp
 ·split
  ·simp
  ·exact ar0 _ _ _ _
theorem bn2 (l : List ae) : (fi l).1.length ≤ 1024 := by
 unfold fi
 simp only [LET]
 split
 ·simp
 ·rename_i hc
  simp only [decide_eq_true_eq] at hc
  show (nu l).length ≤ 1024
  omega
theorem uq {α : Type} {f : α → List ae} (hf : ∀ c, (f c).length ≤ 64) : ∀ l : List α, (l.flatMap f).length ≤ 64 * l.length
 | [] => by simp
 | a :: l => by
  have := uq hf l
  have := hf a
  rw [List.flatMap_cons, List.length_append, List.length_cons]
  omega
theorem az2 : ∀ (l : List ae) (n : Nat), (cbC l).drop (n * 2) = cbC (l.drop n)
 | l, 0 => by simp
 | [], n + 1 => by simp [cbC]
 | c :: l, n + 1 => by
  have ih := az2 l n
  show (cg c.Value :: cg c.Mask :: cbC l).drop ((n + 1) * 2) = cbC (l.drop n)
  rw [show (n + 1) * 2 = n * 2 + 1 + 1 by omega, List.drop_succ_cons, List.drop_succ_cons, ih]
theorem bm5 : ∀ {l : List ae} {es : List PV}, All2 ae.t.R l es → es = l.map cbV
 | [], [], _ => rfl
 | [], _ :: _, h => by simp [All2] at h
 | _ :: _, [], h => by simp [All2] at h
 | c :: l, e :: es, h => by rw [am2 h.1, bm5 h.2]; rfl
theorem bx1 {P : Program} {S : List Fr} {Q : Post} {E : TEnv} {h : Heap} {L : List Ent} {k id ver dd : Nat} {t e : TypeId} {d : PV} {z l : List ae} {o o' : Operand} {r : List AOper} {hf : Bool} (M : Mem h L) (eo : evE E o = some (.os id ver 0 64)) (ex : evE E o' = some d) (hk : L[k]? = some ⟨.op id ver 0, 155, 128, [.agg (cbC z)]⟩) (hz : z.length = 64) (hd : (tSl ae.t).R l d) (hl : l.length ≤ 64)
  (K : ∀ h', Mem h' (L.set k ⟨.op id ver 0, 155, 128, [.agg (cbC (l ++ z.drop l.length))]⟩) → RD P r S Q ((dd, vi (l.length : Int)) :: E) h') : RD P (⟨some dd, .copy t e 2 o o', none, hf⟩ :: r) S Q E h := by
 obtain ⟨hc, x', cs, q1, q2, h3⟩ := M.atF hk
 simp only [List.cons.injEq, and_true] at q1
 subst q1
 simp only [PV.cellsOf, Option.some.injEq] at q2
 subst q2
 obtain ⟨news, ⟨ncs, s1, s2, s3⟩, ha⟩ := uv (t := ae.t) (h := h) hd
 have hn := bm5 ha
 subst hn
 rw [aj0] at s2
 simp only [Option.some.injEq] at s2
 subst s2
 have s1 : srcF h 2 d = some (l.length, cbC l) := by rw [show l.length = (l.map cbV).length by simp]; exact s1
 have hs : spl (cbC z) 0 (cbC l) = cbC (l ++ z.drop l.length) := by
  simp only [spl, List.take_zero, List.nil_append, Nat.zero_add]
  rw [xd l, az2, cq4]
 have hb : h.bl[id]? = some (.cells ver 155 true (cbC z)) := h3
 refine yg (h' := hput h id (.cells ver 155 true (cbC (l ++ z.drop l.length)))) ⟨rfl, fun T hT => ?_⟩ (K _ (M.upd hk ⟨?_, _, _, rfl, rfl, by simp [mr h3]⟩ (fun i hi => .inl hi) fun i hi hne' => je _ _ _ _ fun e => hne' (by simp [idOf, e])))
 ·have e1 := dy hT eo
  have e2 := dy hT ex
  simp only [opL, e1, e2, s1, hb]
  rw [if_pos ⟨trivial, hl, by rw [xd, hz]; omega⟩, hs]
  rfl
 ·intro x hx
  rw [List.mem_singleton.1 hx]
  simp only [cnt, Option.some.injEq, xd, List.length_append, List.length_drop, hz]
  omega
theorem ct9 {h : Heap} {L : List Ent} {k id ver : Nat} {l z : List ae} (M : Mem h L) (hk : L[k]? = some ⟨.op id ver 0, 155, 128, [.agg (cbC (l ++ z))]⟩) : Src h 2 (if l.length = 0 then .fs true [] else .os id ver 0 l.length) (l.map cbV) := by
 by_cases hz : l.length = 0
 ·have : l = [] := List.eq_nil_of_length_eq_zero hz
  subst this
  exact an6 (.inr ⟨true, rfl⟩) (fun y hy => by simp at hy)
 ·rw [if_neg hz]
  obtain ⟨hc, x', cs, q1, q2, h3⟩ := M.atF hk
  simp only [List.cons.injEq, and_true] at q1
  subst q1
  simp only [PV.cellsOf, Option.some.injEq] at q2
  subst q2
  have hb : h.bl[id]? = some (.cells ver 155 true (cbC (l ++ z))) := h3
  refine ⟨cbC l, ?_, aj0 l, cb3 l⟩
  simp only [srcF, hb]
  rw [if_pos ⟨trivial, by rw [xd, List.length_append]; omega⟩, List.drop_zero, am8, List.take_append_of_le_length (Nat.le_refl _), List.take_length, List.length_map]
theorem bw7 {S : List Fr} {Q : Post} {a0 a1 : Nat} {x : ae} {w : Int} {out : List ae} {ov v1 : PV} {nb ib : Int} (ro : (tSl ae.t).R out ov) (hn : out.length ≤ 1024)
  (K : ∀ {h : Heap} {rv : PV} {es : List PV}, isL rv = true → All2 ae.t.R (out.flatMap fun c => co c x w) es → Mem h [⟨rv, 99, 2, es⟩, ⟨.op a0 a1 0, 99, 2, [cbV x]⟩] → PX Tryz.prog 2 S Q [(35, vi ib), (34, vi nb), (33, v1), (12, rv), (2, vi w)] h) :
  ∀ (m : Nat) {i : Int} {rv : PV} {es : List PV} {h : Heap}, m = Int.toNat ((out.length : Int) - i) → 0 ≤ i → i ≤ out.length → isL rv = true → Wri rv es → All2 ae.t.R ((out.take i.toNat).flatMap fun c => co c x w) es → Mem h [⟨rv, 99, 2, es⟩, ⟨.op a0 a1 0, 99, 2, [cbV x]⟩] →
   RC Tryz.prog (.loop cu6) S Q [(41, vi i), (40, vi (out.length : Int)), (39, ov), (35, vi ib), (34, vi nb), (33, v1), (12, rv), (11, .op a0 a1 0), (2, vi w)] h
 | 0, i, rv, es, h, hm, h0, h1, hne, hw, ha, M => by
  refine bt ?_
  refine ah (af (ab (ba rfl rfl cy) (aw (ai (ah (bc rfl (fun hc => ?_) fun hc => ?_))))))
  ·simp only [decide_eq_true_eq] at hc; omega
  ·rw [List.take_of_length_le (by omega)] at ha
   exact dm (fb (df (wP (K hne ha M) rfl)))
 | m + 1, i, rv, es, h, hm, h0, h1, hne, hw, ha, M => by
  have hlt : i < (out.length : Int) := by omega
  have hinc : wr (i + 1) = i + 1 := du (by omega) (by omega)
  refine bt ?_
  refine ah (af (ab (ba rfl rfl cy) (aw (ai (ah (bc rfl (fun hc => ?_) fun hc => ?_))))))
  ·obtain ⟨g, e0, q0⟩ := dl (i := i) ro h0 hlt
   have hg := am2 q0
   subst hg
   obtain ⟨d, a4, a5⟩ := dc2 (x2 := w) (ae3 (ix out i)) (ae3 x)
   have hln := am1 (ix out i) x w
   refine ay (ai (ah (bd (ah (af (ab (bq rfl rfl e0) (ab (br rfl rfl rfl) ?_)))))))
   refine dh (x := cbV zcb) M rfl rfl (fun a3 a2 h3 M3 => ?_)
   refine db (k := 0) (v := cbV (ix out i)) M3 rfl rfl rfl rfl (fun h4 M4 => aw (ai ?_))
   replace M4 : Mem h4 [⟨.op a3 a2 0, 99, 2, [cbV (ix out i)]⟩, ⟨rv, 99, 2, es⟩, ⟨.op a0 a1 0, 99, 2, [cbV x]⟩] := M4
   refine ah (af (dh (x := .agg (cbC (List.replicate 64 zcb))) M4 rfl rfl (fun a7 a6 h5 M5 => aw (ai ?_))))
   refine ah (af (ab (cy5 (k := 0) M5 rfl rfl) (ab (fw (k := 1) M5 rfl rfl rfl) (ab (fw (k := 3) M5 rfl rfl rfl) (mV rfl ?_)))))
   refine cL a4 rfl rfl (aq rfl (aq rfl (aq rfl bg))) ?_
   refine bx1 (k := 0) (l := co (ix out i) x w) M5 rfl rfl rfl (by simp) a5 hln (fun h6 M6 => mV rfl (aw (ai ?_)))
   replace M6 : Mem h6 [⟨.op a7 a6 0, 155, 128, [.agg (cbC (co (ix out i) x w ++ (List.replicate 64 zcb).drop (co (ix out i) x w).length))]⟩, ⟨.op a3 a2 0, 99, 2, [cbV (ix out i)]⟩, ⟨rv, 99, 2, es⟩, ⟨.op a0 a1 0, 99, 2, [cbV x]⟩] := M6
   refine af (mV rfl (mV rfl (mV rfl ?_)))
   refine ab (bk2 (k := 0) (n := ((co (ix out i) x w).length : Int)) M6 rfl rfl rfl rfl rfl (by omega) (by omega)) ?_
   rw [Int.toNat_natCast]
   have hal := ha.length
   have hfl := uq (f := fun c => co c x w) (fun c => am1 c x w) (out.take i.toNat)
   rw [List.length_take] at hfl
   have ff : fits (es.length + ((co (ix out i) x w).map cbV).length) 16 = true := by
    rw [List.length_map]
    exact oz (by omega) (by omega)
   refine pt (k := 2) (es := es) (news := (co (ix out i) x w).map cbV) M6 rfl rfl rfl hne hw (ct9 (k := 0) M6 rfl) ff (fun a h7 hna hwa M7 => mV rfl (aw (dj (ai ?_))))
   replace M7 : Mem h7 [⟨.op a7 a6 0, 155, 128, [.agg (cbC (co (ix out i) x w ++ (List.replicate 64 zcb).drop (co (ix out i) x w).length))]⟩, ⟨.op a3 a2 0, 99, 2, [cbV (ix out i)]⟩, ⟨a, 99, 2, es ++ (co (ix out i) x w).map cbV⟩, ⟨.op a0 a1 0, 99, 2, [cbV x]⟩] := M7
   refine af (ab (ba rfl rfl ep) (mV rfl (aw (cx ?_))))
   have hta : ((out.take (i + 1).toNat).flatMap fun c => co c x w) = ((out.take i.toNat).flatMap fun c => co c x w) ++ co (ix out i) x w := by
    rw [show (i + 1).toNat = i.toNat + 1 by omega, List.take_succ_eq_append_getElem (by omega), List.flatMap_append, px h0 hlt]
    simp
   refine li ?_ (bw7 ro hn K m (i := i + 1) (by omega) (by omega) (by omega) hna hwa (by rw [hta]; exact All2.app ha (at1 _)) (Mem.sub M7 (.cons _ (.cons _ (List.Sublist.refl _)))))
   exact ko (by show some (vi (wr (i + 1))) = _; rw [hinc]) (sB rfl)
  ·simp only [decide_eq_false_iff_not] at hc; omega
theorem bz4 {S : List Fr} {w : Int} {bl : List ae} {v1 : PV} {res : List ae × Int} (r1 : (tSl ae.t).R bl v1)
  (K : ∀ {h : Heap} {out : List ae} {ov : PV}, (tSl ae.t).R out ov → (out, 0) = res → Mem h [] → PX Tryz.prog 0 S (QR Tryz.prog [(6, none), (7, none)] fun r => ∃ c, r = .tup [c, vi res.2] ∧ (tSl ae.t).R res.1 c) [(8, ov)] h) :
  ∀ (m : Nat) {i : Int} {out : List ae} {ov : PV} {h : Heap}, m = Int.toNat ((bl.length : Int) - i) → 0 ≤ i → i ≤ bl.length → (tSl ae.t).R out ov → out.length ≤ 1024 → iu w (bl.drop i.toNat) out = res → Mem h [] →
   RC Tryz.prog (.loop dd2) S (QR Tryz.prog [(6, none), (7, none)] fun r => ∃ c, r = .tup [c, vi res.2] ∧ (tSl ae.t).R res.1 c) [(35, vi i), (34, vi (bl.length : Int)), (33, v1), (8, ov), (2, vi w)] h
 | 0, i, out, ov, h, hm, h0, h1, ro, hn, hp, M => by
  refine bt ?_
  refine ah (af (ab (ba rfl rfl cy) (aw (ai (ah (bc rfl (fun hc => ?_) fun hc => ?_))))))
  ·simp only [decide_eq_true_eq] at hc; omega
  ·rw [List.drop_of_length_le (by omega)] at hp
   exact dm (fb (df (wP (K ro hp M) rfl)))
 | m + 1, i, out, ov, h, hm, h0, h1, ro, hn, hp, M => by
  have hlt : i < (bl.length : Int) := by omega
  have hb := dv r1
  have hinc : wr (i + 1) = i + 1 := du (by omega) (by omega)
  refine bt ?_
  refine ah (af (ab (ba rfl rfl cy) (aw (ai (ah (bc rfl (fun hc => ?_) fun hc => ?_))))))
  ·obtain ⟨g, e0, q0⟩ := dl (i := i) r1 h0 hlt
   have hg := am2 q0
   subst hg
   refine ay (ai (ah (bd (ah (af (ab (bq rfl rfl e0) (ab (br rfl rfl rfl) ?_)))))))
   refine dh (x := cbV zcb) M rfl rfl (fun a0 a3 h3 M3 => ?_)
   refine db (k := 0) (v := cbV (ix bl i)) M3 rfl rfl rfl rfl (fun h4 M4 => aw (ai ?_))
   replace M4 : Mem h4 [⟨.op a0 a3 0, 99, 2, [cbV (ix bl i)]⟩] := M4
   refine ah (af (ab (v := nilS) (au rfl) (aw (ai ?_))))
   refine ah (ah (af (mV rfl (ab (cw rfl (cf ro Tryz.underlying96 _)) (ab (v := vi 0) (au rfl) (aw (ai (bd ?_))))))))
   refine wC (bw7 (x := ix bl i) (w := w) (v1 := v1) (nb := (bl.length : Int)) (ib := i) ro hn ?_ out.length (i := 0) (rv := nilS) (es := []) (by omega) (by omega) (by omega) rfl (.inl rfl) trivial (pq M4 99 (.inl ⟨none, rfl, rfl⟩) (by simp))) rfl
   ·intro h5 rv es hne ha M5
    have hfl := uq (f := fun c => co c (ix bl i) w) (fun c => am1 c (ix bl i) w) out
    rw [List.drop_eq_getElem_cons (by omega), iu] at hp
    simp only [LET] at hp
    rw [← px h0 hlt] at hp
    refine fe (ai (ah (nm ?_)))
    refine yv (k := 0) (E' := fun d => [(35, vi i), (34, vi (bl.length : Int)), (33, v1), (12, d), (2, vi w)]) M5 rfl hne (fun d => dg rfl (dg rfl (dg rfl (rm rfl (dg rfl vd))))) (fun d h6 hd M6 => ?_)
    have rd : (tSl ae.t).R (out.flatMap fun c => co c (ix bl i) w) d := ⟨⟨es, hd, ha⟩, by omega⟩
    generalize (out.flatMap fun c => co c (ix bl i) w) = rest at *
    obtain ⟨c0, a1, a2⟩ := cm7 rd (by omega)
    refine de (mV rfl (dc (de (cL a1 rfl rfl (aq (TR.clo _ rd) bg) (dc ?_)))))
    refine de (mV rfl (dc (de (ab (ft rfl rfl) (dc (de (ab (ft rfl rfl) (dc (de (mV rfl (dc (de (mV rfl (dc (uy (ai ?_))))))))))))))))
    refine ah (af (mV rfl (ab (ba rfl rfl ma) (aw (ai (bc rfl (fun hd => ?_) fun hd => ?_))))))
    ·replace hd : (!decide ((fi rest).2 = 0)) = true := hd
     rw [if_pos hd] at hp
     refine ah (af (mV rfl (ab (v := nilS) (au rfl) (mV rfl (aw (ai ?_))))))
     exact dw (.tmp rfl (.tmp rfl .nil)) (ck rfl) ⟨nilS, by rw [← hp]; rfl, by rw [← hp]; exact gu⟩
    ·replace hd : (!decide ((fi rest).2 = 0)) = false := hd
     rw [if_neg (by rw [hd]; simp)] at hp
     refine ay (dj (ai (af (ab (ba rfl rfl ep) (mV rfl (aw (cx ?_)))))))
     refine li ?_ (bz4 r1 K m (i := i + 1) (by omega) (by omega) (by omega) a2 (bn2 _) (by rw [show (i + 1).toNat = i.toNat + 1 by omega]; exact hp) (Mem.sub M6 (.cons _ .slnil)))
     exact ko (by show some (vi (wr (i + 1))) = _; rw [hinc]) (sB rfl)
  ·simp only [decide_eq_false_iff_not] at hc; omega
theorem dn4 {x0 x1 : List ae} {x2 : Int} {v0 v1 : PV} (r0 : (tSl ae.t).R x0 v0) (r1 : (tSl ae.t).R x1 v1) (hl : x0.length ≤ 1000) : ∃ c0, FnR Tryz.prog 55 [v0, v1, vi x2] (.tup [c0, vi (fx x0 x1 x2).2]) ∧ (tSl ae.t).R (fx x0 x1 x2).1 c0 := by
 generalize hres : fx x0 x1 x2 = res
 obtain ⟨r, h1, c0, rfl, hr⟩ : ∃ r, FnR Tryz.prog 55 [v0, v1, vi x2] r ∧ ∃ c, r = .tup [c, vi res.2] ∧ (tSl ae.t).R res.1 c := by
  unfold fx at hres
  simp only [LET] at hres
  refine fnE cc6 (by simp) ?_
  refine ah (af (ab (v := nilS) (au rfl) (ab (v := vi 0) (au rfl) (aw (ai ?_)))))
  refine ah (ah (af (mV rfl (ab (v := vb (decide (x2 < 1))) (ba rfl rfl cy) (mV rfl ?_)))))
  refine cn 3 (d := 22) (v := vb (decide (x2 < 1) || decide (64 < x2))) ?_ ?_
  ·intro S Q r
   cases decide (x2 < 1)
   ·intro k
    refine am rfl rfl (au rfl) (am rfl rfl (ba rfl rfl ij) ?_)
    exact gK rfl rfl rfl rfl rfl k
   ·exact gN 2 rfl rfl rfl rfl rfl rfl
  refine aw (ai (bc rfl (fun hc => ?_) fun hc => ?_))
  ·rw [if_pos hc] at hres
   refine ah (af (ab (v := nilS) (au rfl) (ab (v := vi 10) (au rfl) (aw (ai ?_)))))
   exact dw (.tmp rfl (.tmp rfl .nil)) (ck rfl) ⟨nilS, by rw [← hres]; rfl, by rw [← hres]; exact gu⟩
  ·rw [if_neg (by rw [hc]; simp)] at hres
   simp only [Bool.or_eq_false_iff, decide_eq_false_iff_not] at hc
   obtain ⟨dr, a1, a0⟩ := df4 (x1 := x2) r0 (by omega) (by omega) (by omega)
   have hrl : (ju x0 x2).length ≤ 1000000 := by
    have key : ∀ (m : Nat) (i : Int) (z : List ae), m = Int.toNat ((x0.length : Int) - i) → (jh x0 x2 (fun z => z) m i z).length = z.length + m := by
     intro m
     induction m with
     | zero => intro i z hm; rfl
     | succ m ih =>
      intro i z hm
      rw [jh, ih _ _ (by omega), List.length_append, List.length_singleton]
      omega
    have : (ju x0 x2).length = _ := key _ 0 [] rfl
    rw [this, List.length_nil]
    omega
   obtain ⟨c0, a2, a3⟩ := cm7 a0 hrl
   refine ay (ai (ah (af (mV rfl (mV rfl ?_)))))
   refine cL a1 rfl rfl (aq (TR.clo _ r0) (aq rfl bg)) (cL a2 rfl rfl (aq (TR.clo _ a0) bg) ?_)
   refine mV rfl (ab (ft rfl rfl) (ab (ft rfl rfl) (mV rfl (mV rfl (aw (ai ?_))))))
   generalize ju x0 x2 = q at *
   refine ah (ah (af (mV rfl (ab (ba rfl rfl ma) (aw (ai (bc rfl (fun hd => ?_) fun hd => ?_)))))))
   ·replace hd : (!decide ((fi q).2 = 0)) = true := hd
    rw [if_pos hd] at hres
    refine ah (af (mV rfl (ab (v := nilS) (au rfl) (mV rfl (aw (ai ?_))))))
    exact dw (.tmp rfl (.tmp rfl .nil)) (ck rfl) ⟨nilS, by rw [← hres]; rfl, by rw [← hres]; exact gu⟩
   ·replace hd : (!decide ((fi q).2 = 0)) = false := hd
    rw [if_neg (by rw [hd]; simp)] at hres
    refine ay (ai (ah (ah (af (mV rfl (ab (cw rfl (cf r1 Tryz.underlying96 _)) (ab (v := vi 0) (au rfl) (aw (ai (bd ?_))))))))))
    refine wC (bz4 (w := x2) (res := res) r1 ?_ x1.length (i := 0) (by omega) (by omega) (by omega) a3 (bn2 _) hres (Mem.nil _)) rfl
    ·intro h out ov ro hp M
     refine fe (ai (ah (af (mV rfl (mV rfl (ab (v := vi 0) (au rfl) (aw (ai ?_))))))))
     subst hp
     exact dw (.tmp rfl (.tmp rfl .nil)) (ck (show closed (.tup _) = true from aq (TR.clo _ ro) (aq rfl bg))) ⟨ov, rfl, ro⟩
 exact ⟨c0, h1, hr⟩

end Go.Proofs.YthdnpgpnodgicaaGreat
