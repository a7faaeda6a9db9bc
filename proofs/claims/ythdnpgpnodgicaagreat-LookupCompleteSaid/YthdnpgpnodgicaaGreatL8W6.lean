/-
 The code of each function does what its plain program says.
-/
import Derived.Test.YthdnpgpnodgicaaGreatL8W5
set_option linter.unusedVariables false
set_option linter.unusedSimpArgs false
set_option maxRecDepth 100000
namespace Go.Proofs.YthdnpgpnodgicaaGreat
open Go Go.Pb Go.RowKit
def RF157 (res : Bool) (r : PV) : Prop := r = vb res
theorem bl8 {x0 : ae} {x1 : ae} {v0 v1 : PV} (r0 : ae.t.R x0 v0) (r1 : ae.t.R x1 v1) : FnR Tryz.prog 157 [v0, v1] (vb (lc x0 x1)) := by
 refine fnS (R := RF157) bl6 (fun _ h => h) rfl fun res hres => ?_
 unfold lc at hres
 refine sR (ab (dz rfl (TR.cnt ae.t r0)) (ab (dz rfl (TR.cnt ae.t r1)) (mB rfl (nR (fL rfl (ae.g_Mask r1) rfl rfl (fL rfl (ae.g_Mask r0) rfl rfl (ab (az (a := cj x1.Mask) (b := cj x0.Mask) rfl rfl al6) (ab (az (a := cj (x1.Mask &&& ~~~x0.Mask)) (b := cj 0#64) rfl rfl di0) ?_))))))))
 refine mV rfl ?_
 refine cp 10 (d := 21) (v := vb ((decide ((x1.Mask &&& ~~~x0.Mask) = 0#64)) && (decide (((x0.Value ^^^ x1.Value) &&& x1.Mask) = 0#64)))) ?_ ?_
 ·intro S Q r
  cases a1 : (decide ((x1.Mask &&& ~~~x0.Mask) = 0#64))
  ·exact gN 9 rfl rfl rfl rfl rfl rfl
  ·intro k
   have a0 := a1
   try simp only [qa] at a0
   refine ak rfl rfl (ck rfl (ae.g_Value r0)) (ak rfl rfl (bt rfl rfl rfl) (ak rfl rfl (ck rfl (ae.g_Value r1)) (ak rfl rfl (bt rfl rfl rfl) (ak rfl rfl (az (a := cj x0.Value) (b := cj x1.Value) rfl rfl dg7) (ak rfl rfl (ck rfl (ae.g_Mask r1)) (ak rfl rfl (bt rfl rfl rfl) (ak rfl rfl (az (a := cj (x0.Value ^^^ x1.Value)) (b := cj x1.Mask) rfl rfl wm) (ak rfl rfl (az (a := cj ((x0.Value ^^^ x1.Value) &&& x1.Mask)) (b := cj 0#64) rfl rfl di0) ?_))))))))
   exact gK rfl rfl rfl rfl rfl k
 refine mV rfl (nS ?_)
 exact rR hres rfl rfl rfl

def RF148 (res : Bool) (r : PV) : Prop := r = vb res
theorem wg {S : List Fr} {res : Bool} {x0 : List ae} {x1 : Int} {v0 : PV} (r0 : (tSl ae.t).R x0 v0) (hi : 0 ≤ x1) (hj : x1 < x0.length) {K0 : Unit → Bool}
  (c7 : ∀ {h : Heap} (M0 : Mem h []), K0 () = res → PX Tryz.prog 0 S (QR Tryz.prog [(4, none)] (RF148 res)) [] h) :
  ∀ {m : Nat} {a1 : Int} (c3 : m = Int.toNat ((x0.length : Int) - a1)) (b0 : 0 ≤ a1) {h : Heap} (M0 : Mem h []), gy x0 x1 K0 m a1 = res → RC Tryz.prog (.loop cd9) S (QR Tryz.prog [(4, none)] (RF148 res)) [(9, vi a1), (8, vi (x0.length : Int)), (7, v0), (1, vi x1), (0, v0)] h := by
 intro m
 induction m with
 | zero =>
  intro a1 c3 b0 h M0 hres
  rw [gy] at hres
  refine bw (sR (bN cy rfl rfl (nS (ah ?_))))
  refine bc rfl ?_ ?_ <;> intro c <;> try simp only [qa] at c
  ·omega
  refine dt (fj (df ?_))
  exact wP (c7 (Mem.sub M0 .slnil) hres) rfl
 | succ m ih =>
  intro a1 c3 b0 h M0 hres
  rw [gy] at hres
  refine bw (sR (bN cy rfl rfl (nS (ah ?_))))
  refine bc rfl ?_ ?_ <;> intro c <;> try simp only [qa] at c
  rotate_left
  ·omega
  refine ay (ai (ah (bf (sR (mV rfl ?_)))))
  obtain ⟨a8, b7, a0⟩ := dk (i := a1) r0 (by first | omega | omega) (by first | omega | omega)
  refine ab (bp rfl rfl b7) (lD a0 rfl rfl rfl ?_)
  refine dc (x := .agg [cj 0#64, cj 0#64]) M0 rfl rfl (fun b9 b8 c6 c0 => ?_)
  refine mV rfl ?_
  refine db (k := 0) (v := a8) c0 rfl rfl rfl (TR.cnt ae.t a0) (fun b4 a2 => ?_)
  replace a2 : Mem b4 [⟨.op b9 b8 0, 99, 2, [a8]⟩] := a2
  refine nS (ah (sR (mV rfl (mV rfl (bN nd rfl rfl (mV rfl ?_))))))
  refine cp 8 (d := 25) (v := vb ((decide (a1 = x1)) || (!(lc (ix x0 x1) (ix x0 a1))))) ?_ ?_
  ·intro S Q r
   cases a7 : (decide (a1 = x1))
   ·intro k
    have a6 := a7
    try simp only [qa] at a6
    refine ak rfl rfl (au rfl) (ak rfl rfl (au rfl) ?_)
    obtain ⟨c4, b6, a3⟩ := dk (i := x1) r0 (by first | omega | omega) (by first | omega | omega)
    refine ak rfl rfl (bp rfl rfl b6) (ak rfl rfl (bt rfl (TR.cnt ae.t a3) (TR.agg ae.t a3)) (ak rfl rfl (gi (k := 0) a2 rfl rfl (TR.agg ae.t a0)) ?_))
    have b5 := bl8  a3 a0 
    refine mq rfl rfl (vd rfl rfl (aq (TR.clo ae.t a3) (aq (TR.clo ae.t a0) bh)) b5) (ak rfl rfl (jy rfl) ?_)
    exact gK rfl rfl rfl rfl rfl k
   ·exact gN 7 rfl rfl rfl rfl rfl rfl
  refine nS ?_
  refine dg hres rfl ?_ ?_ <;> clear hres <;> intro c hres <;> try simp only [qa] at c
  ·refine dt (fj (ft (ai (af (bN fa rfl rfl (mV rfl (av (cx ?_))))))))
   have hbd := ee r0
   have hinc : wr (a1 + 1) = a1 + 1 := dm (by omega) (by omega)
   erw [hinc]
   exact wC (ih   (by omega) (by omega) (Mem.sub a2 (.cons _ .slnil)) hres) rfl
  ·refine ay (ai (sR (ab (gi (k := 0) a2 rfl rfl (TR.agg ae.t a0)) (mV rfl (mV rfl ?_)))))
   obtain ⟨c5, c1, a4⟩ := dk (i := x1) r0 (by first | omega | omega) (by first | omega | omega)
   refine ab (bp rfl rfl c1) (lD a4 rfl rfl rfl ?_)
   obtain ⟨a9, b2, hres⟩ := dl hres
   have b1 := bl8  a0 a4 
   rw [b2] at b1
   refine cL b1 rfl rfl (aq (TR.clo ae.t a0) (aq (TR.clo ae.t a4) bh)) (ab (jy rfl) (mV rfl ?_))
   refine cp 4 (d := 37) (v := vb ((!a9) || (decide (a1 < x1)))) ?_ ?_
   ·intro S Q r
    cases b3 : (!a9)
    ·intro k
     have a5 := b3
     try simp only [qa] at a5
     refine ak rfl rfl (au rfl) (ak rfl rfl (au rfl) (ak rfl rfl (az rfl rfl cy) ?_))
     exact gK rfl rfl rfl rfl rfl k
    ·exact gN 3 rfl rfl rfl rfl rfl rfl
   refine nS ?_
   refine dg hres rfl ?_ ?_ <;> clear hres <;> intro c hres <;> try simp only [qa] at c
   ·refine sR (mB rfl (nS ?_))
    exact rR hres rfl rfl rfl
   ·refine ay (dh (ai (af (bN fa rfl rfl (mV rfl (av (cx ?_)))))))
    have hbd := ee r0
    have hinc : wr (a1 + 1) = a1 + 1 := dm (by omega) (by omega)
    erw [hinc]
    exact wC (ih   (by omega) (by omega) (Mem.sub a2 (.cons _ .slnil)) hres) rfl

theorem cu0 {x0 : List ae} {x1 : Int} {v0 : PV} (r0 : (tSl ae.t).R x0 v0) (hi : 0 ≤ x1) (hj : x1 < x0.length) : FnR Tryz.prog 148 [v0, vi x1] (vb (pd x0 x1)) := by
 refine fnS (R := RF148) bp0 (fun _ h => h) rfl fun res hres => ?_
 unfold pd at hres
 refine sR (mB rfl (nS (ah (sR (mV rfl (ab (cw rfl (cg r0 Tryz.underlying96 _)) (mI rfl (nS ?_))))))))
 refine bf ?_
 refine wC (wg r0 hi hj ?_  rfl (by omega) (Mem.sub (Mem.nil ⟨0, []⟩) .slnil) hres) rfl
 ·intro a1 a0 hres
  refine ft (ai (sR (mB rfl (nS ?_))))
  exact rR hres rfl rfl rfl

def RF124 (res : (List ae)) (r : PV) : Prop := (tSl ae.t).R res r
theorem xj {S : List Fr} {res : (List ae)} {x0 : List ae} {v0 : PV} (r0 : (tSl ae.t).R x0 v0) (hl : x0.length ≤ 1000000) {K0 : (List ae) → (List ae)}
  (d6 : ∀ {a1 : List ae} {a0 : List PV} {a2 : PV} (a5 : All2 ae.t.R a1 a0) (a7 : isL a2 = true) (a4 : Wri a2 a0) (a6 : a1.length ≤ 4611686018427387904) {h : Heap} (M0 : Mem h [⟨a2, 99, 2, a0⟩]), K0 a1 = res → PX Tryz.prog 0 S (QR Tryz.prog [(2, none)] (RF124 res)) [(3, a2)] h) :
  ∀ {m : Nat} {a3 : Int} {a1 : List ae} {a0 : List PV} {a2 : PV} (a5 : All2 ae.t.R a1 a0) (a7 : isL a2 = true) (a4 : Wri a2 a0) (a6 : a1.length ≤ 4611686018427387904) (d1 : m = Int.toNat ((x0.length : Int) - a3)) (b8 : 0 ≤ a3) (b2 : (a1.length : Int) ≤ a3) {h : Heap} (M0 : Mem h [⟨a2, 99, 2, a0⟩]), il x0 K0 m a3 a1 = res → RC Tryz.prog (.loop cl3) S (QR Tryz.prog [(2, none)] (RF124 res)) [(8, vi a3), (7, vi (x0.length : Int)), (6, v0), (3, a2), (0, v0)] h := by
 intro m
 induction m with
 | zero =>
  intro a3 a1 a0 a2 a5 a7 a4 a6 d1 b8 b2 h M0 hres
  rw [il] at hres
  refine bw (sR (bN cy rfl rfl (nS (ah ?_))))
  refine bc rfl ?_ ?_ <;> intro c <;> try simp only [qa] at c
  ·omega
  refine dt (fj (df ?_))
  exact wP (d6 a5 a7 a4 a6 (Mem.sub M0 (.cons_cons _ .slnil)) hres) rfl
 | succ m ih =>
  intro a3 a1 a0 a2 a5 a7 a4 a6 d1 b8 b2 h M0 hres
  rw [il] at hres
  refine bw (sR (bN cy rfl rfl (nS (ah ?_))))
  refine bc rfl ?_ ?_ <;> intro c <;> try simp only [qa] at c
  rotate_left
  ·omega
  refine ay (ai (ah (bf (sR (mV rfl ?_)))))
  obtain ⟨b7, c7, a9⟩ := dk (i := a3) r0 (by first | omega | (have hk := bn (by assumption) (by assumption); omega) | (have hk := tck (by assumption) (by assumption); omega) | (have hk := rtck (by assumption) (by assumption); omega) | (have hk := eck (by assumption) (by assumption) (by assumption); omega) | (have hk := tv (by assumption) (by assumption); omega) | (have hk := rtv (by assumption) (by assumption); omega)) (by first | omega | (have hk := bn (by assumption) (by assumption); omega) | (have hk := tck (by assumption) (by assumption); omega) | (have hk := rtck (by assumption) (by assumption); omega) | (have hk := eck (by assumption) (by assumption) (by assumption); omega) | (have hk := tv (by assumption) (by assumption); omega) | (have hk := rtv (by assumption) (by assumption); omega))
  refine ab (bp rfl rfl c7) (lD a9 rfl rfl rfl ?_)
  refine dc (x := .agg [cj 0#64, cj 0#64]) M0 rfl rfl (fun c4 c6 d2 c5 => ?_)
  refine mV rfl ?_
  refine db (k := 0) (v := b7) c5 rfl rfl rfl (TR.cnt ae.t a9) (fun c1 a8 => ?_)
  replace a8 : Mem c1 [⟨.op c4 c6 0, 99, 2, [b7]⟩, ⟨a2, 99, 2, a0⟩] := a8
  refine nR (mV rfl (mV rfl ?_))
  obtain ⟨d3, b9, hres⟩ := dl hres
  have b6 := cu0 (x1 := a3) r0 (by first | assumption | omega | (have := rv (by assumption) (by assumption); omega) | (rw [dm (by omega) (by omega)]; omega) | (simp only [List.length_cons, List.length_nil]; omega)) (by first | assumption | omega | (have := rv (by assumption) (by assumption); omega) | (rw [dm (by omega) (by omega)]; omega) | (simp only [List.length_cons, List.length_nil]; omega))
  rw [b9] at b6
  refine cL b6 rfl rfl (aq (TR.clo (tSl ae.t) r0) (aq rfl bh)) (ab (jy rfl) (nS ?_))
  refine dg hres rfl ?_ ?_ <;> clear hres <;> intro c hres <;> try simp only [qa] at c
  ·refine af (mV rfl (ab (bd rfl) (ab (co (k := 0) a8 rfl rfl (ae.g_Value a9)) (ab (bd rfl) (ab (co (k := 0) a8 rfl rfl (ae.g_Mask a9)) (ab (az (a := cj ((ix x0 a3).Value)) (b := cj ((ix x0 a3).Mask)) rfl rfl wm) (ab (bd rfl) (ab (co (k := 0) a8 rfl rfl (ae.g_Mask a9)) ?_))))))))
   refine ab (v := .agg [cj (((ix x0 a3).Value) &&& ((ix x0 a3).Mask)), cj ((ix x0 a3).Mask)]) (ni (cs := [cj (((ix x0 a3).Value) &&& ((ix x0 a3).Mask)), cj ((ix x0 a3).Mask)]) rfl rfl) (ab (v := .fs true [.agg [cj (((ix x0 a3).Value) &&& ((ix x0 a3).Mask)), cj ((ix x0 a3).Mask)]]) (ir rfl (all_cons rfl lf)) ?_)
   have c8 : (tSl ae.t).R ([({ Value := (((ix x0 a3).Value) &&& ((ix x0 a3).Mask)), Mask := (ix x0 a3).Mask } : ae)] : List ae) (.fs true [.agg [cj (((ix x0 a3).Value) &&& ((ix x0 a3).Mask)), cj ((ix x0 a3).Mask)]]) := sm ⟨rfl, trivial⟩ (by simp)
   obtain ⟨b0, c0, b1⟩ := vm (t := ae.t) (h := c1) c8
   have c3 : fits (a0.length + b0.length) 16 = true := by rw [All2.length_eq a5, All2.length_eq b1]; (try simp only [List.length_cons, List.length_nil]); exact pe (by omega) (by omega)
   refine pz (k := 1) (es := a0) (news := b0) a8 rfl rfl rfl a7 a4 c0 c3 (fun d4 d5 c9 b5 d0 => ?_)
   have b4 : All2 ae.t.R (a1 ++ ([({ Value := (((ix x0 a3).Value) &&& ((ix x0 a3).Mask)), Mask := (ix x0 a3).Mask } : ae)] : List ae)) (a0 ++ b0) := All2.app a5 b1
   have b3 : (a1 ++ ([({ Value := (((ix x0 a3).Value) &&& ((ix x0 a3).Mask)), Mask := (ix x0 a3).Mask } : ae)] : List ae)).length ≤ 4611686018427387904 := by rw [← All2.length_eq b4, List.length_append]; exact vz c3
   refine mV rfl (av (dh (ai (af (bN fa rfl rfl (mV rfl (av (cx ?_))))))))
   have hbd := ee r0
   have hinc : wr (a3 + 1) = a3 + 1 := dm (by omega) (by omega)
   erw [hinc]
   exact wC (ih  b4 c9 b5 b3 (by omega) (by omega) (by first | omega | (simp; done) | (simp only [List.length_append, List.length_cons, List.length_nil, List.length_set]; omega)) (Mem.sub d0 (.cons _ (.cons_cons _ .slnil))) hres) rfl
  ·refine ay (dh (ai (af (bN fa rfl rfl (mV rfl (av (cx ?_)))))))
   have hbd := ee r0
   have hinc : wr (a3 + 1) = a3 + 1 := dm (by omega) (by omega)
   erw [hinc]
   exact wC (ih  a5 a7 a4 a6 (by omega) (by omega) (by first | omega | (simp; done) | (simp only [List.length_append, List.length_cons, List.length_nil, List.length_set]; omega)) (Mem.sub a8 (.cons _ (.cons_cons _ .slnil))) hres) rfl

theorem da0 {x0 : List ae} {v0 : PV} (r0 : (tSl ae.t).R x0 v0) (hl : x0.length ≤ 1000000) : ∃ r, FnR Tryz.prog 124 [v0] r ∧ (tSl ae.t).R (nl x0) r := by
 refine fnT (R := RF124) bk6 rfl fun res hres => ?_
 unfold nl at hres
 refine sR (ab (v := nilS) (au rfl) (nR (ab (v := nilS) (au rfl) (nS (ah (sR (mV rfl (ab (cw rfl (cg r0 Tryz.underlying96 _)) ?_))))))))
 refine mI rfl (nS (bf ?_))
 have a7 := qc (sz := 2) (es := []) (Mem.nil ⟨0, []⟩) 99 (.inl ⟨none, rfl, rfl⟩) (by simp)
 refine wC (xj r0 hl ?_  aL rfl (.inl rfl) (by first | decide | simp) rfl (by omega) (by first | omega | (simp; done) | (simp only [List.length_append, List.length_cons, List.length_nil, List.length_set]; omega)) (Mem.sub a7 (.cons_cons _ .slnil)) hres) rfl
 ·intro a5 a3 a6 a2 a1 a4 a0 b1 a9 hres
  refine ft (ai (sR (mV rfl (mV rfl (nS ?_)))))
  obtain ⟨b2, a8, b0⟩ := xk (P := Tryz.prog) (k := 0) (t := ae.t) a9 rfl a1 a2 (Nat.le_trans a0 (by decide))
  subst hres
  exact dw (.tmp rfl .nil) a8 b0

def RF99 (res : (List ae) × Int) (r : PV) : Prop := ∃ c0, r = .tup [c0, vi res.2] ∧ (tSl ae.t).R res.1 c0
theorem cl6 {x0 : List ae} {v0 : PV} (r0 : (tSl ae.t).R x0 v0) (hl : x0.length ≤ 1000000) : ∃ c0, FnR Tryz.prog 99 [v0] (.tup [c0, vi ((fi x0).2)]) ∧ (tSl ae.t).R (fi x0).1 c0 := by
 obtain ⟨res, hres⟩ : ∃ res, fi x0 = res := ⟨_, rfl⟩
 suffices H : RC Tryz.prog ef8 [] (QR Tryz.prog [(2, none), (3, none)] (RF99 res)) (argE 0 [v0]) ⟨0, []⟩ by
  rw [hres]
  obtain ⟨r, h1, c0, rfl, a4⟩ := fnE cl1 (by simp) H
  exact ⟨c0, h1, a4⟩
 unfold fi at hres
 refine sR (ab (v := nilS) (au rfl) (mI rfl (nR (mV rfl ?_))))
 obtain ⟨a5, a1, hres⟩ := dl hres
 obtain ⟨a2, a3, a0⟩ := da0  r0 (by first | assumption | omega | (have := rv (by assumption) (by assumption); omega) | (rw [dm (by omega) (by omega)]; omega) | (simp only [List.length_cons, List.length_nil]; omega))
 rw [a1] at a0
 refine cL a3 rfl rfl (aq (TR.clo (tSl ae.t) r0) bh) (mV rfl (nS (ah (sR (mV rfl (ab (cw rfl (cg a0 Tryz.underlying96 _)) (bN ig rfl rfl (nS ?_))))))))
 refine dg hres rfl ?_ ?_ <;> clear hres <;> intro c hres <;> try simp only [qa] at c
 ·refine sR (ab (v := nilS) (au rfl) (mI rfl (nS ?_)))
  subst hres
  exact dw (.tmp rfl (.tmp rfl .nil)) (cf (show closed (.tup _) = true from (aq (TR.clo (tSl ae.t) ii) (aq rfl bh)))) ⟨nilS, rfl, ii⟩
 ·refine ay (ai (sR (mV rfl (mV rfl (mI rfl (nS ?_))))))
  subst hres
  exact dw (.tmp rfl (.tmp rfl .nil)) (cf (show closed (.tup _) = true from (aq (TR.clo (tSl ae.t) a0) (aq rfl bh)))) ⟨a2, rfl, a0⟩

def RF100 (res : (List ae)) (r : PV) : Prop := (tSl ae.t).R res r
theorem wy {S : List Fr} {res : (List ae)} {x0 : List ae} {x1 : Int} {v0 : PV} (r0 : (tSl ae.t).R x0 v0) (hw : x1 ≤ 64) (h0 : 0 ≤ x1) (hl : x0.length ≤ 1000000) {K0 : (List ae) → (List ae)}
  (d2 : ∀ {a2 : List ae} {a1 : List PV} {a3 : PV} (a5 : All2 ae.t.R a2 a1) (a7 : isL a3 = true) (a4 : Wri a3 a1) (a6 : a2.length ≤ 4611686018427387904) {h : Heap} (M0 : Mem h [⟨a3, 99, 2, a1⟩]), K0 a2 = res → PX Tryz.prog 0 S (QR Tryz.prog [(4, none)] (RF100 res)) [(6, a3)] h) :
  ∀ {m : Nat} {a0 : Int} {a2 : List ae} {a1 : List PV} {a3 : PV} (a5 : All2 ae.t.R a2 a1) (a7 : isL a3 = true) (a4 : Wri a3 a1) (a6 : a2.length ≤ 4611686018427387904) (c9 : m = Int.toNat ((x0.length : Int) - a0)) (b6 : 0 ≤ a0) (b2 : (a2.length : Int) ≤ a0) {h : Heap} (M0 : Mem h [⟨a3, 99, 2, a1⟩]), jl x0 x1 K0 m a0 a2 = res → RC Tryz.prog (.loop cj6) S (QR Tryz.prog [(4, none)] (RF100 res)) [(15, vi a0), (14, vi (x0.length : Int)), (13, v0), (6, a3), (5, cj (18446744073709551615#64 >>> (wr (64 - x1)).toNat))] h := by
 intro m
 induction m with
 | zero =>
  intro a0 a2 a1 a3 a5 a7 a4 a6 c9 b6 b2 h M0 hres
  rw [jl] at hres
  refine bw (sR (bN cy rfl rfl (nS (ah ?_))))
  refine bc rfl ?_ ?_ <;> intro c <;> try simp only [qa] at c
  ·omega
  refine dt (fj (df ?_))
  exact wP (d2 a5 a7 a4 a6 (Mem.sub M0 (.cons_cons _ .slnil)) hres) rfl
 | succ m ih =>
  intro a0 a2 a1 a3 a5 a7 a4 a6 c9 b6 b2 h M0 hres
  rw [jl] at hres
  refine bw (sR (bN cy rfl rfl (nS (ah ?_))))
  refine bc rfl ?_ ?_ <;> intro c <;> try simp only [qa] at c
  rotate_left
  ·omega
  refine ay (ai (ah (bf (sR ?_))))
  obtain ⟨b4, c7, b0⟩ := dk (i := a0) r0 (by first | omega | (have hk := bn (by assumption) (by assumption); omega) | (have hk := tck (by assumption) (by assumption); omega) | (have hk := rtck (by assumption) (by assumption); omega) | (have hk := eck (by assumption) (by assumption) (by assumption); omega) | (have hk := tv (by assumption) (by assumption); omega) | (have hk := rtv (by assumption) (by assumption); omega)) (by first | omega | (have hk := bn (by assumption) (by assumption); omega) | (have hk := tck (by assumption) (by assumption); omega) | (have hk := rtck (by assumption) (by assumption); omega) | (have hk := eck (by assumption) (by assumption) (by assumption); omega) | (have hk := tv (by assumption) (by assumption); omega) | (have hk := rtv (by assumption) (by assumption); omega))
  refine ab (bp rfl rfl c7) (lD b0 rfl rfl rfl ?_)
  refine dc (x := .agg [cj 0#64, cj 0#64]) M0 rfl rfl (fun c3 c5 d0 c4 => ?_)
  refine db (k := 0) (v := b4) c4 rfl rfl rfl (TR.cnt ae.t b0) (fun b8 a9 => ?_)
  replace a9 : Mem b8 [⟨.op c3 c5 0, 99, 2, [b4]⟩, ⟨a3, 99, 2, a1⟩] := a9
  refine nR (ab (bd rfl) (ab (co (k := 0) a9 rfl rfl (ae.g_Mask b0)) (mV rfl (ab (az (a := cj ((ix x0 a0).Mask)) (b := cj (18446744073709551615#64 >>> (wr (64 - x1)).toNat)) rfl rfl wm) (mV rfl (nS (af (mV rfl ?_))))))))
  refine ab (bd rfl) (ab (co (k := 0) a9 rfl rfl (ae.g_Value b0)) (mV rfl (ab (az (a := cj ((ix x0 a0).Value)) (b := cj (((ix x0 a0).Mask) &&& (18446744073709551615#64 >>> (wr (64 - x1)).toNat))) rfl rfl wm) (mV rfl (ab (v := .agg [cj (((ix x0 a0).Value) &&& (((ix x0 a0).Mask) &&& (18446744073709551615#64 >>> (wr (64 - x1)).toNat))), cj (((ix x0 a0).Mask) &&& (18446744073709551615#64 >>> (wr (64 - x1)).toNat))]) (ni (cs := [cj (((ix x0 a0).Value) &&& (((ix x0 a0).Mask) &&& (18446744073709551615#64 >>> (wr (64 - x1)).toNat))), cj (((ix x0 a0).Mask) &&& (18446744073709551615#64 >>> (wr (64 - x1)).toNat))]) rfl rfl) (ab (v := .fs true [.agg [cj (((ix x0 a0).Value) &&& (((ix x0 a0).Mask) &&& (18446744073709551615#64 >>> (wr (64 - x1)).toNat))), cj (((ix x0 a0).Mask) &&& (18446744073709551615#64 >>> (wr (64 - x1)).toNat))]]) (ir rfl (all_cons rfl lf)) ?_))))))
  have c8 : (tSl ae.t).R ([({ Value := (((ix x0 a0).Value) &&& (((ix x0 a0).Mask) &&& (18446744073709551615#64 >>> (wr (64 - x1)).toNat))), Mask := (((ix x0 a0).Mask) &&& (18446744073709551615#64 >>> (wr (64 - x1)).toNat)) } : ae)] : List ae) (.fs true [.agg [cj (((ix x0 a0).Value) &&& (((ix x0 a0).Mask) &&& (18446744073709551615#64 >>> (wr (64 - x1)).toNat))), cj (((ix x0 a0).Mask) &&& (18446744073709551615#64 >>> (wr (64 - x1)).toNat))]]) := sm ⟨rfl, trivial⟩ (by simp)
  obtain ⟨a8, b5, b1⟩ := vm (t := ae.t) (h := b8) c8
  have b9 : fits (a1.length + a8.length) 16 = true := by rw [All2.length_eq a5, All2.length_eq b1]; (try simp only [List.length_cons, List.length_nil]); exact pe (by omega) (by omega)
  refine pz (k := 1) (es := a1) (news := a8) a9 rfl rfl rfl a7 a4 b5 b9 (fun d1 d3 c6 b3 c1 => ?_)
  have c0 : All2 ae.t.R (a2 ++ ([({ Value := (((ix x0 a0).Value) &&& (((ix x0 a0).Mask) &&& (18446744073709551615#64 >>> (wr (64 - x1)).toNat))), Mask := (((ix x0 a0).Mask) &&& (18446744073709551615#64 >>> (wr (64 - x1)).toNat)) } : ae)] : List ae)) (a1 ++ a8) := All2.app a5 b1
  have b7 : (a2 ++ ([({ Value := (((ix x0 a0).Value) &&& (((ix x0 a0).Mask) &&& (18446744073709551615#64 >>> (wr (64 - x1)).toNat))), Mask := (((ix x0 a0).Mask) &&& (18446744073709551615#64 >>> (wr (64 - x1)).toNat)) } : ae)] : List ae)).length ≤ 4611686018427387904 := by rw [← All2.length_eq c0, List.length_append]; exact vz b9
  refine mV rfl (av (dh (ai (af (bN fa rfl rfl (mV rfl (av (cx ?_))))))))
  have hbd := ee r0
  have hinc : wr (a0 + 1) = a0 + 1 := dm (by omega) (by omega)
  erw [hinc]
  exact wC (ih  c0 c6 b3 b7 (by omega) (by omega) (by first | omega | (simp; done) | (simp only [List.length_append, List.length_cons, List.length_nil, List.length_set]; omega)) (Mem.sub c1 (.cons _ (.cons_cons _ .slnil))) hres) rfl

theorem cx6 {x0 : List ae} {x1 : Int} {v0 : PV} (r0 : (tSl ae.t).R x0 v0) (hw : x1 ≤ 64) (h0 : 0 ≤ x1) (hl : x0.length ≤ 1000000) : ∃ r, FnR Tryz.prog 100 [v0, vi x1] r ∧ (tSl ae.t).R (js x0 x1) r := by
 refine fnT (R := RF100) br0 rfl fun res hres => ?_
 unfold js at hres
 refine sR (ab (v := nilS) (au rfl) (nR (mV rfl (bN af6 rfl rfl (ab (az (a := cj 18446744073709551615#64) (b := vi (wr (64 - x1))) rfl rfl (ay9 (by first | omega | (rw [dm (by omega) (by omega)]; omega)))) (mV rfl (nR (ab (v := nilS) (au rfl) ?_))))))))
 refine nS (ah (sR (mV rfl (ab (cw rfl (cg r0 Tryz.underlying96 _)) (mI rfl (nS (bf ?_)))))))
 have a7 := qc (sz := 2) (es := []) (Mem.nil ⟨0, []⟩) 99 (.inl ⟨none, rfl, rfl⟩) (by simp)
 refine wC (wy r0 hw h0 hl ?_  aL rfl (.inl rfl) (by first | decide | simp) rfl (by omega) (by first | omega | (simp; done) | (simp only [List.length_append, List.length_cons, List.length_nil, List.length_set]; omega)) (Mem.sub a7 (.cons_cons _ .slnil)) hres) rfl
 ·intro a4 a5 a6 a2 a1 a3 a0 b2 a8 hres
  refine ft (ai (sR (mV rfl (mV rfl (nS ?_)))))
  obtain ⟨b1, a9, b0⟩ := xk (P := Tryz.prog) (k := 0) (t := ae.t) a8 rfl a1 a2 (Nat.le_trans a0 (by decide))
  subst hres
  exact dw (.tmp rfl .nil) a9 b0

def RF125 (res : Bool) (r : PV) : Prop := r = vb res
theorem da5 {x0 : Int} : FnR Tryz.prog 125 [vi x0] (vb (qi x0)) := by
 refine fnS (R := RF125) bl2 (fun _ h => h) rfl fun res hres => ?_
 unfold qi at hres
 refine sR (mB rfl (nR (mV rfl (bN sw rfl rfl (mV rfl ?_)))))
 refine cp 3 (d := 8) (v := vb ((decide (1 ≤ x0)) && (decide (x0 ≤ 64)))) ?_ ?_
 ·intro S Q r
  cases a1 : (decide (1 ≤ x0))
  ·exact gN 2 rfl rfl rfl rfl rfl rfl
  ·intro k
   have a0 := a1
   try simp only [qa] at a0
   refine ak rfl rfl (au rfl) (ak rfl rfl (az rfl rfl cc8) ?_)
   exact gK rfl rfl rfl rfl rfl k
 refine mV rfl (nS ?_)
 exact rR hres rfl rfl rfl

def RF126 (res : (BitVec 64)) (r : PV) : Prop := r = cj res
theorem bm8 {x0 : Int} (hw : x0 ≤ 64) (h0 : 0 ≤ x0) : FnR Tryz.prog 126 [vi x0] (cj (dy x0)) := by
 refine fnS (R := RF126) bi9 (fun _ h => h) rfl fun res hres => ?_
 unfold dy at hres
 refine sR (ab (v := cj 0#64) (au rfl) (nR (mV rfl (bN af6 rfl rfl (ab (az (a := cj 18446744073709551615#64) (b := vi (wr (64 - x0))) rfl rfl (ay9 (by first | omega | (rw [dm (by omega) (by omega)]; omega)))) (mV rfl (nS ?_)))))))
 exact rR hres rfl rfl rfl

def RF127 (res : ae) (r : PV) : Prop := ae.t.R res r
theorem bn4 {x0 : ae} {v0 : PV} (r0 : ae.t.R x0 v0) : ∃ r, FnR Tryz.prog 127 [v0] r ∧ ae.t.R (fd x0) r := by
 refine fnT (R := RF127) bi6 rfl fun res hres => ?_
 unfold fd at hres
 refine sR (ab (dz rfl (TR.cnt ae.t r0)) ?_)
 refine dc (x := .agg [cj 0#64, cj 0#64]) (Mem.nil ⟨0, []⟩) rfl rfl (fun a4 a3 a5 a1 => ?_)
 refine nR (fL rfl (ae.g_Value r0) rfl rfl (fL rfl (ae.g_Mask r0) rfl rfl (ab (az (a := cj x0.Value) (b := cj x0.Mask) rfl rfl wm) (fL rfl (ae.g_Mask r0) rfl rfl (ab (v := .agg [cj (x0.Value &&& x0.Mask), cj x0.Mask]) (ni (cs := [cj (x0.Value &&& x0.Mask), cj x0.Mask]) rfl rfl) ?_)))))
 refine db (k := 0) (v := .agg [cj (x0.Value &&& x0.Mask), cj x0.Mask]) a1 rfl rfl rfl rfl (fun a2 a0 => ?_)
 replace a0 : Mem a2 [⟨.op a4 a3 0, 99, 2, [.agg [cj (x0.Value &&& x0.Mask), cj x0.Mask]]⟩] := a0
 refine nS ?_
 subst hres
 exact dw (.cell rfl (ji (k := 0) a0 rfl rfl) .nil) (cf (TR.clo ae.t (show ae.t.R ({ Value := (x0.Value &&& x0.Mask), Mask := x0.Mask } : ae) (.agg [cj (x0.Value &&& x0.Mask), cj x0.Mask]) from rfl))) (show ae.t.R ({ Value := (x0.Value &&& x0.Mask), Mask := x0.Mask } : ae) (.agg [cj (x0.Value &&& x0.Mask), cj x0.Mask]) from rfl)

def RF128 (res : ae × Bool) (r : PV) : Prop := ∃ c0, r = .tup [c0, vb res.2] ∧ ae.t.R res.1 c0
theorem cz4 {x0 : ae} {x1 : ae} {v0 v1 : PV} (r0 : ae.t.R x0 v0) (r1 : ae.t.R x1 v1) : ∃ c0, FnR Tryz.prog 128 [v0, v1] (.tup [c0, vb ((io x0 x1).2)]) ∧ ae.t.R (io x0 x1).1 c0 := by
 obtain ⟨res, hres⟩ : ∃ res, io x0 x1 = res := ⟨_, rfl⟩
 suffices H : RC Tryz.prog dj1 [] (QR Tryz.prog [(4, some (2, true)), (5, none)] (RF128 res)) (argE 0 [v0, v1]) ⟨0, []⟩ by
  rw [hres]
  obtain ⟨r, h1, c0, rfl, a7⟩ := fnE bq3 (by simp) H
  exact ⟨c0, h1, a7⟩
 unfold io at hres
 refine sR (ab (dz rfl (TR.cnt ae.t r0)) (ab (dz rfl (TR.cnt ae.t r1)) ?_))
 refine dc (x := .agg [cj 0#64, cj 0#64]) (Mem.nil ⟨0, []⟩) rfl rfl (fun a4 a3 a8 a2 => ?_)
 refine mB rfl (nS (ah (sR (fL rfl (ae.g_Value r0) rfl rfl (fL rfl (ae.g_Value r1) rfl rfl (ab (az (a := cj x0.Value) (b := cj x1.Value) rfl rfl dg7) (fL rfl (ae.g_Mask r0) rfl rfl (ab (az (a := cj (x0.Value ^^^ x1.Value)) (b := cj x0.Mask) rfl rfl wm) ?_))))))))
 refine fL rfl (ae.g_Mask r1) rfl rfl (ab (az (a := cj ((x0.Value ^^^ x1.Value) &&& x0.Mask)) (b := cj x1.Mask) rfl rfl wm) (ab (az (a := cj (((x0.Value ^^^ x1.Value) &&& x0.Mask) &&& x1.Mask)) (b := cj 0#64) rfl rfl cl4) (nS ?_)))
 refine dg hres rfl ?_ ?_ <;> clear hres <;> intro c hres <;> try simp only [qa] at c
 ·refine sR (ab (v := .agg [cj 0#64, cj 0#64]) (ni (cs := [cj 0#64, cj 0#64]) rfl rfl) ?_)
  refine db (k := 0) (v := .agg [cj 0#64, cj 0#64]) a2 rfl rfl rfl rfl (fun a6 a1 => ?_)
  replace a1 : Mem a6 [⟨.op a4 a3 0, 99, 2, [.agg [cj 0#64, cj 0#64]]⟩] := a1
  refine mB rfl (nS ?_)
  subst hres
  exact dw (.cell rfl (ji (k := 0) a1 rfl rfl) (.tmp rfl .nil)) (cf (show closed (.tup _) = true from (aq (TR.clo ae.t (show ae.t.R ({ Value := 0#64, Mask := 0#64 } : ae) (.agg [cj 0#64, cj 0#64]) from rfl)) (aq rfl bh)))) ⟨.agg [cj 0#64, cj 0#64], rfl, rfl⟩
 ·refine ay (ai (sR (fL rfl (ae.g_Value r0) rfl rfl (fL rfl (ae.g_Mask r0) rfl rfl (ab (az (a := cj x0.Value) (b := cj x0.Mask) rfl rfl wm) (fL rfl (ae.g_Value r1) rfl rfl (fL rfl (ae.g_Mask r1) rfl rfl (ab (az (a := cj x1.Value) (b := cj x1.Mask) rfl rfl wm) ?_))))))))
  refine ab (az (a := cj (x0.Value &&& x0.Mask)) (b := cj (x1.Value &&& x1.Mask)) rfl rfl d_or) (fL rfl (ae.g_Mask r0) rfl rfl (fL rfl (ae.g_Mask r1) rfl rfl (ab (az (a := cj x0.Mask) (b := cj x1.Mask) rfl rfl d_or) (ab (v := .agg [cj ((x0.Value &&& x0.Mask) ||| (x1.Value &&& x1.Mask)), cj (x0.Mask ||| x1.Mask)]) (ni (cs := [cj ((x0.Value &&& x0.Mask) ||| (x1.Value &&& x1.Mask)), cj (x0.Mask ||| x1.Mask)]) rfl rfl) ?_))))
  refine db (k := 0) (v := .agg [cj ((x0.Value &&& x0.Mask) ||| (x1.Value &&& x1.Mask)), cj (x0.Mask ||| x1.Mask)]) a2 rfl rfl rfl rfl (fun a5 a0 => ?_)
  replace a0 : Mem a5 [⟨.op a4 a3 0, 99, 2, [.agg [cj ((x0.Value &&& x0.Mask) ||| (x1.Value &&& x1.Mask)), cj (x0.Mask ||| x1.Mask)]]⟩] := a0
  refine mB rfl (nS ?_)
  subst hres
  exact dw (.cell rfl (ji (k := 0) a0 rfl rfl) (.tmp rfl .nil)) (cf (show closed (.tup _) = true from (aq (TR.clo ae.t (show ae.t.R ({ Value := ((x0.Value &&& x0.Mask) ||| (x1.Value &&& x1.Mask)), Mask := (x0.Mask ||| x1.Mask) } : ae) (.agg [cj ((x0.Value &&& x0.Mask) ||| (x1.Value &&& x1.Mask)), cj (x0.Mask ||| x1.Mask)]) from rfl)) (aq rfl bh)))) ⟨.agg [cj ((x0.Value &&& x0.Mask) ||| (x1.Value &&& x1.Mask)), cj (x0.Mask ||| x1.Mask)], rfl, rfl⟩

theorem cd0 {P : Program} {l : List UInt8} {ty : TypeId} {k : IntKind} {i : Int} (ht : P.underlying ty = some .string) (h0 : 0 ≤ i) (h1 : i < l.length) : indexSR P ty (vs l) (.sc (.int k i)) = some (vu8 (ix l i)) := by
 have h2 : i.toNat < l.length := by omega
 have h3 : (⟨l.toArray⟩ : ByteArray)[i.toNat]? = some l[i.toNat] := by
  rw [getElem?_pos (⟨l.toArray⟩ : ByteArray) i.toNat (by simpa [ByteArray.size] using h2)]
  rfl
 simp only [indexSR, toV, Instr.index, asIntOf, underlying, program, bind, Sem.bind, Sem.instMonad, pure, pureRun, ht]
 rw [if_pos h0, h3, qv h0 h1]
 rfl
def tabL : List UInt8 := [0, 1, 2, 2, 3, 3, 3, 3, 4, 4, 4, 4, 4, 4, 4, 4, 5, 5, 5, 5, 5, 5, 5, 5, 5, 5, 5, 5, 5, 5, 5, 5, 6, 6, 6, 6, 6, 6, 6, 6, 6, 6, 6, 6, 6, 6, 6, 6, 6, 6, 6, 6, 6, 6, 6, 6, 6, 6, 6, 6, 6, 6, 6, 6, 7, 7, 7, 7, 7, 7, 7, 7, 7, 7, 7, 7, 7, 7, 7, 7, 7, 7, 7, 7, 7, 7, 7, 7, 7, 7, 7, 7, 7, 7, 7, 7, 7, 7, 7, 7, 7, 7, 7, 7, 7, 7, 7, 7, 7, 7, 7, 7, 7, 7, 7, 7, 7, 7, 7, 7, 7, 7, 7, 7, 7, 7, 7, 7, 8, 8, 8, 8, 8, 8, 8, 8, 8, 8, 8, 8, 8, 8, 8, 8, 8, 8, 8, 8, 8, 8, 8, 8, 8, 8, 8, 8, 8, 8, 8, 8, 8, 8, 8, 8, 8, 8, 8, 8, 8, 8, 8, 8, 8, 8, 8, 8, 8, 8, 8, 8, 8, 8, 8, 8, 8, 8, 8, 8, 8, 8, 8, 8, 8, 8, 8, 8, 8, 8, 8, 8, 8, 8, 8, 8, 8, 8, 8, 8, 8, 8, 8, 8, 8, 8, 8, 8, 8, 8, 8, 8, 8, 8, 8, 8, 8, 8, 8, 8, 8, 8, 8, 8, 8, 8, 8, 8, 8, 8, 8, 8, 8, 8, 8, 8, 8, 8, 8, 8, 8, 8, 8, 8, 8, 8, 8, 8]
theorem cx8 : ∀ i : Fin 256, ((ix tabL (i.val : Int)).toNat : Int) = cd (BitVec.ofNat 64 i.val) := by decide +kernel
theorem cs7 {a : BitVec 64} {s : Nat} (h : 2 ^ s ≤ a.toNat) : cd a = s + cd (a >>> s) := by
 have h0 := Nat.two_pow_pos s
 have hd : (a >>> s).toNat = a.toNat / 2 ^ s := by rw [BitVec.toNat_ushiftRight, Nat.shiftRight_eq_div_pow]
 have hp : 0 < a.toNat / 2 ^ s := Nat.div_pos h h0
 have e1 : a ≠ 0#64 := fun e => by rw [e] at h; simp at h
 have e2 : a >>> s ≠ 0#64 := fun e => by rw [e] at hd; simp at hd; omega
 unfold cd
 rw [if_neg e1, if_neg e2, hd]
 have key : a.toNat.log2 = s + (a.toNat / 2 ^ s).log2 := by
  have q1 := Nat.log2_self_le (n := a.toNat / 2 ^ s) (by omega)
  have q2 := Nat.lt_log2_self (n := a.toNat / 2 ^ s)
  have n0 : a.toNat ≠ 0 := by omega
  have b1 : s + (a.toNat / 2 ^ s).log2 ≤ a.toNat.log2 := by
   rw [Nat.le_log2 n0, Nat.pow_add]
   calc 2 ^ s * 2 ^ (a.toNat / 2 ^ s).log2 ≤ 2 ^ s * (a.toNat / 2 ^ s) := Nat.mul_le_mul_left _ q1
    _ ≤ a.toNat := Nat.mul_div_le _ _
  have b2 : a.toNat.log2 < s + (a.toNat / 2 ^ s).log2 + 1 := by
   rw [Nat.log2_lt n0, Nat.add_assoc, Nat.pow_add, Nat.mul_comm]
   exact (Nat.div_lt_iff_lt_mul h0).1 q2
  omega
 rw [key]
 omega
theorem ct2 {x0 : BitVec 64} : FnR Tryz.prog 129 [cj x0] (vi (cd x0)) := by
 generalize hres : cd x0 = res
 obtain ⟨r, h1, rfl⟩ : ∃ r, FnR Tryz.prog 129 [cj x0] r ∧ r = vi res := by
  refine fnE bp9 (by simp) ?_
  have step : ∀ {a : BitVec 64} {n : Int} {s : Nat}, n + cd a = res → (BitVec.ofNat 64 (2 ^ s)) ≤ a → s < 64 → (n + s) + cd (a >>> s) = res := by
   intro a n s h hle hs
   have h2 : 2 ^ s ≤ a.toNat := by
    have h3 : (BitVec.ofNat 64 (2 ^ s)).toNat ≤ a.toNat := hle
    rw [BitVec.toNat_ofNat, Nat.mod_eq_of_lt (Nat.pow_lt_pow_right (by decide) hs)] at h3
    exact h3
   rw [cs7 h2] at h
   omega
  refine ah (af (ab (v := vi 0) (au rfl) (av (ai (ah ?_)))))
  refine vc (F := fun b S Q => ∀ {a : BitVec 64} {n : Int}, n + cd a = res → a.toNat < 2 ^ 32 → 0 ≤ n → n ≤ 32 → RC Tryz.prog b S Q [(2, vi n), (0, cj a)] ⟨0, []⟩) ?_ ?_
  ·intro a n hn hb n0 n1
   refine ah ?_
   refine vc (F := fun b S Q => ∀ {a : BitVec 64} {n : Int}, n + cd a = res → a.toNat < 2 ^ 16 → 0 ≤ n → n ≤ 48 → RC Tryz.prog b S Q [(2, vi n), (0, cj a)] ⟨0, []⟩) ?_ ?_
   ·clear hn hb n0 n1
    intro a n hn hb n0 n1
    refine ah ?_
    refine vc (F := fun b S Q => ∀ {a : BitVec 64} {n : Int}, n + cd a = res → a.toNat < 2 ^ 8 → 0 ≤ n → n ≤ 56 → RC Tryz.prog b S Q [(2, vi n), (0, cj a)] ⟨0, []⟩) ?_ ?_
    ·clear hn hb n0 n1
     intro a n hn hb n0 n1
     have hw : IntKind.u8.wrap (a.toNat : Int) = (a.toNat : Int) := by
      have : (a.toNat : Int) < 256 := by omega
      simp only [IntKind.wrap, IntKind.bits, IntKind.signed]
      simp
      omega
     have hc : convR Tryz.prog 97 5 (cj a) = some (.sc (.int .u8 (a.toNat : Int))) := by
      rw [← hw]; exact xy Tryz.underlying97 Tryz.underlying5
     have ht := cx8 ⟨a.toNat, hb⟩
     simp only [BitVec.ofNat_toNat, BitVec.setWidth_eq] at ht
     refine ah (af (mV rfl (mV rfl (ab (tf rfl hc) (ab (qw (a := vs tabL) rfl rfl (cd0 Tryz.underlying9 (by omega) (by show (a.toNat : Int) < 256; omega))) (ab (tf rfl (c_yi Tryz.underlying5 Tryz.underlying3)) ?_))))))
     rw [ht]
     have hwr : wr (n + cd a) = n + cd a := by
      have h1 : ((ix tabL (a.toNat : Int)).toNat : Int) < 256 := by have := (ix tabL (a.toNat : Int)).toNat_lt; omega
      exact dm (by omega) (by omega)
     refine ab (v := vi (n + cd a)) (az rfl rfl (by rw [← hwr]; exact fa)) (mV rfl (av (ai ?_)))
     exact dw (.tmp rfl .nil) (cf rfl) (by rw [hn]; rfl)
    ·intro J
     refine ah (af (mV rfl (ab (az (b := cj 256#64) rfl rfl ca8) (av (ai (bc rfl (fun hc => ?_) fun hc => ?_))))))
     ·simp only [decide_eq_true_eq] at hc
      have hwr : wr (n + 8) = n + 8 := dm (by omega) (by omega)
      refine ah (af (mV rfl (ab (az rfl rfl (ay9 (y := 8) (by decide))) (mV rfl (av (ai ?_))))))
      refine af (mV rfl (ab (v := vi (n + 8)) (az rfl rfl (by rw [← hwr]; exact fa)) (mV rfl (av (ai ?_)))))
      exact wC (J (a := a >>> 8) (n := n + 8) (step (s := 8) hn hc (by decide)) (by rw [BitVec.toNat_ushiftRight, Nat.shiftRight_eq_div_pow]; omega) (by omega) (by omega)) rfl
     ·simp only [decide_eq_false_iff_not] at hc
      have hc : ¬(256#64).toNat ≤ a.toNat := hc
      refine ay (ai (lg ?_ (J hn (by simp at hc; omega) n0 (by omega))))
      exact (sB rfl)
   ·intro J
    refine ah (af (mV rfl (ab (az (b := cj 65536#64) rfl rfl ca8) (av (ai (bc rfl (fun hc => ?_) fun hc => ?_))))))
    ·simp only [decide_eq_true_eq] at hc
     have hwr : wr (n + 16) = n + 16 := dm (by omega) (by omega)
     refine ah (af (mV rfl (ab (az rfl rfl (ay9 (y := 16) (by decide))) (mV rfl (av (ai ?_))))))
     refine af (mV rfl (ab (v := vi (n + 16)) (az rfl rfl (by rw [← hwr]; exact fa)) (mV rfl (av (ai ?_)))))
     exact wC (J (a := a >>> 16) (n := n + 16) (step (s := 16) hn hc (by decide)) (by rw [BitVec.toNat_ushiftRight, Nat.shiftRight_eq_div_pow]; omega) (by omega) (by omega)) rfl
    ·simp only [decide_eq_false_iff_not] at hc
     have hc : ¬(65536#64).toNat ≤ a.toNat := hc
     refine ay (ai (lg ?_ (J hn (by simp at hc; omega) n0 (by omega))))
     exact (sB rfl)
  ·intro J
   refine ah (af (mV rfl (ab (az (b := cj 4294967296#64) rfl rfl ca8) (av (ai (bc rfl (fun hc => ?_) fun hc => ?_))))))
   ·simp only [decide_eq_true_eq] at hc
    refine ah (af (mV rfl (ab (az rfl rfl (ay9 (y := 32) (by decide))) (mV rfl (av (ai ?_))))))
    refine af (ab (v := vi 32) (au rfl) (av (ai ?_)))
    exact wC (J (a := x0 >>> 32) (n := 32) (by have := step (s := 32) (n := 0) (a := x0) (by omega) hc (by decide); simpa using this) (by have := x0.isLt; rw [BitVec.toNat_ushiftRight, Nat.shiftRight_eq_div_pow]; omega) (by omega) (by omega)) rfl
   ·simp only [decide_eq_false_iff_not] at hc
    have hc : ¬(4294967296#64).toNat ≤ x0.toNat := hc
    refine ay (ai (lg ?_ (J (a := x0) (n := 0) (by omega) (by simp at hc; omega) (by omega) (by omega))))
    exact (sB rfl)
 exact h1

theorem dn1 {P : Program} {a : BitVec 64} : unR .xor P (cj a) = some (cj (~~~a)) := by
 have h : Op.intBits .xor .u64 (IntKind.u64.max) a.toNat = pure (.int .u64 ((~~~a).toNat : Int)) := by
  have := uz (k := .u64) rfl (op := .xor) (a := BitVec.allOnes 64) (b := a) (f := fun a b => a ^^^ b) rfl
  rw [show (IntKind.u64.max) = (((BitVec.allOnes 64).toNat : Nat) : Int) by rfl]
  refine this.trans ?_
  exact congrArg (fun z : BitVec 64 => (pure (Value.int .u64 (z.toNat : Int)) : Sem Value)) BitVec.allOnes_xor
 simp only [unR, toV, Op.unary, IntKind.signed, Bool.false_eq_true, if_false, h]
 rfl

def cbV (c : ae) : PV := .agg [cj c.Value, cj c.Mask]
theorem ae0 (c : ae) : ae.t.R c (cbV c) := rfl
theorem ak6 {c : ae} {v : PV} (r : ae.t.R c v) : v = cbV c := r
def cbC (l : List ae) : List PV := l.flatMap fun c => [cj c.Value, cj c.Mask]
theorem xe : ∀ l : List ae, (cbC l).length = l.length * 2
 | [] => rfl
 | c :: l => by
  have ih := xe l
  show (cj c.Value :: cj c.Mask :: cbC l).length = _
  simp only [List.length_cons, ih]
  omega
theorem ai4 : ∀ l : List ae, rowCells (l.map cbV) = some (cbC l)
 | [] => rfl
 | c :: l => by
  have ih := ai4 l
  simp only [List.map_cons, rowCells, ih, cbV, PV.cellsOf]
  rfl
theorem cw1 (l k : List ae) : cbC (l ++ k) = cbC l ++ cbC k := by simp [cbC]
theorem aj0 : ∀ (l : List ae) (n : Nat), (cbC l).take (n * 2) = cbC (l.take n)
 | l, 0 => by simp [cbC]
 | [], n + 1 => by simp [cbC]
 | c :: l, n + 1 => by
  have ih := aj0 l n
  show (cj c.Value :: cj c.Mask :: cbC l).take ((n + 1) * 2) = cj c.Value :: cj c.Mask :: cbC (l.take n)
  rw [show (n + 1) * 2 = n * 2 + 1 + 1 by omega, List.take_succ_cons, List.take_succ_cons, ih]
theorem bi8 : ∀ {l : List ae} {n : Nat} {c : ae}, n < l.length → spl (cbC l) (n * 2) [cj c.Value, cj c.Mask] = cbC (l.set n c)
 | [], n, c, h => by simp at h
 | a :: l, 0, c, h => by simp [cbC, spl]
 | a :: l, n + 1, c, h => by
  have ih := bi8 (l := l) (n := n) (c := c) (by simpa using h)
  have e : cbC (a :: l) = cj a.Value :: cj a.Mask :: cbC l := rfl
  rw [List.set_cons_succ, show cbC (a :: l.set n c) = cj a.Value :: cj a.Mask :: cbC (l.set n c) from rfl, ← ih, e]
  simp only [spl, show (n + 1) * 2 = n * 2 + 1 + 1 by omega, List.take_succ_cons, List.cons_append, List.length_cons, List.length_nil]
  rw [show n * 2 + 1 + 1 + (0 + 1 + 1) = n * 2 + (0 + 1 + 1) + 1 + 1 by omega, List.drop_succ_cons, List.drop_succ_cons]
theorem ci6 (l : List ae) : ∀ y ∈ l.map cbV, cnt y = some 2 := by
 intro y hy
 obtain ⟨c, _, rfl⟩ := List.mem_map.1 hy
 rfl
theorem au0 : ∀ l : List ae, All2 ae.t.R l (l.map cbV)
 | [] => trivial
 | c :: l => ⟨rfl, au0 l⟩
theorem cc5 {P : Program} {S : List Fr} {Q : Post} {E : TEnv} {h : Heap} {L : List Ent} {hf : Bool} {r : List AOper} {o o' : Operand} {k id ver n : Nat} {ty : TypeId} {sz : Nat} {l : List ae} {c : ae} (M : Mem h L) (eo : evE E o = some (.op id ver (0 + n * 2))) (ev' : evE E o' = some (cbV c)) (hk : L[k]? = some ⟨.op id ver 0, ty, sz, [.agg (cbC l)]⟩) (hn : n < l.length)
  (K : ∀ h', Mem h' (L.set k ⟨.op id ver 0, ty, sz, [.agg (cbC (l.set n c))]⟩) → RD P r S Q E h') : RD P (⟨none, .store 2 o o', none, hf⟩ :: r) S Q E h := by
 refine ju (off := n * 2) (k := k) (v := cbV c) (ds := [cj c.Value, cj c.Mask]) M eo ev' hk rfl rfl ?_ (fun h' M' => ?_)
 ·rw [xe]; simp only [List.length_cons, List.length_nil]; omega
 ·rw [bi8 hn] at M'
  exact K h' M'
theorem bj4 {E : TEnv} {h : Heap} {L : List Ent} {o hi mx : Operand} {lo : Option Operand} {k id ver sz : Nat} {x : PV} {n : Int} (M : Mem h L) (eo : evE E o = some (.op id ver 0)) (hk : L[k]? = some ⟨.op id ver 0, 155, sz, [x]⟩) (ha : Bnd E 0 lo 0) (hb : evE E hi = some (vi n)) (hm : evE E mx = some (vi n)) (h0 : 0 ≤ n) (h1 : n ≤ 64) :
  OV Tryz.prog (.sliceS 155 o lo (some hi) (some mx)) false E h (if n.toNat = 0 then .fs true [] else .os id ver 0 n.toNat) := ⟨rfl, fun T hT => by
 obtain ⟨_, x', cs, h2, h3, h4⟩ := M.atF hk
 have a0 : h.bl[id]? = some (.cells ver 155 true cs) := h4
 have e1 : boundF T 0 lo = some 0 := ha.eq hT (Int.le_refl 0)
 have e2 : boundF T 64 (some hi) = some n.toNat := by simp only [boundF, dx hT hb]; rw [if_pos h0]
 have e3 : boundF T 0 (some mx) = some n.toNat := by simp only [boundF, dx hT hm]; rw [if_pos h0]
 obtain ⟨nn, e4, e5⟩ : ∃ nn, Tryz.prog.info? 99 = some nn ∧ nn.size = 2 := ⟨_, rfl, rfl⟩
 show opQ Tryz.prog T h _ = _
 simp only [opQ, dx hT eo, a0, Tryz.underlying155, e4, e1, e2, e3, boundM, Option.map_some, e5]
 rw [if_pos ⟨trivial, trivial, by decide, by omega, by omega, by decide, by simp [okMaxF]; omega⟩]
 by_cases hz : n.toNat = 0
 ·rw [if_pos hz, if_pos (by omega), hz]; rfl
 ·rw [if_neg hz, if_neg (by omega)]; simp⟩
theorem cq5 {E : TEnv} {h : Heap} {L : List Ent} {o : Operand} {k id ver sz : Nat} {x : PV} (M : Mem h L) (eo : evE E o = some (.op id ver 0)) (hk : L[k]? = some ⟨.op id ver 0, 155, sz, [x]⟩) :
  OV Tryz.prog (.sliceS 155 o none none none) false E h (.os id ver 0 64) := ⟨rfl, fun T hT => by
 obtain ⟨_, x', cs, h2, h3, h4⟩ := M.atF hk
 have a0 : h.bl[id]? = some (.cells ver 155 true cs) := h4
 obtain ⟨nn, e4, e5⟩ : ∃ nn, Tryz.prog.info? 99 = some nn ∧ nn.size = 2 := ⟨_, rfl, rfl⟩
 show opQ Tryz.prog T h _ = _
 simp only [opQ, dx hT eo, a0, Tryz.underlying155, e4, boundF, boundM, e5]
 rw [if_pos ⟨trivial, trivial, by decide, by omega, by omega, by decide, rfl⟩, if_neg (by omega)]⟩
theorem cu9 {a : BitVec 64} {n : Nat} (ha : a ≠ 0#64) (hn : a.toNat < 2 ^ n) (a0 : n ≤ 64) : 1 ≤ cd a ∧ cd a ≤ n ∧ (a &&& ~~~(1#64 <<< (cd a - 1).toNat)).toNat < 2 ^ (cd a - 1).toNat := by
 have h0 : a.toNat ≠ 0 := fun h => ha (BitVec.eq_of_toNat_eq (by simpa using h))
 have e : cd a = (a.toNat.log2 : Int) + 1 := by unfold cd; rw [if_neg ha]
 have hl : a.toNat.log2 < n := (Nat.log2_lt h0).2 hn
 rw [e]
 refine ⟨by omega, by omega, ?_⟩
 rw [show ((a.toNat.log2 : Int) + 1 - 1).toNat = a.toNat.log2 by omega]
 have hlt := Nat.lt_log2_self (n := a.toNat)
 generalize a.toNat.log2 = k at *
 apply Nat.lt_pow_two_of_testBit
 intro i hi
 show (a &&& ~~~(1#64 <<< k)).toNat.testBit i = false
 rw [BitVec.testBit_toNat, BitVec.getLsbD_and]
 by_cases hik : i = k
 ·subst hik
  rw [BitVec.getLsbD_not, BitVec.getLsbD_shiftLeft]
  by_cases h64 : i < 64
  ·simp [h64]
  ·simp [h64]
 ·have : a.getLsbD i = false := by
   rw [← BitVec.testBit_toNat]
   exact Nat.testBit_lt_two_pow (Nat.lt_of_lt_of_le hlt (Nat.pow_le_pow_right (by decide) (by omega)))
  rw [this]; rfl
theorem dc6 {S : List Fr} {Q : Post} {i4 w4 i9 w9 a1 a0 : Nat} {y : ae} {res : List ae} 
  (K : ∀ {h : Heap} {l : List ae} {R : PV}, res.length ≤ 64 → l.length = 64 → l.take res.length = res → Mem h [⟨.op a1 a0 0, 99, 2, [R]⟩, ⟨.op i9 w9 0, 155, 128, [.agg (cbC l)]⟩, ⟨.op i4 w4 0, 99, 2, [cbV y]⟩] → PX Tryz.prog 0 S Q [(10, vi (res.length : Int)), (9, .op i9 w9 0)] h) :
  ∀ (m : Nat) {n : Nat} {left : BitVec 64} {rest : ae} {l : List ae} {h : Heap}, m + n = 64 → left.toNat < 2 ^ m → l.length = 64 → l.take n ++ eg y m left rest = res → Mem h [⟨.op a1 a0 0, 99, 2, [cbV rest]⟩, ⟨.op i9 w9 0, 155, 128, [.agg (cbC l)]⟩, ⟨.op i4 w4 0, 99, 2, [cbV y]⟩] →
   RC Tryz.prog (.loop ay6) S Q [(12, cj left), (11, .op a1 a0 0), (10, vi (n : Int)), (9, .op i9 w9 0), (4, .op i4 w4 0)] h := by
 have stop : ∀ {m n : Nat} {left : BitVec 64} {rest : ae} {l : List ae} {h : Heap}, m + n = 64 → left = 0#64 → l.length = 64 → l.take n = res → Mem h [⟨.op a1 a0 0, 99, 2, [cbV rest]⟩, ⟨.op i9 w9 0, 155, 128, [.agg (cbC l)]⟩, ⟨.op i4 w4 0, 99, 2, [cbV y]⟩] →
   RC Tryz.prog (.loop ay6) S Q [(12, cj left), (11, .op a1 a0 0), (10, vi (n : Int)), (9, .op i9 w9 0), (4, .op i4 w4 0)] h := by
  intro m n left rest l h hm hz hl hp M
  subst hz
  refine bw ?_
  refine ah (af (mV rfl (ab (v := vb false) (az (a := cj 0#64) (b := cj 0#64) rfl rfl cl4) (av (ai (ah (bc rfl (fun hc => by cases hc) fun hc => ?_)))))))
  have hr : res.length = n := by rw [← hp, List.length_take]; omega
  refine dt (fj (df (br1 ?_ (K (by omega) hl (by rw [hr]; exact hp) M))))
  exact kn (by rw [hr]; rfl) (sB rfl)
 intro m
 induction m with
 | zero =>
  intro n left rest l h hm hb hl hp M
  have hz : left = 0#64 := BitVec.eq_of_toNat_eq (by simp only [BitVec.toNat_ofNat]; omega)
  exact stop hm hz hl (by simpa [eg] using hp) M
 | succ m ih =>
  intro n left rest l h hm hb hl hp M
  by_cases hz : left = 0#64
  ·rw [eg, if_pos hz, List.append_nil] at hp
   exact stop hm hz hl hp M
  ·rw [eg, if_neg hz] at hp
   obtain ⟨t1, t2, t3⟩ := cu9 hz hb (by omega)
   refine bw ?_
   refine ah (af (mV rfl (ab (az (b := cj 0#64) rfl rfl cl4) (av (ai (ah (bc rfl (fun hc => ?_) fun hc => ?_)))))))
   ·have a2 : wr (cd left - 1) = cd left - 1 := dm (by omega) (by omega)
    refine ay (ai (ah (bf (ah (af (mV rfl (cL ct2 rfl rfl (aq rfl bh) (ab (v := vi (cd left - 1)) (az rfl rfl (by rw [← a2]; exact af6)) ?_))))))))
    refine ab (az (a := cj 1#64) rfl rfl (ce9 (y := cd left - 1) (by omega))) (mV rfl (av (ai ?_)))
    generalize hbit : (1#64 <<< (cd left - 1).toNat) = bit at *
    refine ah (af (mV rfl (mV rfl (ab (az rfl rfl al6) (mV rfl (av (ai ?_)))))))
    refine ah (af (ab (bd rfl) (ab (co (k := 0) (off := 1) (w := cj rest.Mask) M rfl rfl rfl) (mV rfl (ab (az rfl rfl d_or) (ab (bd rfl) ?_))))))
    refine ju (off := 1) (k := 0) (v := cj (rest.Mask ||| bit)) M rfl rfl rfl rfl rfl (by simp [cbV]) (fun h1 M1 => av (ai ?_))
    replace M1 : Mem h1 [⟨.op a1 a0 0, 99, 2, [.agg [cj rest.Value, cj (rest.Mask ||| bit)]]⟩, ⟨.op i9 w9 0, 155, 128, [.agg (cbC l)]⟩, ⟨.op i4 w4 0, 99, 2, [cbV y]⟩] := M1
    refine ah (af (mV rfl (ab (bd rfl) (ab (co (k := 0) (off := 0) (w := cj rest.Value) M1 rfl rfl rfl) (ab (bd rfl) (ab (co (k := 2) (off := 0) (w := cj y.Value) M1 rfl rfl rfl) ?_))))))
    refine ab (ek0 rfl dn1) (mV rfl (ab (az rfl rfl wm) (ab (az rfl rfl d_or) (ab (bd rfl) (ab (co (k := 0) (off := 1) (w := cj (rest.Mask ||| bit)) M1 rfl rfl rfl) ?_)))))
    refine ab (v := cbV ({ Value := rest.Value ||| (~~~y.Value &&& bit), Mask := rest.Mask ||| bit } : ae)) (ni (cs := [cj (rest.Value ||| (~~~y.Value &&& bit)), cj (rest.Mask ||| bit)]) rfl rfl) (ab (af3 (k := (n : Int)) rfl rfl (by omega) (by show (n : Int) < 64; omega)) ?_)
    refine cc5 (k := 1) (n := n) M1 (by show some (PV.op i9 w9 (0 + (n : Int).toNat * 2)) = _; rw [Int.toNat_natCast]) rfl rfl (by omega) (fun h2 M2 => av (ai ?_))
    replace M2 : Mem h2 [⟨.op a1 a0 0, 99, 2, [.agg [cj rest.Value, cj (rest.Mask ||| bit)]]⟩, ⟨.op i9 w9 0, 155, 128, [.agg (cbC (l.set n ({ Value := rest.Value ||| (~~~y.Value &&& bit), Mask := rest.Mask ||| bit } : ae)))]⟩, ⟨.op i4 w4 0, 99, 2, [cbV y]⟩] := M2
    refine af (ab (bd rfl) (ab (co (k := 0) (off := 0) (w := cj rest.Value) M2 rfl rfl rfl) (ab (bd rfl) (ab (co (k := 2) (off := 0) (w := cj y.Value) M2 rfl rfl rfl) (mV rfl (ab (az rfl rfl wm) (ab (az rfl rfl d_or) (ab (bd rfl) ?_))))))))
    refine ju (off := 0) (k := 0) (v := cj (rest.Value ||| (y.Value &&& bit))) M2 rfl rfl rfl rfl rfl (by simp) (fun h3 M3 => av (dh (ai ?_)))
    replace M3 : Mem h3 [⟨.op a1 a0 0, 99, 2, [cbV ({ Value := rest.Value ||| (y.Value &&& bit), Mask := rest.Mask ||| bit } : ae)]⟩, ⟨.op i9 w9 0, 155, 128, [.agg (cbC (l.set n ({ Value := rest.Value ||| (~~~y.Value &&& bit), Mask := rest.Mask ||| bit } : ae)))]⟩, ⟨.op i4 w4 0, 99, 2, [cbV y]⟩] := M3
    have hinc : wr ((n : Int) + 1) = ((n + 1 : Nat) : Int) := by rw [dm (by omega) (by omega)]; rfl
    refine af (mV rfl (ab (v := vi ((n + 1 : Nat) : Int)) (az rfl rfl (by rw [← hinc]; exact fa)) (mV rfl (av (cx ?_)))))
    have hll : (l.set n ({ Value := rest.Value ||| (~~~y.Value &&& bit), Mask := rest.Mask ||| bit } : ae)).length = 64 := by rw [List.length_set]; exact hl
    refine wC (ih (n := n + 1) (left := left &&& ~~~bit) (by omega) (Nat.lt_of_lt_of_le t3 (Nat.pow_le_pow_right (by decide) (by omega))) hll ?_ M3) rfl
    ·rw [← hp, List.take_succ_eq_append_getElem (by omega), List.getElem_set_self, List.take_set_of_le (by omega), List.append_assoc]
     rfl
   ·simp [hz] at hc
theorem ch3 : ∀ l : List ae, closedL (l.map cbV) = true
 | [] => rfl
 | c :: l => by
  have ih := ch3 l
  simp only [List.map_cons, closedL, ih, Bool.and_true]
  rfl
theorem dj8 (l : List ae) : (l.map cbV).all (fun v => cnt v == some 2) = true := List.all_eq_true.2 fun y hy => by rw [ci6 l y hy]; rfl
def zcb : ae := { Value := 0#64, Mask := 0#64 }
theorem cz3 {x0 x1 : ae} {x2 : Int} {v0 v1 : PV} (r0 : ae.t.R x0 v0) (r1 : ae.t.R x1 v1) : ∃ r, FnR Tryz.prog 101 [v0, v1, vi x2] r ∧ (tSl ae.t).R (cn x0 x1 x2) r := by
 have e0 := ak6 r0
 have e1 := ak6 r1
 subst e0
 subst e1
 refine fnE bq5 (by simp) ?_
 refine ah (af (xl (Mem.nil _) rfl rfl (fun i3 w3 h3 M3 => xl M3 rfl rfl (fun i4 w4 h4 M4 => ab (v := nilS) (au rfl) (av (ai ?_))))))
 refine ah (ah (af (mV rfl (cL da5 rfl rfl (aq rfl bh) (ab (jy rfl) (av (ai (bc rfl (fun hc => ?_) fun hc => ?_))))))))
 ·have hs : cn x0 x1 x2 = [] := by unfold cn; rw [if_pos hc]
  refine ah (af (ab (v := nilS) (au rfl) (av (ai ?_))))
  exact dw (.tmp rfl .nil) (cf rfl) (by rw [hs]; exact ii)
 ·have hv : 1 ≤ x2 ∧ x2 ≤ 64 := by
   have := hc
   unfold qi at this
   simp only [Bool.not_eq_false', Bool.and_eq_true, decide_eq_true_eq] at this
   exact this
  refine ay (ai (ah (af (ab (bd rfl) (ab (co (k := 1) (off := 1) (w := cj x0.Mask) M4 rfl rfl rfl) (mV rfl ?_))))))
  refine cL (bm8 (by omega) (by omega)) rfl rfl (aq rfl bh) (ab (az rfl rfl wm) (ab (bd rfl) ?_))
  refine ju (off := 1) (k := 1) (v := cj (x0.Mask &&& dy x2)) M4 rfl rfl rfl rfl rfl (by simp [cbV]) (fun h5 M5 => av (ai ?_))
  replace M5 : Mem h5 [⟨.op i4 w4 0, 99, 2, [cbV x1]⟩, ⟨.op i3 w3 0, 99, 2, [cbV ({ Value := x0.Value, Mask := x0.Mask &&& dy x2 } : ae)]⟩] := M5
  refine ah (af (ab (bd rfl) (ab (co (k := 0) (off := 1) (w := cj x1.Mask) M5 rfl rfl rfl) (mV rfl ?_))))
  refine cL (bm8 (by omega) (by omega)) rfl rfl (aq rfl bh) (ab (az rfl rfl wm) (ab (bd rfl) ?_))
  refine ju (off := 1) (k := 0) (v := cj (x1.Mask &&& dy x2)) M5 rfl rfl rfl rfl rfl (by simp [cbV]) (fun h6 M6 => av (ai ?_))
  replace M6 : Mem h6 [⟨.op i4 w4 0, 99, 2, [cbV ({ Value := x1.Value, Mask := x1.Mask &&& dy x2 } : ae)]⟩, ⟨.op i3 w3 0, 99, 2, [cbV ({ Value := x0.Value, Mask := x0.Mask &&& dy x2 } : ae)]⟩] := M6
  have hs : cn x0 x1 x2 = if (!(io (fd ({ Value := x0.Value, Mask := x0.Mask &&& dy x2 } : ae)) (fd ({ Value := x1.Value, Mask := x1.Mask &&& dy x2 } : ae))).2) = true then [fd ({ Value := x0.Value, Mask := x0.Mask &&& dy x2 } : ae)] else eg (fd ({ Value := x1.Value, Mask := x1.Mask &&& dy x2 } : ae)) 64 ((fd ({ Value := x1.Value, Mask := x1.Mask &&& dy x2 } : ae)).Mask &&& ~~~(fd ({ Value := x0.Value, Mask := x0.Mask &&& dy x2 } : ae)).Mask) (fd ({ Value := x0.Value, Mask := x0.Mask &&& dy x2 } : ae)) := by
   unfold cn; rw [if_neg (by rw [hc]; simp)]; rfl
  obtain ⟨ca, Fa, sa⟩ := bn4 (ae0 ({ Value := x0.Value, Mask := x0.Mask &&& dy x2 } : ae))
  obtain ⟨cb, Fb, sb⟩ := bn4 (ae0 ({ Value := x1.Value, Mask := x1.Mask &&& dy x2 } : ae))
  have ea := ak6 sa
  have eb := ak6 sb
  generalize fd ({ Value := x0.Value, Mask := x0.Mask &&& dy x2 } : ae) = a at *
  generalize fd ({ Value := x1.Value, Mask := x1.Mask &&& dy x2 } : ae) = b at *
  subst ea
  subst eb
  refine ah (af (ab (gi (k := 1) M6 rfl rfl rfl) (cL Fa rfl rfl (aq rfl bh) (ab (gi (k := 0) M6 rfl rfl rfl) (cL Fb rfl rfl (aq rfl bh) ?_)))))
  refine db (k := 1) (v := cbV a) M6 rfl rfl rfl rfl (fun h7 M7 => db (k := 0) (v := cbV b) M7 rfl rfl rfl rfl (fun h8 M8 => av (ai ?_)))
  replace M8 : Mem h8 [⟨.op i4 w4 0, 99, 2, [cbV b]⟩, ⟨.op i3 w3 0, 99, 2, [cbV a]⟩] := M8
  obtain ⟨ci, Fi, si⟩ := cz4 (ae0 a) (ae0 b)
  refine ah (ah (af (ab (gi (k := 1) M8 rfl rfl rfl) (ab (gi (k := 0) M8 rfl rfl rfl) (cL Fi rfl rfl (aq rfl (aq rfl bh)) (mV rfl (ab (fy rfl rfl) (ab (fy rfl rfl) ?_))))))))
  refine dc (x := cbV zcb) M8 rfl rfl (fun i7 w7 h9 M9 => ?_)
  refine db (k := 0) (v := ci) M9 rfl rfl rfl (TR.cnt _ si) (fun a5 a1 => mV rfl (av (ai ?_)))
  replace a1 : Mem a5 [⟨.op i7 w7 0, 99, 2, [ci]⟩, ⟨.op i4 w4 0, 99, 2, [cbV b]⟩, ⟨.op i3 w3 0, 99, 2, [cbV a]⟩] := a1
  refine ah (af (mV rfl (ab (jy rfl) (av (ai (bc rfl (fun hd => ?_) fun hd => ?_))))))
  ·rw [if_pos hd] at hs
   refine ah (af (ab (gi (k := 2) a1 rfl rfl rfl) (ab (v := .fs true [cbV a]) (ir rfl (all_cons rfl lf)) (mV rfl (av (ai ?_))))))
   exact dw (.tmp rfl .nil) (cf rfl) (by rw [hs]; exact sm ⟨rfl, trivial⟩ (by simp))
  ·rw [if_neg (by rw [hd]; simp)] at hs
   refine ay (ai (ah (af (dc (x := .agg (cbC (List.replicate 64 zcb))) a1 rfl rfl (fun i9 w9 a9 a3 => av (ai ?_))))))
   refine ah (af (ab (v := vi ((0 : Nat) : Int)) (au rfl) (av (ai ?_))))
   refine ah (af (ab (gi (k := 3) a3 rfl rfl rfl) ?_))
   refine dc (x := cbV zcb) a3 rfl rfl (fun a8 a4 b1 a7 => ?_)
   refine db (k := 0) (v := cbV a) a7 rfl rfl rfl rfl (fun a6 a0 => av (ai ?_))
   replace a0 : Mem a6 [⟨.op a8 a4 0, 99, 2, [cbV a]⟩, ⟨.op i9 w9 0, 155, 128, [.agg (cbC (List.replicate 64 zcb))]⟩, ⟨.op i7 w7 0, 99, 2, [ci]⟩, ⟨.op i4 w4 0, 99, 2, [cbV b]⟩, ⟨.op i3 w3 0, 99, 2, [cbV a]⟩] := a0
   refine ah (ah (af (ab (bd rfl) (ab (co (k := 3) (off := 1) (w := cj b.Mask) a0 rfl rfl rfl) (ab (bd rfl) (ab (co (k := 4) (off := 1) (w := cj a.Mask) a0 rfl rfl rfl) (ab (az rfl rfl al6) (mV rfl (av (ai (bf ?_)))))))))) )
   generalize hres : eg b 64 (b.Mask &&& ~~~a.Mask) a = res
   rw [hres] at hs
   refine wC (dc6 (y := b) (res := res) ?_ 64 (n := 0) (left := b.Mask &&& ~~~a.Mask) (rest := a) (l := List.replicate 64 zcb) rfl (by have := (b.Mask &&& ~~~a.Mask).isLt; omega) (by simp) (by rw [List.take_zero, List.nil_append]; exact hres) (Mem.sub a0 (.cons_cons _ (.cons_cons _ (.cons _ (.cons_cons _ (.cons _ .slnil))))))) rfl
   ·intro b0 l R hr hl ht a2
    refine ft (ai (ah (af (mV rfl (mV rfl ?_)))))
    refine ab (bj4 (k := 1) (n := (res.length : Int)) a2 rfl rfl rfl rfl rfl (by omega) (by omega)) (mV rfl (av (ai ?_)))
    rw [Int.toNat_natCast]
    by_cases hz : res.length = 0
    ·rw [if_pos hz]
     have : res = [] := List.eq_nil_of_length_eq_zero hz
     exact dw (.tmp rfl .nil) (cf rfl) (by rw [hs, this]; exact sm trivial (by simp))
    ·rw [if_neg hz]
     obtain ⟨_, x', cs, q1, q2, q3⟩ := a2.atF (k := 1) rfl
     simp only [List.cons.injEq, and_true] at q1
     subst q1
     simp only [PV.cellsOf, Option.some.injEq] at q2
     subst q2
     refine dw (.tmp rfl .nil) (au6 (sz := 2) (es := res.map cbV) q3 (by rw [xe, hl]; omega) (by simp) ?_ (dj8 res) (ch3 res)) (by rw [hs]; exact sm (au0 res) (by omega))
     rw [ai4, List.drop_zero, aj0, ht]

theorem ar6 (y : ae) : ∀ (m : Nat) (left : BitVec 64) (rest : ae), (eg y m left rest).length ≤ m
 | 0, _, _ => Nat.le_refl _
 | m + 1, left, rest => by
  rw [eg]
  split
  ·simp
  ·rw [List.length_cons]
   have := ar6 y m (left &&& ~~~(1#64 <<< (cd left - 1).toNat)) ({ Value := rest.Value ||| (y.Value &&& (1#64 <<< (cd left - 1).toNat)), Mask := rest.Mask ||| (1#64 <<< (cd left - 1).toNat) } : ae)
   omega
theorem am7 (a b : ae) (w : Int) : (cn a b w).length ≤ 64 := by
 unfold cn
 simp only [LET]
 split
 ·simp
 ·split
  ·simp
  ·exact ar6 _ _ _ _
theorem bk2 (l : List ae) : (fi l).1.length ≤ 1024 := by
 unfold fi
 simp only [LET]
 split
 ·simp
 ·rename_i hc
  simp only [decide_eq_true_eq] at hc
  show (nl l).length ≤ 1024
  omega
theorem ui {α : Type} {f : α → List ae} (hf : ∀ c, (f c).length ≤ 64) : ∀ l : List α, (l.flatMap f).length ≤ 64 * l.length
 | [] => by simp
 | a :: l => by
  have := ui hf l
  have := hf a
  rw [List.flatMap_cons, List.length_append, List.length_cons]
  omega
theorem ax1 : ∀ (l : List ae) (n : Nat), (cbC l).drop (n * 2) = cbC (l.drop n)
 | l, 0 => by simp
 | [], n + 1 => by simp [cbC]
 | c :: l, n + 1 => by
  have ih := ax1 l n
  show (cj c.Value :: cj c.Mask :: cbC l).drop ((n + 1) * 2) = cbC (l.drop n)
  rw [show (n + 1) * 2 = n * 2 + 1 + 1 by omega, List.drop_succ_cons, List.drop_succ_cons, ih]
theorem bm0 : ∀ {l : List ae} {es : List PV}, All2 ae.t.R l es → es = l.map cbV
 | [], [], _ => rfl
 | [], _ :: _, h => by simp [All2] at h
 | _ :: _, [], h => by simp [All2] at h
 | c :: l, e :: es, h => by rw [ak6 h.1, bm0 h.2]; rfl
theorem ck6 {P : Program} {S : List Fr} {Q : Post} {E : TEnv} {h : Heap} {L : List Ent} {k id ver dd : Nat} {t e : TypeId} {d : PV} {z l : List ae} {o o' : Operand} {r : List AOper} {hf : Bool} (M : Mem h L) (eo : evE E o = some (.os id ver 0 64)) (ex : evE E o' = some d) (hk : L[k]? = some ⟨.op id ver 0, 155, 128, [.agg (cbC z)]⟩) (hz : z.length = 64) (hd : (tSl ae.t).R l d) (hl : l.length ≤ 64)
  (K : ∀ h', Mem h' (L.set k ⟨.op id ver 0, 155, 128, [.agg (cbC (l ++ z.drop l.length))]⟩) → RD P r S Q ((dd, vi (l.length : Int)) :: E) h') : RD P (⟨some dd, .copy t e 2 o o', none, hf⟩ :: r) S Q E h := by
 obtain ⟨hc, x', cs, q1, q2, h3⟩ := M.atF hk
 simp only [List.cons.injEq, and_true] at q1
 subst q1
 simp only [PV.cellsOf, Option.some.injEq] at q2
 subst q2
 obtain ⟨news, ⟨ncs, s1, s2, s3⟩, ha⟩ := vm (t := ae.t) (h := h) hd
 have hn := bm0 ha
 subst hn
 rw [ai4] at s2
 simp only [Option.some.injEq] at s2
 subst s2
 have s1 : srcF h 2 d = some (l.length, cbC l) := by rw [show l.length = (l.map cbV).length by simp]; exact s1
 have hs : spl (cbC z) 0 (cbC l) = cbC (l ++ z.drop l.length) := by
  simp only [spl, List.take_zero, List.nil_append, Nat.zero_add]
  rw [xe l, ax1, cw1]
 have hb : h.bl[id]? = some (.cells ver 155 true (cbC z)) := h3
 refine yg (h' := hput h id (.cells ver 155 true (cbC (l ++ z.drop l.length)))) ⟨rfl, fun T hT => ?_⟩ (K _ (M.upd hk ⟨?_, _, _, rfl, rfl, by simp [mg h3]⟩ (fun i hi => .inl hi) fun i hi hne' => jh _ _ _ _ fun e => hne' (by simp [idOf, e])))
 ·have e1 := dx hT eo
  have e2 := dx hT ex
  simp only [opL, e1, e2, s1, hb]
  rw [if_pos ⟨trivial, hl, by rw [xe, hz]; omega⟩, hs]
  rfl
 ·intro x hx
  rw [List.mem_singleton.1 hx]
  simp only [cnt, Option.some.injEq, xe, List.length_append, List.length_drop, hz]
  omega
theorem cq4 {h : Heap} {L : List Ent} {k id ver : Nat} {l z : List ae} (M : Mem h L) (hk : L[k]? = some ⟨.op id ver 0, 155, 128, [.agg (cbC (l ++ z))]⟩) : Src h 2 (if l.length = 0 then .fs true [] else .os id ver 0 l.length) (l.map cbV) := by
 by_cases hz : l.length = 0
 ·have : l = [] := List.eq_nil_of_length_eq_zero hz
  subst this
  exact ak1 (.inr ⟨true, rfl⟩) (fun y hy => by simp at hy)
 ·rw [if_neg hz]
  obtain ⟨hc, x', cs, q1, q2, h3⟩ := M.atF hk
  simp only [List.cons.injEq, and_true] at q1
  subst q1
  simp only [PV.cellsOf, Option.some.injEq] at q2
  subst q2
  have hb : h.bl[id]? = some (.cells ver 155 true (cbC (l ++ z))) := h3
  refine ⟨cbC l, ?_, ai4 l, ci6 l⟩
  simp only [srcF, hb]
  rw [if_pos ⟨trivial, by rw [xe, List.length_append]; omega⟩, List.drop_zero, aj0, List.take_append_of_le_length (Nat.le_refl _), List.take_length, List.length_map]
theorem cc0 {S : List Fr} {Q : Post} {a1 a0 : Nat} {x : ae} {w : Int} {out : List ae} {ov v1 : PV} {nb ib : Int} (ro : (tSl ae.t).R out ov) (hn : out.length ≤ 1024)
  (K : ∀ {h : Heap} {rv : PV} {es : List PV}, isL rv = true → All2 ae.t.R (out.flatMap fun c => cn c x w) es → Mem h [⟨rv, 99, 2, es⟩, ⟨.op a1 a0 0, 99, 2, [cbV x]⟩] → PX Tryz.prog 2 S Q [(35, vi ib), (34, vi nb), (33, v1), (12, rv), (2, vi w)] h) :
  ∀ (m : Nat) {i : Int} {rv : PV} {es : List PV} {h : Heap}, m = Int.toNat ((out.length : Int) - i) → 0 ≤ i → i ≤ out.length → isL rv = true → Wri rv es → All2 ae.t.R ((out.take i.toNat).flatMap fun c => cn c x w) es → Mem h [⟨rv, 99, 2, es⟩, ⟨.op a1 a0 0, 99, 2, [cbV x]⟩] →
   RC Tryz.prog (.loop ct9) S Q [(41, vi i), (40, vi (out.length : Int)), (39, ov), (35, vi ib), (34, vi nb), (33, v1), (12, rv), (11, .op a1 a0 0), (2, vi w)] h
 | 0, i, rv, es, h, hm, h0, h1, hne, hw, ha, M => by
  refine bw ?_
  refine ah (af (ab (az rfl rfl cy) (av (ai (ah (bc rfl (fun hc => ?_) fun hc => ?_))))))
  ·simp only [decide_eq_true_eq] at hc; omega
  ·rw [List.take_of_length_le (by omega)] at ha
   exact dt (fj (df (wP (K hne ha M) rfl)))
 | m + 1, i, rv, es, h, hm, h0, h1, hne, hw, ha, M => by
  have hlt : i < (out.length : Int) := by omega
  have hinc : wr (i + 1) = i + 1 := dm (by omega) (by omega)
  refine bw ?_
  refine ah (af (ab (az rfl rfl cy) (av (ai (ah (bc rfl (fun hc => ?_) fun hc => ?_))))))
  ·obtain ⟨g, e0, q0⟩ := dk (i := i) ro h0 hlt
   have hg := ak6 q0
   subst hg
   obtain ⟨d, a3, a4⟩ := cz3 (x2 := w) (ae0 (ix out i)) (ae0 x)
   have hln := am7 (ix out i) x w
   refine ay (ai (ah (bf (ah (af (ab (bp rfl rfl e0) (ab (bt rfl rfl rfl) ?_)))))))
   refine dc (x := cbV zcb) M rfl rfl (fun a2 a5 h3 M3 => ?_)
   refine db (k := 0) (v := cbV (ix out i)) M3 rfl rfl rfl rfl (fun h4 M4 => av (ai ?_))
   replace M4 : Mem h4 [⟨.op a2 a5 0, 99, 2, [cbV (ix out i)]⟩, ⟨rv, 99, 2, es⟩, ⟨.op a1 a0 0, 99, 2, [cbV x]⟩] := M4
   refine ah (af (dc (x := .agg (cbC (List.replicate 64 zcb))) M4 rfl rfl (fun a6 a7 h5 M5 => av (ai ?_))))
   refine ah (af (ab (cq5 (k := 0) M5 rfl rfl) (ab (gi (k := 1) M5 rfl rfl rfl) (ab (gi (k := 3) M5 rfl rfl rfl) (mV rfl ?_)))))
   refine cL a3 rfl rfl (aq rfl (aq rfl (aq rfl bh))) ?_
   refine ck6 (k := 0) (l := cn (ix out i) x w) M5 rfl rfl rfl (by simp) a4 hln (fun h6 M6 => mV rfl (av (ai ?_)))
   replace M6 : Mem h6 [⟨.op a6 a7 0, 155, 128, [.agg (cbC (cn (ix out i) x w ++ (List.replicate 64 zcb).drop (cn (ix out i) x w).length))]⟩, ⟨.op a2 a5 0, 99, 2, [cbV (ix out i)]⟩, ⟨rv, 99, 2, es⟩, ⟨.op a1 a0 0, 99, 2, [cbV x]⟩] := M6
   refine af (mV rfl (mV rfl (mV rfl ?_)))
   refine ab (bj4 (k := 0) (n := ((cn (ix out i) x w).length : Int)) M6 rfl rfl rfl rfl rfl (by omega) (by omega)) ?_
   rw [Int.toNat_natCast]
   have hal := ha.length
   have hfl := ui (f := fun c => cn c x w) (fun c => am7 c x w) (out.take i.toNat)
   rw [List.length_take] at hfl
   have ff : fits (es.length + ((cn (ix out i) x w).map cbV).length) 16 = true := by
    rw [List.length_map]
    exact pe (by omega) (by omega)
   refine pz (k := 2) (es := es) (news := (cn (ix out i) x w).map cbV) M6 rfl rfl rfl hne hw (cq4 (k := 0) M6 rfl) ff (fun a h7 hna hwa M7 => mV rfl (av (dh (ai ?_))))
   replace M7 : Mem h7 [⟨.op a6 a7 0, 155, 128, [.agg (cbC (cn (ix out i) x w ++ (List.replicate 64 zcb).drop (cn (ix out i) x w).length))]⟩, ⟨.op a2 a5 0, 99, 2, [cbV (ix out i)]⟩, ⟨a, 99, 2, es ++ (cn (ix out i) x w).map cbV⟩, ⟨.op a1 a0 0, 99, 2, [cbV x]⟩] := M7
   refine af (ab (az rfl rfl fa) (mV rfl (av (cx ?_))))
   have hta : ((out.take (i + 1).toNat).flatMap fun c => cn c x w) = ((out.take i.toNat).flatMap fun c => cn c x w) ++ cn (ix out i) x w := by
    rw [show (i + 1).toNat = i.toNat + 1 by omega, List.take_succ_eq_append_getElem (by omega), List.flatMap_append, qv h0 hlt]
    simp
   refine lg ?_ (cc0 ro hn K m (i := i + 1) (by omega) (by omega) (by omega) hna hwa (by rw [hta]; exact All2.app ha (au0 _)) (Mem.sub M7 (.cons _ (.cons _ (List.Sublist.refl _)))))
   exact kn (by show some (vi (wr (i + 1))) = _; rw [hinc]) (sB rfl)
  ·simp only [decide_eq_false_iff_not] at hc; omega
theorem co0 {S : List Fr} {w : Int} {bl : List ae} {v1 : PV} {res : List ae × Int} (r1 : (tSl ae.t).R bl v1)
  (K : ∀ {h : Heap} {out : List ae} {ov : PV}, (tSl ae.t).R out ov → (out, 0) = res → Mem h [] → PX Tryz.prog 0 S (QR Tryz.prog [(6, none), (7, none)] fun r => ∃ c, r = .tup [c, vi res.2] ∧ (tSl ae.t).R res.1 c) [(8, ov)] h) :
  ∀ (m : Nat) {i : Int} {out : List ae} {ov : PV} {h : Heap}, m = Int.toNat ((bl.length : Int) - i) → 0 ≤ i → i ≤ bl.length → (tSl ae.t).R out ov → out.length ≤ 1024 → iy w (bl.drop i.toNat) out = res → Mem h [] →
   RC Tryz.prog (.loop de6) S (QR Tryz.prog [(6, none), (7, none)] fun r => ∃ c, r = .tup [c, vi res.2] ∧ (tSl ae.t).R res.1 c) [(35, vi i), (34, vi (bl.length : Int)), (33, v1), (8, ov), (2, vi w)] h
 | 0, i, out, ov, h, hm, h0, h1, ro, hn, hp, M => by
  refine bw ?_
  refine ah (af (ab (az rfl rfl cy) (av (ai (ah (bc rfl (fun hc => ?_) fun hc => ?_))))))
  ·simp only [decide_eq_true_eq] at hc; omega
  ·rw [List.drop_of_length_le (by omega)] at hp
   exact dt (fj (df (wP (K ro hp M) rfl)))
 | m + 1, i, out, ov, h, hm, h0, h1, ro, hn, hp, M => by
  have hlt : i < (bl.length : Int) := by omega
  have hb := ee r1
  have hinc : wr (i + 1) = i + 1 := dm (by omega) (by omega)
  refine bw ?_
  refine ah (af (ab (az rfl rfl cy) (av (ai (ah (bc rfl (fun hc => ?_) fun hc => ?_))))))
  ·obtain ⟨g, e0, q0⟩ := dk (i := i) r1 h0 hlt
   have hg := ak6 q0
   subst hg
   refine ay (ai (ah (bf (ah (af (ab (bp rfl rfl e0) (ab (bt rfl rfl rfl) ?_)))))))
   refine dc (x := cbV zcb) M rfl rfl (fun a3 a0 h3 M3 => ?_)
   refine db (k := 0) (v := cbV (ix bl i)) M3 rfl rfl rfl rfl (fun h4 M4 => av (ai ?_))
   replace M4 : Mem h4 [⟨.op a3 a0 0, 99, 2, [cbV (ix bl i)]⟩] := M4
   refine ah (af (ab (v := nilS) (au rfl) (av (ai ?_))))
   refine ah (ah (af (mV rfl (ab (cw rfl (cg ro Tryz.underlying96 _)) (ab (v := vi 0) (au rfl) (av (ai (bf ?_))))))))
   refine wC (cc0 (x := ix bl i) (w := w) (v1 := v1) (nb := (bl.length : Int)) (ib := i) ro hn ?_ out.length (i := 0) (rv := nilS) (es := []) (by omega) (by omega) (by omega) rfl (.inl rfl) trivial (qc M4 99 (.inl ⟨none, rfl, rfl⟩) (by simp))) rfl
   ·intro h5 rv es hne ha M5
    have hfl := ui (f := fun c => cn c (ix bl i) w) (fun c => am7 c (ix bl i) w) out
    rw [List.drop_eq_getElem_cons (by omega), iy] at hp
    simp only [LET] at hp
    rw [← qv h0 hlt] at hp
    refine ft (ai (ah (oc ?_)))
    refine ae9 (k := 0) (E' := fun d => [(35, vi i), (34, vi (bl.length : Int)), (33, v1), (12, d), (2, vi w)]) M5 rfl hne (fun d => fw rfl (fw rfl (fw rfl (ug rfl (fw rfl xa))))) (fun d h6 hd M6 => ?_)
    have rd : (tSl ae.t).R (out.flatMap fun c => cn c (ix bl i) w) d := ⟨⟨es, hd, ha⟩, by omega⟩
    generalize (out.flatMap fun c => cn c (ix bl i) w) = rest at *
    obtain ⟨c0, a1, a2⟩ := cl6 rd (by omega)
    refine dq (mV rfl (dp (dq (cL a1 rfl rfl (aq (TR.clo _ rd) bh) (dp ?_)))))
    refine dq (mV rfl (dp (dq (ab (fy rfl rfl) (dp (dq (ab (fy rfl rfl) (dp (dq (mV rfl (dp (dq (mV rfl (dp (vt (ai ?_))))))))))))))))
    refine ah (af (mV rfl (ab (az rfl rfl nf) (av (ai (bc rfl (fun hd => ?_) fun hd => ?_))))))
    ·replace hd : (!decide ((fi rest).2 = 0)) = true := hd
     rw [if_pos hd] at hp
     refine ah (af (mV rfl (ab (v := nilS) (au rfl) (mV rfl (av (ai ?_))))))
     exact dw (.tmp rfl (.tmp rfl .nil)) (cf rfl) ⟨nilS, by rw [← hp]; rfl, by rw [← hp]; exact ii⟩
    ·replace hd : (!decide ((fi rest).2 = 0)) = false := hd
     rw [if_neg (by rw [hd]; simp)] at hp
     refine ay (dh (ai (af (ab (az rfl rfl fa) (mV rfl (av (cx ?_)))))))
     refine lg ?_ (co0 r1 K m (i := i + 1) (by omega) (by omega) (by omega) a2 (bk2 _) (by rw [show (i + 1).toNat = i.toNat + 1 by omega]; exact hp) (Mem.sub M6 (.cons _ .slnil)))
     exact kn (by show some (vi (wr (i + 1))) = _; rw [hinc]) (sB rfl)
  ·simp only [decide_eq_false_iff_not] at hc; omega
theorem dn6 {x0 x1 : List ae} {x2 : Int} {v0 v1 : PV} (r0 : (tSl ae.t).R x0 v0) (r1 : (tSl ae.t).R x1 v1) (hl : x0.length ≤ 1000) : ∃ c0, FnR Tryz.prog 55 [v0, v1, vi x2] (.tup [c0, vi (en x0 x1 x2).2]) ∧ (tSl ae.t).R (en x0 x1 x2).1 c0 := by
 generalize hres : en x0 x1 x2 = res
 obtain ⟨r, h1, c0, rfl, hr⟩ : ∃ r, FnR Tryz.prog 55 [v0, v1, vi x2] r ∧ ∃ c, r = .tup [c, vi res.2] ∧ (tSl ae.t).R res.1 c := by
  unfold en at hres
  simp only [LET] at hres
  refine fnE cl8 (by simp) ?_
  refine ah (af (ab (v := nilS) (au rfl) (ab (v := vi 0) (au rfl) (av (ai ?_)))))
  refine ah (ah (af (mV rfl (ab (v := vb (decide (x2 < 1))) (az rfl rfl cy) (mV rfl ?_)))))
  refine cp 3 (d := 22) (v := vb (decide (x2 < 1) || decide (64 < x2))) ?_ ?_
  ·intro S Q r
   cases decide (x2 < 1)
   ·intro k
    refine ak rfl rfl (au rfl) (ak rfl rfl (az rfl rfl ig) ?_)
    exact gK rfl rfl rfl rfl rfl k
   ·exact gN 2 rfl rfl rfl rfl rfl rfl
  refine av (ai (bc rfl (fun hc => ?_) fun hc => ?_))
  ·rw [if_pos hc] at hres
   refine ah (af (ab (v := nilS) (au rfl) (ab (v := vi 10) (au rfl) (av (ai ?_)))))
   exact dw (.tmp rfl (.tmp rfl .nil)) (cf rfl) ⟨nilS, by rw [← hres]; rfl, by rw [← hres]; exact ii⟩
  ·rw [if_neg (by rw [hc]; simp)] at hres
   simp only [Bool.or_eq_false_iff, decide_eq_false_iff_not] at hc
   obtain ⟨dr, a1, a0⟩ := cx6 (x1 := x2) r0 (by omega) (by omega) (by omega)
   have hrl : (js x0 x2).length ≤ 1000000 := by
    have key : ∀ (m : Nat) (i : Int) (z : List ae), m = Int.toNat ((x0.length : Int) - i) → (jl x0 x2 (fun z => z) m i z).length = z.length + m := by
     intro m
     induction m with
     | zero => intro i z hm; rfl
     | succ m ih =>
      intro i z hm
      rw [jl, ih _ _ (by omega), List.length_append, List.length_singleton]
      omega
    have : (js x0 x2).length = _ := key _ 0 [] rfl
    rw [this, List.length_nil]
    omega
   obtain ⟨c0, a2, a3⟩ := cl6 a0 hrl
   refine ay (ai (ah (af (mV rfl (mV rfl ?_)))))
   refine cL a1 rfl rfl (aq (TR.clo _ r0) (aq rfl bh)) (cL a2 rfl rfl (aq (TR.clo _ a0) bh) ?_)
   refine mV rfl (ab (fy rfl rfl) (ab (fy rfl rfl) (mV rfl (mV rfl (av (ai ?_))))))
   generalize js x0 x2 = q at *
   refine ah (ah (af (mV rfl (ab (az rfl rfl nf) (av (ai (bc rfl (fun hd => ?_) fun hd => ?_)))))))
   ·replace hd : (!decide ((fi q).2 = 0)) = true := hd
    rw [if_pos hd] at hres
    refine ah (af (mV rfl (ab (v := nilS) (au rfl) (mV rfl (av (ai ?_))))))
    exact dw (.tmp rfl (.tmp rfl .nil)) (cf rfl) ⟨nilS, by rw [← hres]; rfl, by rw [← hres]; exact ii⟩
   ·replace hd : (!decide ((fi q).2 = 0)) = false := hd
    rw [if_neg (by rw [hd]; simp)] at hres
    refine ay (ai (ah (ah (af (mV rfl (ab (cw rfl (cg r1 Tryz.underlying96 _)) (ab (v := vi 0) (au rfl) (av (ai (bf ?_))))))))))
    refine wC (co0 (w := x2) (res := res) r1 ?_ x1.length (i := 0) (by omega) (by omega) (by omega) a3 (bk2 _) hres (Mem.nil _)) rfl
    ·intro h out ov ro hp M
     refine ft (ai (ah (af (mV rfl (mV rfl (ab (v := vi 0) (au rfl) (av (ai ?_))))))))
     subst hp
     exact dw (.tmp rfl (.tmp rfl .nil)) (cf (show closed (.tup _) = true from aq (TR.clo _ ro) (aq rfl bh))) ⟨ov, rfl, ro⟩
 exact ⟨c0, h1, hr⟩

end Go.Proofs.YthdnpgpnodgicaaGreat
