/-
 The code of each function does what its plain program says.
-/
import Derived.Test.YthdnpgpnodgicaaGreatL6W8
set_option linter.unusedVariables false
set_option linter.unusedSimpArgs false
set_option maxRecDepth 100000
namespace Go.Proofs.YthdnpgpnodgicaaGreat
open Go Go.Pb Go.RowKit
def RF106 (res : (List aa)) (r : PV) : Prop := (tSl aa.t).R res r
theorem yc {S : List Fr} {res : (List aa)} {x0 : aa} {x1 : aa} {x2 : Int} {c9 : aa} {a3 : aa} {d3 : Bool} {d5 : aa × Bool} {b7 : PV} {b6 b8 b5 b4 : Nat} (e0 : ((decide (x2 < 1)) || (decide (64 < x2))) = false) (f3 : me x0 x2 = c9) (f0 : me x1 x2 = a3) (c5 : aa.t.R a3 b7) (f2 : fq c9 a3 = d3) (d4 : d3 = false) (e9 : jo c9 a3 = d5) (d1 : (!d5.2) = false) {K0 : (List aa) → aa → (List aa)}
  (f1 : ∀ {a4 : List aa} {a1 : aa} {a2 : List PV} {a5 b1 : PV} (a9 : All2 aa.t.R a4 a2) (b0 : isL a5 = true) (a6 : Wri a5 a2) (a8 : a4.length ≤ 4611686018427387904) (a7 : aa.t.R a1 b1) {h : Heap} (M0 : Mem h [⟨a5, 99, 2, a2⟩, ⟨.op b5 b4 0, 99, 2, [b7]⟩, ⟨.op b6 b8 0, 99, 2, [b1]⟩]), K0 a4 a1 = res → PX Tryz.prog 0 S (QR Tryz.prog [(6, none)] (RF106 res)) [(9, a5)] h) :
  ∀ {m : Nat} {a0 : Int} {a4 : List aa} {a1 : aa} {a2 : List PV} {a5 b1 : PV} (a9 : All2 aa.t.R a4 a2) (b0 : isL a5 = true) (a6 : Wri a5 a2) (a8 : a4.length ≤ 4611686018427387904) (a7 : aa.t.R a1 b1) (e8 : a0 + 1 ≤ (m : Int)) (b9 : -1 ≤ a0) (c2 : a0 ≤ 63) (c0 : (a4.length : Int) + a0 ≤ 63) {h : Heap} (M0 : Mem h [⟨a5, 99, 2, a2⟩, ⟨.op b5 b4 0, 99, 2, [b7]⟩, ⟨.op b6 b8 0, 99, 2, [b1]⟩]), fx a3 K0 m a0 a4 a1 = res → RC Tryz.prog (.loop by1) S (QR Tryz.prog [(6, none)] (RF106 res)) [(12, vi a0), (9, a5), (8, .op b5 b4 0), (7, .op b6 b8 0)] h := by
 have c4 := e0
 try simp only [qa] at c4
 have c8 := d4
 try simp only [qa] at c8
 have c6 := d1
 try simp only [qa] at c6
 intro m
 induction m with
 | zero =>
  intro a0 a4 a1 a2 a5 b1 a9 b0 a6 a8 a7 e8 b9 c2 c0 h M0 hres
  rw [fx] at hres
  refine bp (af (sR (mV rfl (bN se rfl rfl (nS ?_)))))
  refine bf rfl ?_ ?_ <;> intro c <;> try simp only [qa] at c
  ·omega
  refine db (dn (cq ?_))
  exact wP (f1 a9 b0 a6 a8 a7 (Mem.sub M0 (.cons_cons _ (.cons_cons _ (.cons_cons _ .slnil)))) hres) rfl
 | succ m ih =>
  intro a0 a4 a1 a2 a5 b1 a9 b0 a6 a8 a7 e8 b9 c2 c0 h M0 hres
  rw [fx] at hres
  refine bp (af (sR (mV rfl (bN se rfl rfl (nS ?_)))))
  refine cv hres rfl ?_ ?_ <;> clear hres <;> intro c hres <;> try simp only [qa] at c
  ·refine ax (ai (af (bc (sR (mV rfl (ae (qw (a := vi a0) rfl (c_id Tryz.underlying3 Tryz.underlying159)) (ae (v := bd (1#64 <<< (BitVec.ofInt 64 a0).toNat)) (ay (a := bd 1#64) (b := bd (BitVec.ofInt 64 a0)) rfl rfl (aj7 (Int.natCast_nonneg _))) (mV rfl ?_))))))))
   refine nR (ae (bm rfl) (ae (cm (k := 1) M0 rfl rfl (aa.g_Mask c5)) (mV rfl (ae (ay (a := bd a3.Mask) (b := bd (1#64 <<< (BitVec.ofInt 64 a0).toNat)) rfl rfl og) (ae (ay (a := bd (a3.Mask &&& (1#64 <<< (BitVec.ofInt 64 a0).toNat))) (b := bd 0#64) rfl rfl ay5) (mV rfl ?_))))))
   refine bw 6 (d := 61) (v := vb ((!decide ((a3.Mask &&& (1#64 <<< (BitVec.ofInt 64 a0).toNat)) = 0#64)) && (decide ((a1.Mask &&& (1#64 <<< (BitVec.ofInt 64 a0).toNat)) = 0#64)))) ?_ ?_
   ·intro S Q r
    cases d8 : (!decide ((a3.Mask &&& (1#64 <<< (BitVec.ofInt 64 a0).toNat)) = 0#64))
    ·exact gN 5 rfl rfl rfl rfl rfl rfl
    ·intro k
     have d0 := d8
     try simp only [qa] at d0
     refine ak rfl rfl (bm rfl) (ak rfl rfl (cm (k := 2) M0 rfl rfl (aa.g_Mask a7)) (ak rfl rfl (aq rfl) (ak rfl rfl (ay (a := bd a1.Mask) (b := bd (1#64 <<< (BitVec.ofInt 64 a0).toNat)) rfl rfl og) (ak rfl rfl (ay (a := bd (a1.Mask &&& (1#64 <<< (BitVec.ofInt 64 a0).toNat))) (b := bd 0#64) rfl rfl az3) ?_))))
     exact gK rfl rfl rfl rfl rfl k
   refine nS ?_
   refine cv hres rfl ?_ ?_ <;> clear hres <;> intro c hres <;> try simp only [qa] at c
   ·refine sR (ae (bm rfl) (ae (cm (k := 2) M0 rfl rfl (aa.g_Mask a7)) (mV rfl (ae (ay (a := bd a1.Mask) (b := bd (1#64 <<< (BitVec.ofInt 64 a0).toNat)) rfl rfl d_or) (ae (bm rfl) ?_)))))
    have e7 := a7
    subst e7
    refine gw (k := 2) (v := bd (a1.Mask ||| (1#64 <<< (BitVec.ofInt 64 a0).toNat))) M0 rfl rfl rfl rfl rfl (by ((simp only [List.length_cons, List.length_nil]; omega))) (fun d2 b3 => ?_)
    replace b3 : Mem d2 [⟨a5, 99, 2, a2⟩, ⟨.op b5 b4 0, 99, 2, [b7]⟩, ⟨.op b6 b8 0, 99, 2, [.agg [bd a1.Value, bd (a1.Mask ||| (1#64 <<< (BitVec.ofInt 64 a0).toNat))]]⟩] := b3
    refine nR (mV rfl (ae (bm rfl) (ae (cm (k := 2) b3 rfl rfl rfl) (ae (bm rfl) (ae (cm (k := 1) b3 rfl rfl (aa.g_Value c5)) (mV rfl (ae (ay (a := bd a3.Value) (b := bd (1#64 <<< (BitVec.ofInt 64 a0).toNat)) rfl rfl og) (mV rfl ?_))))))))
    refine ae (ay (a := bd (a3.Value &&& (1#64 <<< (BitVec.ofInt 64 a0).toNat))) (b := bd (1#64 <<< (BitVec.ofInt 64 a0).toNat)) rfl rfl by9) (ae (ay (a := bd a1.Value) (b := bd ((a3.Value &&& (1#64 <<< (BitVec.ofInt 64 a0).toNat)) ^^^ (1#64 <<< (BitVec.ofInt 64 a0).toNat))) rfl rfl d_or) (ae (bm rfl) (ae (cm (k := 2) b3 rfl rfl rfl) (ae (v := .agg [bd (a1.Value ||| ((a3.Value &&& (1#64 <<< (BitVec.ofInt 64 a0).toNat)) ^^^ (1#64 <<< (BitVec.ofInt 64 a0).toNat))), bd (a1.Mask ||| (1#64 <<< (BitVec.ofInt 64 a0).toNat))]) (kh (cs := [bd (a1.Value ||| ((a3.Value &&& (1#64 <<< (BitVec.ofInt 64 a0).toNat)) ^^^ (1#64 <<< (BitVec.ofInt 64 a0).toNat))), bd (a1.Mask ||| (1#64 <<< (BitVec.ofInt 64 a0).toNat))]) rfl rfl) (ae (v := .fs true [.agg [bd (a1.Value ||| ((a3.Value &&& (1#64 <<< (BitVec.ofInt 64 a0).toNat)) ^^^ (1#64 <<< (BitVec.ofInt 64 a0).toNat))), bd (a1.Mask ||| (1#64 <<< (BitVec.ofInt 64 a0).toNat))]]) (fm rfl (all_cons rfl jn)) ?_)))))
    have e4 : (tSl aa.t).R ([({ Value := (a1.Value ||| ((a3.Value &&& (1#64 <<< (BitVec.ofInt 64 a0).toNat)) ^^^ (1#64 <<< (BitVec.ofInt 64 a0).toNat))), Mask := (a1.Mask ||| (1#64 <<< (BitVec.ofInt 64 a0).toNat)) } : aa)] : List aa) (.fs true [.agg [bd (a1.Value ||| ((a3.Value &&& (1#64 <<< (BitVec.ofInt 64 a0).toNat)) ^^^ (1#64 <<< (BitVec.ofInt 64 a0).toNat))), bd (a1.Mask ||| (1#64 <<< (BitVec.ofInt 64 a0).toNat))]]) := rh ⟨rfl, trivial⟩ (by simp)
    obtain ⟨b2, d6, c1⟩ := qc (t := aa.t) (h := d2) e4
    have d7 : fits (a2.length + b2.length) 16 = true := by rw [All2.length_eq a9, All2.length_eq c1]; (try simp only [List.length_cons, List.length_nil]); exact kx (by omega) (by omega)
    refine lh (k := 0) (es := a2) (news := b2) b3 rfl rfl rfl b0 a6 d6 d7 (fun e3 f4 e5 d9 c7 => ?_)
    have e1 : All2 aa.t.R (a4 ++ ([({ Value := (a1.Value ||| ((a3.Value &&& (1#64 <<< (BitVec.ofInt 64 a0).toNat)) ^^^ (1#64 <<< (BitVec.ofInt 64 a0).toNat))), Mask := (a1.Mask ||| (1#64 <<< (BitVec.ofInt 64 a0).toNat)) } : aa)] : List aa)) (a2 ++ b2) := All2.app a9 c1
    have e2 : (a4 ++ ([({ Value := (a1.Value ||| ((a3.Value &&& (1#64 <<< (BitVec.ofInt 64 a0).toNat)) ^^^ (1#64 <<< (BitVec.ofInt 64 a0).toNat))), Mask := (a1.Mask ||| (1#64 <<< (BitVec.ofInt 64 a0).toNat)) } : aa)] : List aa)).length ≤ 4611686018427387904 := by rw [← All2.length_eq e1, List.length_append]; exact ny d7
    refine mV rfl (nS (ah (ae (bm rfl) (ae (cm (k := 2) c7 rfl rfl rfl) (ae (bm rfl) (ae (cm (k := 1) c7 rfl rfl (aa.g_Value c5)) (mV rfl (ae (ay (a := bd a3.Value) (b := bd (1#64 <<< (BitVec.ofInt 64 a0).toNat)) rfl rfl og) ?_))))))))
    refine ae (ay (a := bd a1.Value) (b := bd (a3.Value &&& (1#64 <<< (BitVec.ofInt 64 a0).toNat))) rfl rfl d_or) (ae (bm rfl) ?_)
    refine gw (k := 2) (v := bd (a1.Value ||| (a3.Value &&& (1#64 <<< (BitVec.ofInt 64 a0).toNat)))) c7 rfl rfl rfl rfl rfl (by ((simp only [List.length_cons, List.length_nil]; omega))) (fun e6 c3 => ?_)
    replace c3 : Mem e6 [⟨e3, 99, 2, (a2 ++ b2)⟩, ⟨.op b5 b4 0, 99, 2, [b7]⟩, ⟨.op b6 b8 0, 99, 2, [.agg [bd (a1.Value ||| (a3.Value &&& (1#64 <<< (BitVec.ofInt 64 a0).toNat))), bd (a1.Mask ||| (1#64 <<< (BitVec.ofInt 64 a0).toNat))]]⟩] := c3
    refine aw (da (ai (ah (mV rfl (bN vv rfl rfl (mV rfl (aw (cf ?_))))))))
    exact wC (ih  e1 e5 d9 e2 rfl (by (rw [dg (by omega) (by omega)]; omega)) (by ((rw [dg (by omega) (by omega)]; omega))) (by ((rw [dg (by omega) (by omega)]; omega))) (by ((rw [dg (by omega) (by omega)]; ((simp only [List.length_append, List.length_cons, List.length_nil]; omega))))) (Mem.sub c3 (.cons_cons _ (.cons_cons _ (.cons_cons _ .slnil)))) hres) rfl
   ·refine ax (da (ai (ah (mV rfl (bN vv rfl rfl (mV rfl (aw (cf ?_))))))))
    exact wC (ih  a9 b0 a6 a8 a7 (by (rw [dg (by omega) (by omega)]; omega)) (by ((rw [dg (by omega) (by omega)]; omega))) (by ((rw [dg (by omega) (by omega)]; omega))) (by ((rw [dg (by omega) (by omega)]; omega))) (Mem.sub M0 (.cons_cons _ (.cons_cons _ (.cons_cons _ .slnil)))) hres) rfl
  ·refine db (dn (cq ?_))
   exact wP (f1 a9 b0 a6 a8 a7 (Mem.sub M0 (.cons_cons _ (.cons_cons _ (.cons_cons _ .slnil)))) hres) rfl

theorem dd6 {x0 : aa} {x1 : aa} {x2 : Int} {v0 v1 : PV} (r0 : aa.t.R x0 v0) (r1 : aa.t.R x1 v1) : ∃ r, FnR Tryz.prog 106 [v0, v1, vi x2] r ∧ (tSl aa.t).R (ni x0 x1 x2) r := by
 refine fnT (R := RF106) df4 rfl fun res hres => ?_
 unfold ni at hres
 refine sR (ae (di rfl (TR.cnt aa.t r0)) (ae (di rfl (TR.cnt aa.t r1)) (ae (v := nilS) (aq rfl) (nS (af (sR (mV rfl (bN cj rfl rfl ?_))))))))
 refine mV rfl ?_
 refine bw 3 (d := 19) (v := vb ((decide (x2 < 1)) || (decide (64 < x2)))) ?_ ?_
 ·intro S Q r
  cases e0 : (decide (x2 < 1))
  ·intro k
   have b7 := e0
   try simp only [qa] at b7
   refine ak rfl rfl (aq rfl) (ak rfl rfl (ay rfl rfl gh) ?_)
   exact gK rfl rfl rfl rfl rfl k
  ·exact gN 2 rfl rfl rfl rfl rfl rfl
 refine nS ?_
 refine cv hres rfl ?_ ?_ <;> clear hres <;> intro b4 hres <;> have b8 := b4 <;> try simp only [qa] at b8
 ·refine sR (ae (v := nilS) (aq rfl) (nS ?_))
  exact rR hres rfl (TR.clo (tSl aa.t) fg) fg
 ·refine ax (ai (sR (lD r0 rfl rfl rfl (mV rfl ?_))))
  obtain ⟨c5, b5, hres⟩ := cw hres
  obtain ⟨a4, f5, a0⟩ := bm1 (x1 := x2) r0 (by omega)
  rw [b5] at a0
  refine cL f5 rfl rfl (aj (TR.clo aa.t r0) (aj rfl bb)) (lD r1 rfl rfl rfl (mV rfl ?_))
  obtain ⟨g6, b3, hres⟩ := cw hres
  obtain ⟨c6, f9, a1⟩ := bm1 (x1 := x2) r1 (by omega)
  rw [b3] at a1
  refine cL f9 rfl rfl (aj (TR.clo aa.t r1) (aj rfl bb)) ?_
  refine dh (x := .agg [bd 0#64, bd 0#64]) (Mem.nil ⟨0, []⟩) rfl rfl (fun c2 c7 h5 f4 => ?_)
  refine dh (x := .agg [bd 0#64, bd 0#64]) f4 rfl rfl (fun c4 b9 h4 f2 => ?_)
  refine de (k := 1) (v := a4) f2 rfl rfl rfl (TR.cnt aa.t a0) (fun e8 c3 => ?_)
  replace c3 : Mem e8 [⟨.op c4 b9 0, 99, 2, [.agg [bd 0#64, bd 0#64]]⟩, ⟨.op c2 c7 0, 99, 2, [a4]⟩] := c3
  refine de (k := 0) (v := c6) c3 rfl rfl rfl (TR.cnt aa.t a1) (fun f6 a2 => ?_)
  replace a2 : Mem f6 [⟨.op c4 b9 0, 99, 2, [c6]⟩, ⟨.op c2 c7 0, 99, 2, [a4]⟩] := a2
  refine nS (af (sR (ae (fe (k := 1) a2 rfl rfl (TR.agg aa.t a0)) (ae (fe (k := 0) a2 rfl rfl (TR.agg aa.t a1)) ?_))))
  obtain ⟨g5, b0, hres⟩ := cw hres
  have d2 := ax2  a0 a1 
  rw [b0] at d2
  refine cL d2 rfl rfl (aj (TR.clo aa.t a0) (aj (TR.clo aa.t a1) bb)) (nS ?_)
  refine cv hres rfl ?_ ?_ <;> clear hres <;> intro b6 hres <;> have c1 := b6 <;> try simp only [qa] at c1
  ·refine sR (ae (v := nilS) (aq rfl) (nS ?_))
   exact rR hres rfl (TR.clo (tSl aa.t) fg) fg
  ·refine ax (ai (sR (ae (v := nilS) (aq rfl) (nR (ae (fe (k := 1) a2 rfl rfl (TR.agg aa.t a0)) (ae (fe (k := 0) a2 rfl rfl (TR.agg aa.t a1)) ?_))))))
   obtain ⟨h0, a9, hres⟩ := cw hres
   obtain ⟨d6, d4, e3⟩ := dc7  a0 a1 
   rw [a9] at d4 e3
   refine cL d4 rfl rfl (aj (TR.clo aa.t a0) (aj (TR.clo aa.t a1) bb)) (mV rfl (xT rfl rfl (xT rfl rfl ?_)))
   refine dh (x := .agg [bd 0#64, bd 0#64]) a2 rfl rfl (fun e5 g2 h2 f0 => ?_)
   refine de (k := 0) (v := d6) f0 rfl rfl rfl (TR.cnt aa.t e3) (fun d5 a7 => ?_)
   replace a7 : Mem d5 [⟨.op e5 g2 0, 99, 2, [d6]⟩, ⟨.op c4 b9 0, 99, 2, [c6]⟩, ⟨.op c2 c7 0, 99, 2, [a4]⟩] := a7
   refine mV rfl (nS (af (sR (mV rfl (ae (gu rfl) (nS ?_))))))
   refine cv hres rfl ?_ ?_ <;> clear hres <;> intro b2 hres <;> have c0 := b2 <;> try simp only [qa] at c0
   ·refine sR (mV rfl (ae (fe (k := 2) a7 rfl rfl (TR.agg aa.t a0)) (ae (v := .fs true [a4]) (fm rfl (all_cons (TR.cnt aa.t a0) jn)) ?_)))
    have g0 : (tSl aa.t).R ([c5] : List aa) (.fs true [a4]) := rh ⟨a0, trivial⟩ (by simp)
    have f7 := ml (sz := 2) (es := []) a7 99 (.inl ⟨none, rfl, rfl⟩) (by simp)
    obtain ⟨a8, e1, b1⟩ := qc (t := aa.t) (h := d5) g0
    have d7 : fits (([] : List PV).length + a8.length) 16 = true := by rw [All2.length_eq (show All2 aa.t.R ([] : List aa) [] from trivial), All2.length_eq b1]; (try simp only [List.length_cons, List.length_nil]); exact kx (by omega) (by omega)
    refine lh (k := 0) (es := ([] : List PV)) (news := a8) f7 rfl rfl rfl rfl (.inl rfl) e1 d7 (fun g8 h1 f1 g4 g1 => ?_)
    have d3 : All2 aa.t.R ([c5] : List aa) (([] : List PV) ++ a8) := All2.app (show All2 aa.t.R ([] : List aa) [] from trivial) b1
    have d8 : ([c5] : List aa).length ≤ 4611686018427387904 := by rw [← All2.length_eq d3, List.length_append]; exact ny d7
    refine mV rfl (nS ?_)
    obtain ⟨h3, g3, e7⟩ := tw (P := Tryz.prog) (k := 0) (t := aa.t) g1 rfl f1 d3 (Nat.le_trans d8 (by decide))
    subst hres
    exact dk (.tmp rfl .nil) g3 e7
   ·refine ax (ai (af (sR (mV rfl (bN vv rfl rfl (mV rfl (nS (bc ?_))))))))
    have f8 := ml (sz := 2) (es := []) a7 99 (.inl ⟨none, rfl, rfl⟩) (by simp)
    refine wC (yc b4 b5 b3 a1 b0 b6 a9 b2 ?_  aL rfl (.inl rfl) (by decide) a0 (by omega) (by ((rw [dg (by omega) (by omega)]; omega))) (by ((rw [dg (by omega) (by omega)]; omega))) (by ((rw [dg (by omega) (by omega), List.length_nil]; omega))) (Mem.sub f8 (.cons_cons _ (.cons _ (.cons_cons _ (.cons_cons _ .slnil))))) hres) rfl
    ·intro d1 c9 d0 e4 e2 a5 a6 c8 a3 d9 g9 e6 hres
     refine dv (ai (sR (mV rfl (mV rfl (nS ?_)))))
     obtain ⟨g7, f3, e9⟩ := tw (P := Tryz.prog) (k := 0) (t := aa.t) e6 rfl a6 a5 (Nat.le_trans a3 (by decide))
     subst hres
     exact dk (.tmp rfl .nil) f3 e9

def RF58 (res : (List aa) × Int) (r : PV) : Prop := ∃ c0, r = .tup [c0, vi res.2] ∧ (tSl aa.t).R res.1 c0
theorem yk {S : List Fr} {res : (List aa) × Int} {x0 : List aa} {x2 : Int} {v0 v1 : PV} (r0 : (tSl aa.t).R x0 v0) (hl : x0.length ≤ 1000) (c1 : ((decide (x2 < 1)) || (decide (64 < x2))) = false) {K0 : (List aa) → ((List aa) × Int)}
  (d1 : ∀ {a1 : List aa} {a0 : List PV} {a2 : PV} (a5 : All2 aa.t.R a1 a0) (a8 : isL a2 = true) (a4 : Wri a2 a0) (a6 : a1.length ≤ 4611686018427387904) (d6 : (a1.length : Int) ≤ (x0.length : Int)) {h : Heap} (M0 : Mem h [⟨a2, 99, 2, a0⟩]), K0 a1 = res → PX Tryz.prog 0 S (QR Tryz.prog [(6, none), (7, none)] (RF58 res)) [(1, v1), (2, vi x2), (8, a2)] h) :
  ∀ {m : Nat} {a3 : Int} {a1 : List aa} {a0 : List PV} {a2 : PV} (a5 : All2 aa.t.R a1 a0) (a8 : isL a2 = true) (a4 : Wri a2 a0) (a6 : a1.length ≤ 4611686018427387904) (d0 : m = Int.toNat ((x0.length : Int) - a3)) (b6 : 0 ≤ a3) (b0 : (a1.length : Int) ≤ a3) (b1 : a3 ≤ (x0.length : Int)) {h : Heap} (M0 : Mem h [⟨a2, 99, 2, a0⟩]), mc x0 x2 K0 m a3 a1 = res → RC Tryz.prog (.loop cw0) S (QR Tryz.prog [(6, none), (7, none)] (RF58 res)) [(9, vi a3), (8, a2), (2, vi x2), (1, v1), (0, v0)] h := by
 have b3 := c1
 try simp only [qa] at b3
 intro m
 induction m with
 | zero =>
  intro a3 a1 a0 a2 a5 a8 a4 a6 d0 b6 b0 b1 h M0 hres
  rw [mc] at hres
  refine bp (af (sR (mV rfl (mV rfl (ae (cg rfl (bq r0 Tryz.underlying96 _)) (bN cj rfl rfl (nS ?_)))))))
  refine bf rfl ?_ ?_ <;> intro c <;> try simp only [qa] at c
  ·omega
  refine db (dn (cq ?_))
  exact wP (d1 a5 a8 a4 a6 (by omega) (Mem.sub M0 (.cons_cons _ .slnil)) hres) rfl
 | succ m ih =>
  intro a3 a1 a0 a2 a5 a8 a4 a6 d0 b6 b0 b1 h M0 hres
  rw [mc] at hres
  refine bp (af (sR (mV rfl (mV rfl (ae (cg rfl (bq r0 Tryz.underlying96 _)) (bN cj rfl rfl (nS ?_)))))))
  refine bf rfl ?_ ?_ <;> intro c <;> try simp only [qa] at c
  rotate_left
  ·omega
  refine ax (ai (af (bc (ah (mV rfl (mV rfl (mV rfl ?_)))))))
  obtain ⟨d2, c6, c7⟩ := ct (i := a3) r0 (by omega) (by omega)
  refine ae (bg rfl rfl c6) (fL rfl (aa.g_Value c7) rfl rfl (mV rfl (mV rfl ?_)))
  obtain ⟨d4, c4, c8⟩ := ct (i := a3) r0 (by omega) (by omega)
  refine ae (bg rfl rfl c4) (fL rfl (aa.g_Mask c8) rfl rfl (mV rfl ?_))
  obtain ⟨a7, b9, hres⟩ := cw hres
  have b4 := cx1 (x0 := x2)  
  rw [b9] at b4
  refine cL b4 rfl rfl (aj rfl bb) (ae (ay (a := bd ((ix x0 a3).Mask)) (b := bd a7) rfl rfl og) (ae (v := .agg [bd ((ix x0 a3).Value), bd (((ix x0 a3).Mask) &&& a7)]) (kh (cs := [bd ((ix x0 a3).Value), bd (((ix x0 a3).Mask) &&& a7)]) rfl rfl) (ae (v := .fs true [.agg [bd ((ix x0 a3).Value), bd (((ix x0 a3).Mask) &&& a7)]]) (fm rfl (all_cons rfl jn)) ?_)))
  have c3 : (tSl aa.t).R ([({ Value := (ix x0 a3).Value, Mask := (((ix x0 a3).Mask) &&& a7) } : aa)] : List aa) (.fs true [.agg [bd ((ix x0 a3).Value), bd (((ix x0 a3).Mask) &&& a7)]]) := rh ⟨rfl, trivial⟩ (by simp)
  obtain ⟨a9, b5, b2⟩ := qc (t := aa.t) (h := h) c3
  have c2 : fits (a0.length + a9.length) 16 = true := by rw [All2.length_eq a5, All2.length_eq b2]; (try simp only [List.length_cons, List.length_nil]); exact kx (by omega) (by omega)
  refine lh (k := 0) (es := a0) (news := a9) M0 rfl rfl rfl a8 a4 b5 c2 (fun d3 d5 c5 b7 c9 => ?_)
  have c0 : All2 aa.t.R (a1 ++ ([({ Value := (ix x0 a3).Value, Mask := (((ix x0 a3).Mask) &&& a7) } : aa)] : List aa)) (a0 ++ a9) := All2.app a5 b2
  have b8 : (a1 ++ ([({ Value := (ix x0 a3).Value, Mask := (((ix x0 a3).Mask) &&& a7) } : aa)] : List aa)).length ≤ 4611686018427387904 := by rw [← All2.length_eq c0, List.length_append]; exact ny c2
  refine mV rfl (aw (da (ai (ah (mV rfl (bN dp rfl rfl (mV rfl (aw ?_))))))))
  refine cf ?_
  have hbd := df r0
  have hinc : wr (a3 + 1) = a3 + 1 := dg (by omega) (by omega)
  erw [hinc]
  exact wC (ih  c0 c5 b7 b8 (by omega) (by omega) (by ((simp only [List.length_append, List.length_cons, List.length_nil, List.length_set]; omega))) (by omega) (Mem.sub c9 (.cons_cons _ .slnil)) hres) rfl

theorem yq {S : List Fr} {res : (List aa) × Int} {x0 : List aa} {x1 : List aa} {x2 : Int} {a3 : List aa} {d2 : (List aa) × Int} {d4 : List aa} {e0 b1 : Int} {v1 : PV} {a6 : List PV} {a9 e4 e8 : PV} (r1 : (tSl aa.t).R x1 v1) (hl : x0.length ≤ 1000) (d5 : ((decide (x2 < 1)) || (decide (64 < x2))) = false) (c9 : isL a9 = true) (c2 : Wri a9 a6) (c3 : a3.length ≤ 4611686018427387904) (d6 : (a3.length : Int) ≤ (x0.length : Int)) (f1 : IsSl e4 a6) (e9 : ki a3 = d2) (e5 : d2.1.length ≤ 1024) (d7 : (tSl aa.t).R d4 e8) (f4 : 0 ≤ b1) (e6 : d4.length ≤ 1024) (c6 : ((decide (b1 < (x1.length : Int))) && (decide (e0 = 0))) = true) {K4 : (List aa) → ((List aa) × Int)}
  (f7 : ∀ {a1 : List aa} {a0 : List PV} {a2 : PV} (a7 : All2 aa.t.R a1 a0) (b0 : isL a2 = true) (a5 : Wri a2 a0) (a8 : a1.length ≤ 4611686018427387904) (f9 : (a1.length : Int) ≤ 65536) {h : Heap} (M0 : Mem h [⟨a2, 99, 2, a0⟩]), K4 a1 = res → PX Tryz.prog 4 S (QR Tryz.prog [(6, none), (7, none)] (RF58 res)) [(1, v1), (2, vi x2), (11, vi b1), (12, a2)] h) :
  ∀ {m : Nat} {a4 : Int} {a1 : List aa} {a0 : List PV} {a2 : PV} (a7 : All2 aa.t.R a1 a0) (b0 : isL a2 = true) (a5 : Wri a2 a0) (a8 : a1.length ≤ 4611686018427387904) (f0 : m = Int.toNat ((d4.length : Int) - a4)) (c7 : 0 ≤ a4) (b5 : (a1.length : Int) ≤ 64 * a4) (b6 : a4 ≤ (d4.length : Int)) {h : Heap} (M0 : Mem h [⟨a2, 99, 2, a0⟩]), jh x1 x2 d4 b1 K4 m a4 a1 = res → RC Tryz.prog (.loop dh3) S (QR Tryz.prog [(6, none), (7, none)] (RF58 res)) [(13, vi a4), (12, a2), (11, vi b1), (8, e8), (2, vi x2), (1, v1)] h := by
 have c0 := d5
 try simp only [qa] at c0
 have b8 := c6
 try simp only [qa] at b8
 intro m
 induction m with
 | zero =>
  intro a4 a1 a0 a2 a7 b0 a5 a8 f0 c7 b5 b6 h M0 hres
  rw [jh] at hres
  refine bp (af (sR (mV rfl (mV rfl (ae (cg rfl (bq d7 Tryz.underlying96 _)) (bN cj rfl rfl (nS ?_)))))))
  refine bf rfl ?_ ?_ <;> intro c <;> try simp only [qa] at c
  ·omega
  refine db (dn (cq ?_))
  exact wP (f7 a7 b0 a5 a8 (by omega) (Mem.sub M0 (.cons_cons _ .slnil)) hres) rfl
 | succ m ih =>
  intro a4 a1 a0 a2 a7 b0 a5 a8 f0 c7 b5 b6 h M0 hres
  rw [jh] at hres
  refine bp (af (sR (mV rfl (mV rfl (ae (cg rfl (bq d7 Tryz.underlying96 _)) (bN cj rfl rfl (nS ?_)))))))
  refine bf rfl ?_ ?_ <;> intro c <;> try simp only [qa] at c
  rotate_left
  ·omega
  refine ax (ai (af (bc (ah (mV rfl (mV rfl (mV rfl ?_)))))))
  obtain ⟨f2, e3, b7⟩ := ct (i := a4) d7 (by omega) (by omega)
  refine ae (bg rfl rfl e3) (lD b7 rfl rfl rfl (mV rfl (mV rfl ?_)))
  obtain ⟨f5, d9, c1⟩ := ct (i := b1) r1 (by omega) (by omega)
  refine ae (bg rfl rfl d9) (lD c1 rfl rfl rfl (mV rfl ?_))
  obtain ⟨b9, b3, hres⟩ := cw hres
  obtain ⟨f8, d8, d1⟩ := dd6 (x2 := x2) b7 c1 
  rw [b3] at d1
  have e7 : b9.length ≤ 64 := s07 b3
  refine cL d8 rfl rfl (aj (TR.clo aa.t b7) (aj (TR.clo aa.t c1) (aj rfl bb))) ?_
  obtain ⟨b2, c5, b4⟩ := qc (t := aa.t) (h := h) d1
  have c4 : fits (a0.length + b2.length) 16 = true := by rw [All2.length_eq a7, All2.length_eq b4]; (try simp only [List.length_cons, List.length_nil]); exact kx (by omega) (by omega)
  refine lh (k := 0) (es := a0) (news := b2) M0 rfl rfl rfl b0 a5 c5 c4 (fun f3 f6 e1 d0 e2 => ?_)
  have c8 : All2 aa.t.R (a1 ++ b9) (a0 ++ b2) := All2.app a7 b4
  have d3 : (a1 ++ b9).length ≤ 4611686018427387904 := by rw [← All2.length_eq c8, List.length_append]; exact ny c4
  refine mV rfl (aw (da (ai (ah (mV rfl (bN dp rfl rfl (mV rfl (aw ?_))))))))
  refine cf ?_
  have hbd := df d7
  have hinc : wr (a4 + 1) = a4 + 1 := dg (by omega) (by omega)
  erw [hinc]
  exact wC (ih  c8 e1 d0 d3 (by omega) (by omega) (by ((simp only [List.length_append, List.length_cons, List.length_nil, List.length_set]; omega))) (by omega) (Mem.sub e2 (.cons_cons _ .slnil)) hres) rfl

theorem yf {S : List Fr} {res : (List aa) × Int} {x0 : List aa} {x1 : List aa} {x2 : Int} {a0 : List aa} {d5 : (List aa) × Int} {v1 : PV} {a2 : List PV} {a4 e2 : PV} (r1 : (tSl aa.t).R x1 v1) (hl : x0.length ≤ 1000) (b6 : ((decide (x2 < 1)) || (decide (64 < x2))) = false) (b2 : isL a4 = true) (a5 : Wri a4 a2) (a8 : a0.length ≤ 4611686018427387904) (b4 : (a0.length : Int) ≤ (x0.length : Int)) (d9 : IsSl e2 a2) (d1 : ki a0 = d5) (c9 : d5.1.length ≤ 1024) {K2 : (List aa) → Int → ((List aa) × Int)}
  (e6 : ∀ {b7 : List aa} {a3 : Int} {c3 : PV} (c8 : (tSl aa.t).R b7 c3) {h : Heap} (M0 : Mem h []), K2 b7 a3 = res → PX Tryz.prog 2 S (QR Tryz.prog [(6, none), (7, none)] (RF58 res)) [(8, c3), (10, vi a3)] h) :
  ∀ {m : Nat} {b7 : List aa} {a3 a1 : Int} {c3 : PV} (c8 : (tSl aa.t).R b7 c3) (e7 : m = Int.toNat ((x1.length : Int) - a1)) (c1 : 0 ≤ a1) (a9 : b7.length ≤ 1024) {h : Heap} (M0 : Mem h []), jk x1 x2 K2 m b7 a3 a1 = res → RC Tryz.prog (.loop df0) S (QR Tryz.prog [(6, none), (7, none)] (RF58 res)) [(11, vi a1), (10, vi a3), (8, c3), (2, vi x2), (1, v1)] h := by
 have c2 := b6
 try simp only [qa] at c2
 intro m
 induction m with
 | zero =>
  intro b7 a3 a1 c3 c8 e7 c1 a9 h M0 hres
  rw [jk] at hres
  refine bp (af (sR (mV rfl (mV rfl (ae (cg rfl (bq r1 Tryz.underlying96 _)) (bN cj rfl rfl (mV rfl ?_)))))))
  refine bw 3 (d := 55) (v := vb ((decide (a1 < (x1.length : Int))) && (decide (a3 = 0)))) ?_ ?_
  ·intro S Q r
   cases d3 : (decide (a1 < (x1.length : Int)))
   ·exact gN 2 rfl rfl rfl rfl rfl rfl
   ·intro k
    have b9 := d3
    try simp only [qa] at b9
    refine ak rfl rfl (aq rfl) (ak rfl rfl (ay rfl rfl md) ?_)
    exact gK rfl rfl rfl rfl rfl k
  refine nS ?_
  refine bf rfl ?_ ?_ <;> intro c <;> try simp only [qa] at c
  ·omega
  refine db (dn (cq ?_))
  exact wP (e6 c8 (Mem.sub M0 .slnil) hres) rfl
 | succ m ih =>
  intro b7 a3 a1 c3 c8 e7 c1 a9 h M0 hres
  rw [jk] at hres
  refine bp (af (sR (mV rfl (mV rfl (ae (cg rfl (bq r1 Tryz.underlying96 _)) (bN cj rfl rfl (mV rfl ?_)))))))
  refine bw 3 (d := 55) (v := vb ((decide (a1 < (x1.length : Int))) && (decide (a3 = 0)))) ?_ ?_
  ·intro S Q r
   cases d4 : (decide (a1 < (x1.length : Int)))
   ·exact gN 2 rfl rfl rfl rfl rfl rfl
   ·intro k
    have c5 := d4
    try simp only [qa] at c5
    refine ak rfl rfl (aq rfl) (ak rfl rfl (ay rfl rfl md) ?_)
    exact gK rfl rfl rfl rfl rfl k
  refine nS ?_
  refine cv hres rfl ?_ ?_ <;> clear hres <;> intro b5 hres <;> have c0 := b5 <;> try simp only [qa] at c0
  ·refine ax (ai (af (bc (sR (ae (v := nilS) (aq rfl) (nS (af (sR ?_))))))))
   refine mI rfl (nS (bc ?_))
   have e5 := ml (sz := 2) (es := []) M0 99 (.inl ⟨none, rfl, rfl⟩) (by simp)
   refine wC (yq r1 hl b6 b2 a5 a8 b4 d9 d1 c9 c8 c1 a9 b5 ?_  aL rfl (.inl rfl) (by decide) rfl (by omega) (by ((simp; done))) (by omega) (Mem.sub e5 (.cons_cons _ .slnil)) hres) rfl
   ·intro a7 c6 d0 b1 b3 c7 a6 d8 e9 e1 hres
    refine dv (ai (ol (dm (mV rfl (dl ?_)))))
    refine vp (k := 0) (E' := fun b0 => [(77, b0), (1, v1), (2, vi x2), (11, vi a1), (12, b0)]) e1 rfl b3 (fun b0 => (qj rfl (ej rfl (ej rfl (ej rfl (qj rfl uf)))))) (fun b0 e0 e3 c4 => ?_)
    have d6 : (tSl aa.t).R a7 b0 := ⟨⟨_, e3, b1⟩, Nat.le_trans a6 (by decide)⟩
    replace c4 : Mem e0 [] := c4.sub .slnil
    refine dm ?_
    obtain ⟨e4, b8, hres⟩ := cw hres
    obtain ⟨f0, d2, d7⟩ := bj9  d6 (by omega)
    rw [b8] at d2 d7
    have e8 : e4.1.length ≤ 1024 := stp b8
    refine cL d2 rfl rfl (aj (TR.clo (tSl aa.t) d6) bb) (dl (dm (mV rfl (dl (dm (xT rfl rfl (dl (dm ?_))))))))
    refine xT rfl rfl (dl (dm (mV rfl (dl (dm (mV rfl (dl (tu ?_))))))))
    refine da (ai (ah (mV rfl (bN dp rfl rfl (mV rfl (aw (cf ?_)))))))
    have hbd := df r1
    have hinc : wr (a1 + 1) = a1 + 1 := dg (by omega) (by omega)
    erw [hinc]
    exact wC (ih  d7 (by omega) (by omega) (by omega) (Mem.sub c4 .slnil) hres) rfl
  ·refine db (dn (cq ?_))
   exact wP (e6 c8 (Mem.sub M0 .slnil) hres) rfl

theorem ec9 {x0 : List aa} {x1 : List aa} {x2 : Int} {v0 v1 : PV} (r0 : (tSl aa.t).R x0 v0) (r1 : (tSl aa.t).R x1 v1) (hl : x0.length ≤ 1000) : ∃ c0, FnR Tryz.prog 58 [v0, v1, vi x2] (.tup [c0, vi ((nh x0 x1 x2).2)]) ∧ (tSl aa.t).R (nh x0 x1 x2).1 c0 := by
 obtain ⟨res, hres⟩ : ∃ res, nh x0 x1 x2 = res := ⟨_, rfl⟩
 suffices H : RC Tryz.prog cb5 [] (QR Tryz.prog [(6, none), (7, none)] (RF58 res)) (argE 0 [v0, v1, vi x2]) ⟨0, []⟩ by
  rw [hres]
  obtain ⟨r, h1, c0, rfl, d0⟩ := fnE do7 (by simp) H
  exact ⟨c0, h1, d0⟩
 unfold nh at hres
 refine sR (ae (v := nilS) (aq rfl) (mI rfl (nS (af (sR (mV rfl (bN cj rfl rfl (mV rfl ?_))))))))
 refine bw 3 (d := 19) (v := vb ((decide (x2 < 1)) || (decide (64 < x2)))) ?_ ?_
 ·intro S Q r
  cases c2 : (decide (x2 < 1))
  ·intro k
   have b2 := c2
   try simp only [qa] at b2
   refine ak rfl rfl (aq rfl) (ak rfl rfl (ay rfl rfl gh) ?_)
   exact gK rfl rfl rfl rfl rfl k
  ·exact gN 2 rfl rfl rfl rfl rfl rfl
 refine nS ?_
 refine cv hres rfl ?_ ?_ <;> clear hres <;> intro a8 hres <;> have b1 := a8 <;> try simp only [qa] at b1
 ·refine sR (ae (v := nilS) (aq rfl) (mI rfl (nS ?_)))
  subst hres
  exact dk (.tmp rfl (.tmp rfl .nil)) (cd (show closed (.tup _) = true from (aj (TR.clo (tSl aa.t) fg) (aj rfl bb)))) ⟨nilS, rfl, fg⟩
 ·refine ax (ai (sR (ae (v := nilS) (aq rfl) (nS (af (sR (mI rfl (nS ?_))))))))
  refine bc ?_
  have c8 := ml (sz := 2) (es := []) (Mem.nil ⟨0, []⟩) 99 (.inl ⟨none, rfl, rfl⟩) (by simp)
  refine wC (yk r0 hl a8 ?_  aL rfl (.inl rfl) (by decide) rfl (by omega) (by ((simp; done))) (by omega) (Mem.sub c8 (.cons_cons _ .slnil)) hres) rfl
  ·intro a2 b4 c1 a7 a1 a3 a0 a9 d2 c4 hres
   refine dv (ai (af (ol (dm (mV rfl (dl ?_))))))
   refine vp (k := 0) (E' := fun a6 => [(44, a6), (1, v1), (2, vi x2), (8, a6)]) c4 rfl a1 (fun a6 => (qj rfl (ej rfl (ej rfl (qj rfl uf))))) (fun a6 c5 b5 b3 => ?_)
   have b6 : (tSl aa.t).R a2 a6 := ⟨⟨_, b5, a7⟩, Nat.le_trans a0 (by decide)⟩
   replace b3 : Mem c5 [] := b3.sub .slnil
   refine dm ?_
   obtain ⟨c7, a5, hres⟩ := cw hres
   obtain ⟨d1, b9, b8⟩ := bj9  b6 (by omega)
   rw [a5] at b9 b8
   have b7 : c7.1.length ≤ 1024 := stp a5
   refine cL b9 rfl rfl (aj (TR.clo (tSl aa.t) b6) bb) (dl (dm (mV rfl (dl (dm (xT rfl rfl (dl (dm ?_))))))))
   refine xT rfl rfl (dl (dm (mV rfl (dl (dm (mV rfl (dl (tu ?_))))))))
   refine ai (af (sR (mI rfl (nS (bc ?_)))))
   refine wC (yf r1 hl a8 a1 a3 a0 a9 b5 a5 b7 ?_  b8 rfl (by omega) (by omega) (Mem.sub b3 .slnil) hres) rfl
   ·intro c6 c3 b0 a4 c9 d3 hres
    refine dv (ai (af (sR (mV rfl (bN jq rfl rfl (nS ?_))))))
    refine cv hres rfl ?_ ?_ <;> clear hres <;> intro c hres <;> try simp only [qa] at c
    ·refine sR (mV rfl (ae (v := nilS) (aq rfl) (mV rfl (nS ?_))))
     subst hres
     exact dk (.tmp rfl (.tmp rfl .nil)) (cd (show closed (.tup _) = true from (aj (TR.clo (tSl aa.t) fg) (aj rfl bb)))) ⟨nilS, rfl, fg⟩
    ·refine ax (ai (sR (mV rfl (mV rfl (mI rfl (nS ?_))))))
     subst hres
     exact dk (.tmp rfl (.tmp rfl .nil)) (cd (show closed (.tup _) = true from (aj (TR.clo (tSl aa.t) a4) (aj rfl bb)))) ⟨b0, rfl, a4⟩

def RF59 (res : (List Int)) (r : PV) : Prop := (tSl tI).R res r
theorem zt {S : List Fr} {res : (List Int)} {x0 : List Int} {x1 : Int} {v0 : PV} (r0 : (tSl tI).R x0 v0) (hl : x0.length ≤ 1000000) {K0 : Int → (List Int)}
  (a8 : ∀ {a0 : Int} (a9 : 0 ≤ a0) (b0 : a0 ≤ (x0.length : Int)), K0 a0 = res → PX Tryz.prog 0 S (QR Tryz.prog [(4, none)] (RF59 res)) [(0, v0), (1, vi x1), (5, vi a0)] ⟨0, []⟩) :
  ∀ {m : Nat} {a0 : Int} (a7 : m = Int.toNat ((x0.length : Int) - a0)) (a5 : 0 ≤ a0) (a1 : a0 ≤ (x0.length : Int)), mg x0 x1 K0 m a0 = res → RC Tryz.prog (.loop cy1) S (QR Tryz.prog [(4, none)] (RF59 res)) [(5, vi a0), (1, vi x1), (0, v0)] ⟨0, []⟩ := by
 intro m
 induction m with
 | zero =>
  intro a0 a7 a5 a1 hres
  rw [mg] at hres
  refine bp (af (sR (mV rfl (mV rfl (ae (cg rfl (bq r0 Tryz.underlying29 _)) (bN cj rfl rfl (mV rfl ?_)))))))
  refine bw 7 (d := 18) (v := vb ((decide (a0 < (x0.length : Int))) && (decide ((ix x0 a0) < x1)))) ?_ ?_
  ·intro S Q r
   cases a6 : (decide (a0 < (x0.length : Int)))
   ·exact gN 6 rfl rfl rfl rfl rfl rfl
   ·intro k
    have a2 := a6
    try simp only [qa] at a2
    refine ak rfl rfl (aq rfl) (ak rfl rfl (aq rfl) (ak rfl rfl (bg rfl rfl (slI r0 (by omega) (by omega))) (ak rfl rfl (br rfl rfl rfl) (ak rfl rfl (aq rfl) (ak rfl rfl (ay rfl rfl cj) ?_)))))
    exact gK rfl rfl rfl rfl rfl k
  refine nS ?_
  refine bf rfl ?_ ?_ <;> intro c <;> try simp only [qa] at c
  ·omega
  refine db (dn (cq ?_))
  exact wP (a8 (by omega) (by omega) hres) rfl
 | succ m ih =>
  intro a0 a7 a5 a1 hres
  rw [mg] at hres
  refine bp (af (sR (mV rfl (mV rfl (ae (cg rfl (bq r0 Tryz.underlying29 _)) (bN cj rfl rfl (mV rfl ?_)))))))
  refine bw 7 (d := 18) (v := vb ((decide (a0 < (x0.length : Int))) && (decide ((ix x0 a0) < x1)))) ?_ ?_
  ·intro S Q r
   cases a4 : (decide (a0 < (x0.length : Int)))
   ·exact gN 6 rfl rfl rfl rfl rfl rfl
   ·intro k
    have a3 := a4
    try simp only [qa] at a3
    refine ak rfl rfl (aq rfl) (ak rfl rfl (aq rfl) (ak rfl rfl (bg rfl rfl (slI r0 (by omega) (by omega))) (ak rfl rfl (br rfl rfl rfl) (ak rfl rfl (aq rfl) (ak rfl rfl (ay rfl rfl cj) ?_)))))
    exact gK rfl rfl rfl rfl rfl k
  refine nS ?_
  refine cv hres rfl ?_ ?_ <;> clear hres <;> intro c hres <;> try simp only [qa] at c
  ·refine ax (ai (bc (ah (mV rfl (bN dp rfl rfl (mV rfl (aw (da ?_))))))))
   refine cf ?_
   have hbd := df r0
   have hinc : wr (a0 + 1) = a0 + 1 := dg (by omega) (by omega)
   erw [hinc]
   exact wC (ih   (by omega) (by omega) (by omega) hres) rfl
  ·refine db (dn (cq ?_))
   exact wP (a8 (by omega) (by omega) hres) rfl

theorem dr8 {x0 : List Int} {x1 : Int} {v0 : PV} (r0 : (tSl tI).R x0 v0) (hl : x0.length ≤ 1000000) : ∃ r, FnR Tryz.prog 59 [v0, vi x1] r ∧ (tSl tI).R (nu x0 x1) r := by
 refine fnT (R := RF59) du0 rfl fun res hres => ?_
 unfold nu at hres
 refine sR (ae (v := nilS) (aq rfl) (nR (mI rfl (nS (af (bc ?_))))))
 refine wC (zt r0 hl ?_  rfl (by omega) (by omega) hres) rfl
 ·intro a0 c5 c4 hres
  refine dv (ai (sR (ae (v := .fs true []) (fm rfl jn) ?_)))
  have d3 : (tSl tI).R ([] : List Int) (.fs true []) := rh trivial (by simp)
  refine mV rfl (mV rfl (ah8 (E0 := [(23, vi a0), (22, v0), (21, .fs true []), (0, v0), (1, vi x1), (5, vi a0)]) (sB rfl) ?_))
  obtain ⟨b1, d7, d9⟩ := cg0 (P := Tryz.prog) (hf := false) (E := [(23, vi a0), (22, v0), (21, .fs true []), (0, v0), (1, vi x1), (5, vi a0)]) (h := ⟨0, []⟩) (t := tI) (tt := 29) (x := (.tmp 22)) (lo := none) (hi := (some (.tmp 23))) (a := 0) (b := a0) r0 rfl rfl rfl (show 0 ≤ 0 by omega) (show 0 ≤ a0 by omega) (show a0 ≤ (x0.length : Int) by omega) (fun ad => by kernel_rfl)
  have e6 := bs4 (l := x0) (show 0 ≤ 0 by omega) (show 0 ≤ a0 by omega) (show a0 ≤ (x0.length : Int) by omega)
  refine ae (v := b1) (d7) ?_
  have d6 := d3
  have a9 : All2 tI.R ([] : List Int) ([] : List PV) := cu6 d6
  have d4 := ml (sz := 1) (es := ([] : List PV)) (Mem.nil ⟨0, []⟩) 3 (.inr rfl) (All2.cnt (t := tI) a9)
  obtain ⟨a1, b8, a8⟩ := qc (t := tI) (h := ⟨0, []⟩) d9
  have b3 : fits (([] : List PV).length + a1.length) 8 = true := by rw [All2.length_eq a9, All2.length_eq a8]; (try simp only [List.length_cons, List.length_nil]); exact kx (by omega) (by omega)
  refine lh (k := 0) (es := ([] : List PV)) (news := a1) d4 rfl rfl rfl rfl (.inl rfl) b8 b3 (fun a5 d1 e1 c1 d0 => ?_)
  have b0 : All2 tI.R (sub x0 0 a0) (([] : List PV) ++ a1) := All2.app a9 a8
  have e5 : (sub x0 0 a0).length ≤ 4611686018427387904 := by rw [← All2.length_eq b0, List.length_append]; exact ny b3
  refine mV rfl (nR (mV rfl (mV rfl (ae (v := .fs true [vi x1]) (fm rfl (all_cons rfl jn)) ?_))))
  have e2 : (tSl tI).R ([x1] : List Int) (.fs true [vi x1]) := rh ⟨rfl, trivial⟩ (by simp)
  obtain ⟨a2, b7, a7⟩ := qc (t := tI) (h := d1) e2
  have c3 : fits ((([] : List PV) ++ a1).length + a2.length) 8 = true := by rw [All2.length_eq b0, All2.length_eq a7]; (try simp only [List.length_cons, List.length_nil]); exact kx (by omega) (by omega)
  refine lh (k := 0) (es := (([] : List PV) ++ a1)) (news := a2) d0 rfl rfl rfl e1 c1 b7 c3 (fun a3 c2 c8 c0 d5 => ?_)
  have b2 : All2 tI.R ((sub x0 0 a0) ++ ([x1] : List Int)) ((([] : List PV) ++ a1) ++ a2) := All2.app b0 a7
  have e8 : ((sub x0 0 a0) ++ ([x1] : List Int)).length ≤ 4611686018427387904 := by rw [← All2.length_eq b2, List.length_append]; exact ny c3
  refine mV rfl (nR (mV rfl (mV rfl (mV rfl (ah8 (E0 := [(32, vi a0), (31, v0), (30, a3), (6, a3), (29, a3), (28, .fs true [vi x1]), (27, vi x1), (26, a5), (25, a5), (24, b1), (23, vi a0), (22, v0), (21, .fs true ([] : List PV)), (0, v0), (1, vi x1), (5, vi a0)]) (sB rfl) ?_)))))
  obtain ⟨e0, d2, c6⟩ := cg0 (P := Tryz.prog) (hf := false) (E := [(32, vi a0), (31, v0), (30, a3), (6, a3), (29, a3), (28, .fs true [vi x1]), (27, vi x1), (26, a5), (25, a5), (24, b1), (23, vi a0), (22, v0), (21, .fs true ([] : List PV)), (0, v0), (1, vi x1), (5, vi a0)]) (h := c2) (t := tI) (tt := 29) (x := (.tmp 31)) (lo := (some (.tmp 32))) (hi := none) (a := a0) (b := (x0.length : Int)) r0 rfl rfl rfl (show 0 ≤ a0 by omega) (show a0 ≤ (x0.length : Int) by omega) (show (x0.length : Int) ≤ (x0.length : Int) by omega) (fun ad => by kernel_rfl)
  have e4 := bs4 (l := x0) (show 0 ≤ a0 by omega) (show a0 ≤ (x0.length : Int) by omega) (show (x0.length : Int) ≤ (x0.length : Int) by omega)
  refine ae (v := e0) (d2) ?_
  obtain ⟨a4, b4, a6⟩ := qc (t := tI) (h := c2) c6
  have b6 : fits (((([] : List PV) ++ a1) ++ a2).length + a4.length) 8 = true := by rw [All2.length_eq b2, All2.length_eq a6]; (try simp only [List.length_cons, List.length_nil]); exact kx (by ((simp only [List.length_append, List.length_cons, List.length_nil]; omega))) (by ((simp only [List.length_append, List.length_cons, List.length_nil]; omega)))
  refine lh (k := 0) (es := ((([] : List PV) ++ a1) ++ a2)) (news := a4) d5 rfl rfl rfl c8 c0 b4 b6 (fun e9 f0 e3 e7 c9 => ?_)
  have b9 : All2 tI.R (((sub x0 0 a0) ++ ([x1] : List Int)) ++ (sub x0 a0 (x0.length : Int))) (((([] : List PV) ++ a1) ++ a2) ++ a4) := All2.app b2 a6
  have b5 : (((sub x0 0 a0) ++ ([x1] : List Int)) ++ (sub x0 a0 (x0.length : Int))).length ≤ 4611686018427387904 := by rw [← All2.length_eq b9, List.length_append]; exact ny b6
  refine mV rfl (nS ?_)
  obtain ⟨f1, d8, c7⟩ := tw (P := Tryz.prog) (k := 0) (t := tI) c9 rfl e3 b9 (Nat.le_trans b5 (by decide))
  subst hres
  exact dk (.tmp rfl .nil) d8 c7

def RF20 (res : (List Int) × Int) (r : PV) : Prop := ∃ c0, r = .tup [c0, vi res.2] ∧ (tSl tI).R res.1 c0
theorem ye {S : List Fr} {res : (List Int) × Int} {x0 : ab} {x1 : Int} {x2 : List av} {d0 : Int} {e9 : List Int} {a8 : Int} {v0 v2 e2 : PV} (r0 : ab.t.R x0 v0) (r2 : (tSl av.t).R x2 v2) (hl : x2.length ≤ 1000) (e5 : gz x0 x1 x2 = d0) (d3 : (!decide (d0 = 0)) = false) (c1 : (decide ((((ix x0.Tables x1).Keys).length : Int) = 0)) = false) (f0 : 0 ≤ a8) (e3 : (e9.length : Int) ≤ a8) (c6 : (decide (a8 < (x2.length : Int))) = true) {K2 : (List aa) → ((List Int) × Int)}
  (e8 : ∀ {a1 : List aa} {a0 : List PV} {a2 : PV} (a5 : All2 aa.t.R a1 a0) (a7 : isL a2 = true) (a3 : Wri a2 a0) (a6 : a1.length ≤ 4611686018427387904) {h : Heap} (M0 : Mem h [⟨a2, 99, 2, a0⟩]), K2 a1 = res → PX Tryz.prog 2 S (QR Tryz.prog [(6, none), (7, none)] (RF20 res)) [(1, vi x1), (2, v2), (3, .fp v0), (9, e2), (10, vi a8), (11, a2)] h) :
  ∀ {m : Nat} {a4 : Int} {a1 : List aa} {a0 : List PV} {a2 : PV} (a5 : All2 aa.t.R a1 a0) (a7 : isL a2 = true) (a3 : Wri a2 a0) (a6 : a1.length ≤ 4611686018427387904) (e4 : m = Int.toNat ((x2.length : Int) - a4)) (c0 : 0 ≤ a4) (b0 : (a1.length : Int) ≤ a4) {h : Heap} (M0 : Mem h [⟨a2, 99, 2, a0⟩]), ij x0 x1 x2 a8 K2 m a4 a1 = res → RC Tryz.prog (.loop cw5) S (QR Tryz.prog [(6, none), (7, none)] (RF20 res)) [(12, vi a4), (11, a2), (10, vi a8), (9, e2), (3, .fp v0), (2, v2), (1, vi x1)] h := by
 have b5 := d3
 try simp only [qa] at b5
 have b2 := c1
 try simp only [qa] at b2
 have b4 := c6
 try simp only [qa] at b4
 intro m
 induction m with
 | zero =>
  intro a4 a1 a0 a2 a5 a7 a3 a6 e4 c0 b0 h M0 hres
  rw [ij] at hres
  refine bp (af (sR (mV rfl (mV rfl (ae (cg rfl (bq r2 Tryz.underlying32 _)) (bN cj rfl rfl (nS ?_)))))))
  refine bf rfl ?_ ?_ <;> intro c <;> try simp only [qa] at c
  ·omega
  refine db (dn (cq ?_))
  exact wP (e8 a5 a7 a3 a6 (Mem.sub M0 (.cons_cons _ .slnil)) hres) rfl
 | succ m ih =>
  intro a4 a1 a0 a2 a5 a7 a3 a6 e4 c0 b0 h M0 hres
  rw [ij] at hres
  refine bp (af (sR (mV rfl (mV rfl (ae (cg rfl (bq r2 Tryz.underlying32 _)) (bN cj rfl rfl (nS ?_)))))))
  refine bf rfl ?_ ?_ <;> intro c <;> try simp only [qa] at c
  rotate_left
  ·omega
  refine ax (ai (af (bc (af (bh8 (lD r0 rfl rfl rfl (mV rfl (mV rfl ?_))))))))
  refine mV rfl ?_
  obtain ⟨f4, d8, b3⟩ := ct (i := a4) r2 (by omega) (by omega)
  refine ae (bg rfl rfl d8) (lD b3 rfl rfl rfl (mV rfl (mV rfl ?_)))
  obtain ⟨f1, d6, b7⟩ := ct (i := a8) r2 (by omega) (by omega)
  refine ae (bg rfl rfl d6) (lD b7 rfl rfl rfl ?_)
  refine aw (cl3 ?_)
  refine dm ?_
  obtain ⟨e7, b9, hres⟩ := cw hres
  have c9 := dp4 (x1 := x1) r0 b3 b7 
  rw [b9] at c9
  refine cL c9 rfl rfl (aj (TR.clo ab.t r0) (aj rfl (aj (TR.clo av.t b3) (aj (TR.clo av.t b7) bb)))) (dl (tu (ai ?_)))
  refine cv hres rfl ?_ ?_ <;> clear hres <;> intro c hres <;> try simp only [qa] at c
  ·refine ah (mV rfl (lD r0 rfl rfl rfl (mV rfl (mV rfl (mV rfl ?_)))))
   obtain ⟨f3, d4, e0⟩ := ct (i := a4) r2 (by omega) (by omega)
   refine ae (bg rfl rfl d4) (gL (av.g_Entry e0) rfl rfl rfl fun f5 c5 => ?_)
   obtain ⟨b6, c7, hres⟩ := cw hres
   obtain ⟨c3, d5, b8⟩ := cp2 (x1 := x1) r0 c5 
   rw [c7] at b8
   refine cL d5 rfl rfl (aj (TR.clo ab.t r0) (aj rfl (aj (TR.clo au.t c5) bb))) (ae (v := .fs true [c3]) (fm rfl (all_cons (TR.cnt aa.t b8) jn)) ?_)
   have d7 : (tSl aa.t).R ([b6] : List aa) (.fs true [c3]) := rh ⟨b8, trivial⟩ (by simp)
   obtain ⟨a9, d2, b1⟩ := qc (t := aa.t) (h := h) d7
   have c2 : fits (a0.length + a9.length) 16 = true := by rw [All2.length_eq a5, All2.length_eq b1]; (try simp only [List.length_cons, List.length_nil]); exact kx (by omega) (by omega)
   refine lh (k := 0) (es := a0) (news := a9) M0 rfl rfl rfl a7 a3 d2 c2 (fun f2 e6 d9 c4 e1 => ?_)
   have d1 : All2 aa.t.R (a1 ++ ([b6] : List aa)) (a0 ++ a9) := All2.app a5 b1
   have c8 : (a1 ++ ([b6] : List aa)).length ≤ 4611686018427387904 := by rw [← All2.length_eq d1, List.length_append]; exact ny c2
   refine mV rfl (aw (da (ai (ah (mV rfl (bN dp rfl rfl (mV rfl (aw ?_))))))))
   refine cf ?_
   have hbd := df r2
   have hinc : wr (a4 + 1) = a4 + 1 := dg (by omega) (by omega)
   erw [hinc]
   exact wC (ih  d1 d9 c4 c8 (by omega) (by omega) (by ((simp only [List.length_append, List.length_cons, List.length_nil, List.length_set]; omega))) (Mem.sub e1 (.cons_cons _ .slnil)) hres) rfl
  ·refine ax (da (ai (ah (mV rfl (bN dp rfl rfl (mV rfl (aw (cf ?_))))))))
   have hbd := df r2
   have hinc : wr (a4 + 1) = a4 + 1 := dg (by omega) (by omega)
   erw [hinc]
   exact wC (ih  a5 a7 a3 a6 (by omega) (by omega) (by omega) (Mem.sub M0 (.cons_cons _ .slnil)) hres) rfl

theorem xy {S : List Fr} {res : (List Int) × Int} {x0 : ab} {x1 : Int} {x2 : List av} {c3 : Int} {v0 v2 : PV} (r0 : ab.t.R x0 v0) (r2 : (tSl av.t).R x2 v2) (hl : x2.length ≤ 1000) (d5 : gz x0 x1 x2 = c3) (b2 : (!decide (c3 = 0)) = false) (b1 : (decide ((((ix x0.Tables x1).Keys).length : Int) = 0)) = false) {K0 : (List Int) → ((List Int) × Int)}
  (f6 : ∀ {a7 : List Int} {b0 : PV} (b8 : (tSl tI).R a7 b0) {h : Heap} (M0 : Mem h []), K0 a7 = res → PX Tryz.prog 0 S (QR Tryz.prog [(6, none), (7, none)] (RF20 res)) [(9, b0)] h) :
  ∀ {m : Nat} {a7 : List Int} {a0 : Int} {b0 : PV} (b8 : (tSl tI).R a7 b0) (f0 : m = Int.toNat ((x2.length : Int) - a0)) (b6 : 0 ≤ a0) (a5 : (a7.length : Int) ≤ a0) {h : Heap} (M0 : Mem h []), il x0 x1 x2 K0 m a7 a0 = res → RC Tryz.prog (.loop dg8) S (QR Tryz.prog [(6, none), (7, none)] (RF20 res)) [(10, vi a0), (9, b0), (3, .fp v0), (2, v2), (1, vi x1)] h := by
 have b5 := b2
 try simp only [qa] at b5
 have b7 := b1
 try simp only [qa] at b7
 intro m
 induction m with
 | zero =>
  intro a7 a0 b0 b8 f0 b6 a5 h M0 hres
  rw [il] at hres
  refine bp (af (sR (mV rfl (mV rfl (ae (cg rfl (bq r2 Tryz.underlying32 _)) (bN cj rfl rfl (nS ?_)))))))
  refine bf rfl ?_ ?_ <;> intro c <;> try simp only [qa] at c
  ·omega
  refine db (dn (cq ?_))
  exact wP (f6 b8 (Mem.sub M0 .slnil) hres) rfl
 | succ m ih =>
  intro a7 a0 b0 b8 f0 b6 a5 h M0 hres
  rw [il] at hres
  refine bp (af (sR (mV rfl (mV rfl (ae (cg rfl (bq r2 Tryz.underlying32 _)) (bN cj rfl rfl (nS ?_)))))))
  refine bf rfl (fun a1 => ?_) (fun a1 => ?_)
  ·have hgo := hres
   have b4 := a1
   try simp only [qa] at b4
   refine ax (ai (af (bc (sR (ae (v := nilS) (aq rfl) (nS (af (sR ?_))))))))
   refine mI rfl (nS (bc ?_))
   have d9 := ml (sz := 2) (es := []) M0 99 (.inl ⟨none, rfl, rfl⟩) (by simp)
   refine wC (ye r0 r2 hl d5 b2 b1 b6 a5 a1 ?_  aL rfl (.inl rfl) (by decide) rfl (by omega) (by ((simp; done))) (Mem.sub d9 (.cons_cons _ .slnil)) hres) rfl
   ·intro a2 c0 c8 a6 a4 c1 a3 f2 d6 hres
    refine dv (ai (af ?_))
    refine bh2 (k := 0) (E' := fun a8 => [(1, vi x1), (2, v2), (3, .fp v0), (9, b0), (10, vi a0), (11, a8)]) d6 rfl a4 (fun a8 => (ej rfl (ej rfl (ej rfl (ej rfl (ej rfl (qj rfl uf))))))) (fun a8 e2 e7 a9 => ?_)
    have d0 : (tSl aa.t).R a2 a8 := ⟨⟨_, e7, a6⟩, Nat.le_trans a3 (by decide)⟩
    replace a9 : Mem e2 [] := a9.sub .slnil
    refine lD r0 rfl rfl rfl (mV rfl (mV rfl (mV rfl ?_)))
    obtain ⟨f3, e4, d7⟩ := ct (i := a0) r2 (by omega) (by omega)
    refine ae (bg rfl rfl e4) (gL (av.g_Entry d7) rfl rfl rfl fun f4 d2 => ?_)
    obtain ⟨e8, d3, hres⟩ := cw hres
    obtain ⟨d1, e6, b9⟩ := cp2 (x1 := x1) r0 d2 
    rw [d3] at b9
    refine cL e6 rfl rfl (aj (TR.clo ab.t r0) (aj rfl (aj (TR.clo au.t d2) bb))) (ae (v := .fs true [d1]) (fm rfl (all_cons (TR.cnt aa.t b9) jn)) ?_)
    have c6 : (tSl aa.t).R ([e8] : List aa) (.fs true [d1]) := rh ⟨b9, trivial⟩ (by simp)
    refine mV rfl (lD r0 rfl rfl rfl (mV rfl ?_))
    obtain ⟨e1, c9, hres⟩ := cw hres
    have d4 := ec8 (x1 := x1) r0 
    rw [c9] at d4
    refine cL d4 rfl rfl (aj (TR.clo ab.t r0) (aj rfl bb)) ?_
    obtain ⟨f7, c5, hres⟩ := cw hres
    obtain ⟨f8, c7, c4⟩ := ec9 (x2 := e1) c6 d0 (by ((simp only [List.length_cons, List.length_nil]; omega)))
    rw [c5] at c7 c4
    refine cL c7 rfl rfl (aj (TR.clo (tSl aa.t) c6) (aj (TR.clo (tSl aa.t) d0) (aj rfl bb))) (mV rfl (xT rfl rfl (xT rfl rfl (mV rfl (mV rfl (nS (af (sR ?_))))))))
    refine mV rfl (bN jq rfl rfl (nS ?_))
    refine cv hres rfl ?_ ?_ <;> clear hres <;> intro c hres <;> try simp only [qa] at c
    ·refine sR (mV rfl (ae (v := nilS) (aq rfl) (mV rfl (nS ?_))))
     subst hres
     exact dk (.tmp rfl (.tmp rfl .nil)) (cd (show closed (.tup _) = true from (aj (TR.clo (tSl tI) fg) (aj rfl bb)))) ⟨nilS, rfl, fg⟩
    ·refine ax (ai (sR (mV rfl (ae (cg rfl (bq c4 Tryz.underlying96 _)) (bN md rfl rfl (nS ?_))))))
     refine cv hres rfl ?_ ?_ <;> clear hres <;> intro c hres <;> try simp only [qa] at c
     ·refine ah (mV rfl (mV rfl (mV rfl ?_)))
      obtain ⟨f5, e3, e0⟩ := ct (i := a0) r2 (by omega) (by omega)
      refine ae (bg rfl rfl e3) (fL rfl (av.g_ID e0) rfl rfl ?_)
      obtain ⟨d8, b3, hres⟩ := cw hres
      obtain ⟨f1, e5, c2⟩ := dr8 (x1 := (ix x2 a0).ID) b8 (by omega)
      rw [b3] at c2
      have e9 : d8.length ≤ a7.length + 1 := insl b3
      refine cL e5 rfl rfl (aj (TR.clo (tSl tI) b8) (aj rfl bb)) (mV rfl (aw (da (ai (ah (mV rfl (bN dp rfl rfl (mV rfl ?_))))))))
      refine aw (cf ?_)
      have hbd := df r2
      have hinc : wr (a0 + 1) = a0 + 1 := dg (by omega) (by omega)
      erw [hinc]
      exact wC (ih  c2 (by omega) (by omega) (by omega) (Mem.sub a9 .slnil) hres) rfl
     ·refine ax (da (ai (ah (mV rfl (bN dp rfl rfl (mV rfl (aw (cf ?_))))))))
      have hbd := df r2
      have hinc : wr (a0 + 1) = a0 + 1 := dg (by omega) (by omega)
      erw [hinc]
      exact wC (ih  b8 (by omega) (by omega) (by omega) (Mem.sub a9 .slnil) hres) rfl
  ·exfalso
   try simp only [qa] at a1
   omega

theorem du7 {x0 : ab} {x1 : Int} {x2 : List av} {v0 v2 : PV} (r0 : ab.t.R x0 v0) (r2 : (tSl av.t).R x2 v2) (hl : x2.length ≤ 1000) : ∃ c0, FnR Tryz.prog 20 [v0, vi x1, v2] (.tup [c0, vi ((nj x0 x1 x2).2)]) ∧ (tSl tI).R (nj x0 x1 x2).1 c0 := by
 obtain ⟨res, hres⟩ : ∃ res, nj x0 x1 x2 = res := ⟨_, rfl⟩
 suffices H : RC Tryz.prog dc8 [] (QR Tryz.prog [(6, none), (7, none)] (RF20 res)) (argE 0 [v0, vi x1, v2]) ⟨0, []⟩ by
  rw [hres]
  obtain ⟨r, h1, c0, rfl, b7⟩ := fnE dv9 (by simp) H
  exact ⟨c0, h1, b7⟩
 unfold nj at hres
 refine sR (ae (di rfl (TR.cnt ab.t r0)) (ae (v := nilS) (aq rfl) (mI rfl (nR (lD r0 rfl rfl rfl (mV rfl (mV rfl ?_)))))))
 obtain ⟨b9, a3, hres⟩ := cw hres
 have a7 := dn5 (x1 := x1) r0 r2 
 rw [a3] at a7
 refine cL a7 rfl rfl (aj (TR.clo ab.t r0) (aj rfl (aj (TR.clo (tSl av.t) r2) bb))) (mV rfl (nS (af (sR (mV rfl (bN jq rfl rfl (nS ?_)))))))
 refine cv hres rfl ?_ ?_ <;> clear hres <;> intro a2 hres <;> have a5 := a2 <;> try simp only [qa] at a5
 ·refine sR (mV rfl (ae (v := nilS) (aq rfl) (mV rfl (nS ?_))))
  subst hres
  exact dk (.tmp rfl (.tmp rfl .nil)) (cd (show closed (.tup _) = true from (aj (TR.clo (tSl tI) fg) (aj rfl bb)))) ⟨nilS, rfl, fg⟩
 ·refine ax (ai (af (sR (gL (ab.g_Tables r0) rfl rfl rfl fun b4 b1 => (mV rfl ?_)))))
  obtain ⟨b6, b2, a9⟩ := ct (i := x1) b1 (by ((have hk := dk1 (by assumption) (by assumption); omega))) (by ((have hk := dk1 (by assumption) (by assumption); omega)))
  refine ae (bg rfl rfl b2) (gL (az.g_Keys a9) rfl rfl rfl fun b3 b0 => (ae (cg rfl (bq b0 Tryz.underlying85 _)) (bN md rfl rfl (nS ?_))))
  refine cv hres rfl ?_ ?_ <;> clear hres <;> intro a1 hres <;> have a4 := a1 <;> try simp only [qa] at a4
  ·refine sR (ae (v := nilS) (aq rfl) (mI rfl (nS ?_)))
   subst hres
   exact dk (.tmp rfl (.tmp rfl .nil)) (cd (show closed (.tup _) = true from (aj (TR.clo (tSl tI) fg) (aj rfl bb)))) ⟨nilS, rfl, fg⟩
  ·refine ax (ai (sR (ae (v := nilS) (aq rfl) (nS (af (sR (mI rfl (nS ?_))))))))
   refine bc ?_
   refine wC (xy r0 r2 hl a3 a2 a1 ?_  fg rfl (by omega) (by ((simp; done))) (Mem.sub (Mem.nil ⟨0, []⟩) .slnil) hres) rfl
   ·intro a8 a6 a0 b8 b5 hres
    refine dv (ai (sR (mV rfl (mV rfl (mI rfl (nS ?_))))))
    subst hres
    exact dk (.tmp rfl (.tmp rfl .nil)) (cd (show closed (.tup _) = true from (aj (TR.clo (tSl tI) a0) (aj rfl bb)))) ⟨a6, rfl, a0⟩

end Go.Proofs.YthdnpgpnodgicaaGreat
