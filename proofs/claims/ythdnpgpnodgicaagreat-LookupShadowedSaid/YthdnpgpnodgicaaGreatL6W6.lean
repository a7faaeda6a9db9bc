/-
 The code of each function does what its plain program says.
-/
import Derived.Test.YthdnpgpnodgicaaGreatL6W5
set_option linter.unusedVariables false
set_option linter.unusedSimpArgs false
set_option maxRecDepth 100000
namespace Go.Proofs.YthdnpgpnodgicaaGreat
open Go Go.Pb Go.RowKit
def RF157 (res : Bool) (r : PV) : Prop := r = vb res
theorem bs1 {x0 : aa} {x1 : aa} {v0 v1 : PV} (r0 : aa.t.R x0 v0) (r1 : aa.t.R x1 v1) : FnR Tryz.prog 157 [v0, v1] (vb (lr x0 x1)) := by
 refine fnS (R := RF157) br2 (fun _ h => h) rfl fun res hres => ?_
 unfold lr at hres
 refine sR (ae (di rfl (TR.cnt aa.t r0)) (ae (di rfl (TR.cnt aa.t r1)) (mB rfl (nR (fL rfl (aa.g_Mask r1) rfl rfl (fL rfl (aa.g_Mask r0) rfl rfl (ae (ay (a := bd x1.Mask) (b := bd x0.Mask) rfl rfl ak5) (ae (ay (a := bd (x1.Mask &&& ~~~x0.Mask)) (b := bd 0#64) rfl rfl az3) ?_))))))))
 refine mV rfl ?_
 refine bw 10 (d := 21) (v := vb ((decide ((x1.Mask &&& ~~~x0.Mask) = 0#64)) && (decide (((x0.Value ^^^ x1.Value) &&& x1.Mask) = 0#64)))) ?_ ?_
 ·intro S Q r
  cases a1 : (decide ((x1.Mask &&& ~~~x0.Mask) = 0#64))
  ·exact gN 9 rfl rfl rfl rfl rfl rfl
  ·intro k
   have a0 := a1
   try simp only [qa] at a0
   refine ak rfl rfl (bz rfl (aa.g_Value r0)) (ak rfl rfl (br rfl rfl rfl) (ak rfl rfl (bz rfl (aa.g_Value r1)) (ak rfl rfl (br rfl rfl rfl) (ak rfl rfl (ay (a := bd x0.Value) (b := bd x1.Value) rfl rfl by9) (ak rfl rfl (bz rfl (aa.g_Mask r1)) (ak rfl rfl (br rfl rfl rfl) (ak rfl rfl (ay (a := bd (x0.Value ^^^ x1.Value)) (b := bd x1.Mask) rfl rfl og) (ak rfl rfl (ay (a := bd ((x0.Value ^^^ x1.Value) &&& x1.Mask)) (b := bd 0#64) rfl rfl az3) ?_))))))))
   exact gK rfl rfl rfl rfl rfl k
 refine mV rfl (nS ?_)
 exact rR hres rfl rfl rfl

def RF148 (res : Bool) (r : PV) : Prop := r = vb res
theorem vo {S : List Fr} {res : Bool} {x0 : List aa} {x1 : Int} {v0 : PV} (r0 : (tSl aa.t).R x0 v0) (hi : 0 ≤ x1) (hj : x1 < x0.length) {K0 : Unit → Bool}
  (c4 : ∀ {h : Heap} (M0 : Mem h []), K0 () = res → PX Tryz.prog 0 S (QR Tryz.prog [(4, none)] (RF148 res)) [] h) :
  ∀ {m : Nat} {a1 : Int} (c2 : m = Int.toNat ((x0.length : Int) - a1)) (a9 : 0 ≤ a1) {h : Heap} (M0 : Mem h []), gm x0 x1 K0 m a1 = res → RC Tryz.prog (.loop cl1) S (QR Tryz.prog [(4, none)] (RF148 res)) [(9, vi a1), (8, vi (x0.length : Int)), (7, v0), (1, vi x1), (0, v0)] h := by
 intro m
 induction m with
 | zero =>
  intro a1 c2 a9 h M0 hres
  rw [gm] at hres
  refine bp (sR (bN cj rfl rfl (nS (af ?_))))
  refine bf rfl ?_ ?_ <;> intro c <;> try simp only [qa] at c
  ·omega
  refine db (dn (cq ?_))
  exact wP (c4 (Mem.sub M0 .slnil) hres) rfl
 | succ m ih =>
  intro a1 c2 a9 h M0 hres
  rw [gm] at hres
  refine bp (sR (bN cj rfl rfl (nS (af ?_))))
  refine bf rfl ?_ ?_ <;> intro c <;> try simp only [qa] at c
  rotate_left
  ·omega
  refine ax (ai (af (bc (sR (mV rfl ?_)))))
  obtain ⟨b0, b4, a0⟩ := ct (i := a1) r0 (by omega) (by omega)
  refine ae (bg rfl rfl b4) (lD a0 rfl rfl rfl ?_)
  refine dh (x := .agg [bd 0#64, bd 0#64]) M0 rfl rfl (fun b7 c0 c6 b8 => ?_)
  refine mV rfl ?_
  refine de (k := 0) (v := b0) b8 rfl rfl rfl (TR.cnt aa.t a0) (fun b9 a2 => ?_)
  replace a2 : Mem b9 [⟨.op b7 c0 0, 99, 2, [b0]⟩] := a2
  refine nS (af (sR (mV rfl (mV rfl (bN md rfl rfl (mV rfl ?_))))))
  refine bw 8 (d := 25) (v := vb ((decide (a1 = x1)) || (!(lr (ix x0 x1) (ix x0 a1))))) ?_ ?_
  ·intro S Q r
   cases a7 : (decide (a1 = x1))
   ·intro k
    have a5 := a7
    try simp only [qa] at a5
    refine ak rfl rfl (aq rfl) (ak rfl rfl (aq rfl) ?_)
    obtain ⟨c5, b6, a3⟩ := ct (i := x1) r0 (by omega) (by omega)
    refine ak rfl rfl (bg rfl rfl b6) (ak rfl rfl (br rfl (TR.cnt aa.t a3) (TR.agg aa.t a3)) (ak rfl rfl (fe (k := 0) a2 rfl rfl (TR.agg aa.t a0)) ?_))
    have b5 := bs1  a3 a0 
    refine io rfl rfl (qt rfl rfl (aj (TR.clo aa.t a3) (aj (TR.clo aa.t a0) bb)) b5) (ak rfl rfl (gu rfl) ?_)
    exact gK rfl rfl rfl rfl rfl k
   ·exact gN 7 rfl rfl rfl rfl rfl rfl
  refine nS ?_
  refine cv hres rfl ?_ ?_ <;> clear hres <;> intro c hres <;> try simp only [qa] at c
  ·refine db (dn (dv (ai (ah (bN dp rfl rfl (mV rfl (aw (cf ?_))))))))
   have hbd := df r0
   have hinc : wr (a1 + 1) = a1 + 1 := dg (by omega) (by omega)
   erw [hinc]
   exact wC (ih   (by omega) (by omega) (Mem.sub a2 (.cons _ .slnil)) hres) rfl
  ·refine ax (ai (sR (ae (fe (k := 0) a2 rfl rfl (TR.agg aa.t a0)) (mV rfl (mV rfl ?_)))))
   obtain ⟨c3, c1, a6⟩ := ct (i := x1) r0 (by omega) (by omega)
   refine ae (bg rfl rfl c1) (lD a6 rfl rfl rfl ?_)
   obtain ⟨b3, a8, hres⟩ := cw hres
   have b2 := bs1  a0 a6 
   rw [a8] at b2
   refine cL b2 rfl rfl (aj (TR.clo aa.t a0) (aj (TR.clo aa.t a6) bb)) (ae (gu rfl) (mV rfl ?_))
   refine bw 4 (d := 37) (v := vb ((!b3) || (decide (a1 < x1)))) ?_ ?_
   ·intro S Q r
    cases b1 : (!b3)
    ·intro k
     have a4 := b1
     try simp only [qa] at a4
     refine ak rfl rfl (aq rfl) (ak rfl rfl (aq rfl) (ak rfl rfl (ay rfl rfl cj) ?_))
     exact gK rfl rfl rfl rfl rfl k
    ·exact gN 3 rfl rfl rfl rfl rfl rfl
   refine nS ?_
   refine cv hres rfl ?_ ?_ <;> clear hres <;> intro c hres <;> try simp only [qa] at c
   ·refine sR (mB rfl (nS ?_))
    exact rR hres rfl rfl rfl
   ·refine ax (da (ai (ah (bN dp rfl rfl (mV rfl (aw (cf ?_)))))))
    have hbd := df r0
    have hinc : wr (a1 + 1) = a1 + 1 := dg (by omega) (by omega)
    erw [hinc]
    exact wC (ih   (by omega) (by omega) (Mem.sub a2 (.cons _ .slnil)) hres) rfl

theorem df3 {x0 : List aa} {x1 : Int} {v0 : PV} (r0 : (tSl aa.t).R x0 v0) (hi : 0 ≤ x1) (hj : x1 < x0.length) : FnR Tryz.prog 148 [v0, vi x1] (vb (qd x0 x1)) := by
 refine fnS (R := RF148) bn7 (fun _ h => h) rfl fun res hres => ?_
 unfold qd at hres
 refine sR (mB rfl (nS (af (sR (mV rfl (ae (cg rfl (bq r0 Tryz.underlying96 _)) (mI rfl (nS ?_))))))))
 refine bc ?_
 refine wC (vo r0 hi hj ?_  rfl (by omega) (Mem.sub (Mem.nil ⟨0, []⟩) .slnil) hres) rfl
 ·intro a0 a1 hres
  refine dv (ai (sR (mB rfl (nS ?_))))
  exact rR hres rfl rfl rfl

def RF124 (res : (List aa)) (r : PV) : Prop := (tSl aa.t).R res r
theorem wy {S : List Fr} {res : (List aa)} {x0 : List aa} {v0 : PV} (r0 : (tSl aa.t).R x0 v0) (hl : x0.length ≤ 1000000) {K0 : (List aa) → (List aa)}
  (d3 : ∀ {a1 : List aa} {a0 : List PV} {a2 : PV} (a5 : All2 aa.t.R a1 a0) (a7 : isL a2 = true) (a4 : Wri a2 a0) (a6 : a1.length ≤ 4611686018427387904) {h : Heap} (M0 : Mem h [⟨a2, 99, 2, a0⟩]), K0 a1 = res → PX Tryz.prog 0 S (QR Tryz.prog [(2, none)] (RF124 res)) [(3, a2)] h) :
  ∀ {m : Nat} {a3 : Int} {a1 : List aa} {a0 : List PV} {a2 : PV} (a5 : All2 aa.t.R a1 a0) (a7 : isL a2 = true) (a4 : Wri a2 a0) (a6 : a1.length ≤ 4611686018427387904) (d0 : m = Int.toNat ((x0.length : Int) - a3)) (b5 : 0 ≤ a3) (b1 : (a1.length : Int) ≤ a3) {h : Heap} (M0 : Mem h [⟨a2, 99, 2, a0⟩]), gy x0 K0 m a3 a1 = res → RC Tryz.prog (.loop by8) S (QR Tryz.prog [(2, none)] (RF124 res)) [(8, vi a3), (7, vi (x0.length : Int)), (6, v0), (3, a2), (0, v0)] h := by
 intro m
 induction m with
 | zero =>
  intro a3 a1 a0 a2 a5 a7 a4 a6 d0 b5 b1 h M0 hres
  rw [gy] at hres
  refine bp (sR (bN cj rfl rfl (nS (af ?_))))
  refine bf rfl ?_ ?_ <;> intro c <;> try simp only [qa] at c
  ·omega
  refine db (dn (cq ?_))
  exact wP (d3 a5 a7 a4 a6 (Mem.sub M0 (.cons_cons _ .slnil)) hres) rfl
 | succ m ih =>
  intro a3 a1 a0 a2 a5 a7 a4 a6 d0 b5 b1 h M0 hres
  rw [gy] at hres
  refine bp (sR (bN cj rfl rfl (nS (af ?_))))
  refine bf rfl ?_ ?_ <;> intro c <;> try simp only [qa] at c
  rotate_left
  ·omega
  refine ax (ai (af (bc (sR (mV rfl ?_)))))
  obtain ⟨b6, c8, a9⟩ := ct (i := a3) r0 (by omega) (by omega)
  refine ae (bg rfl rfl c8) (lD a9 rfl rfl rfl ?_)
  refine dh (x := .agg [bd 0#64, bd 0#64]) M0 rfl rfl (fun c4 c5 d4 c7 => ?_)
  refine mV rfl ?_
  refine de (k := 0) (v := b6) c7 rfl rfl rfl (TR.cnt aa.t a9) (fun c2 a8 => ?_)
  replace a8 : Mem c2 [⟨.op c4 c5 0, 99, 2, [b6]⟩, ⟨a2, 99, 2, a0⟩] := a8
  refine nR (mV rfl (mV rfl ?_))
  obtain ⟨d2, b7, hres⟩ := cw hres
  have b3 := df3 (x1 := a3) r0 (by assumption) (by assumption)
  rw [b7] at b3
  refine cL b3 rfl rfl (aj (TR.clo (tSl aa.t) r0) (aj rfl bb)) (ae (gu rfl) (nS ?_))
  refine cv hres rfl ?_ ?_ <;> clear hres <;> intro c hres <;> try simp only [qa] at c
  ·refine ah (mV rfl (ae (bm rfl) (ae (cm (k := 0) a8 rfl rfl (aa.g_Value a9)) (ae (bm rfl) (ae (cm (k := 0) a8 rfl rfl (aa.g_Mask a9)) (ae (ay (a := bd ((ix x0 a3).Value)) (b := bd ((ix x0 a3).Mask)) rfl rfl og) (ae (bm rfl) (ae (cm (k := 0) a8 rfl rfl (aa.g_Mask a9)) ?_))))))))
   refine ae (v := .agg [bd (((ix x0 a3).Value) &&& ((ix x0 a3).Mask)), bd ((ix x0 a3).Mask)]) (kh (cs := [bd (((ix x0 a3).Value) &&& ((ix x0 a3).Mask)), bd ((ix x0 a3).Mask)]) rfl rfl) (ae (v := .fs true [.agg [bd (((ix x0 a3).Value) &&& ((ix x0 a3).Mask)), bd ((ix x0 a3).Mask)]]) (fm rfl (all_cons rfl jn)) ?_)
   have c9 : (tSl aa.t).R ([({ Value := (((ix x0 a3).Value) &&& ((ix x0 a3).Mask)), Mask := (ix x0 a3).Mask } : aa)] : List aa) (.fs true [.agg [bd (((ix x0 a3).Value) &&& ((ix x0 a3).Mask)), bd ((ix x0 a3).Mask)]]) := rh ⟨rfl, trivial⟩ (by simp)
   obtain ⟨b0, b4, b2⟩ := qc (t := aa.t) (h := c2) c9
   have c1 : fits (a0.length + b0.length) 16 = true := by rw [All2.length_eq a5, All2.length_eq b2]; (try simp only [List.length_cons, List.length_nil]); exact kx (by omega) (by omega)
   refine lh (k := 1) (es := a0) (news := b0) a8 rfl rfl rfl a7 a4 b4 c1 (fun d1 d5 c3 b9 c6 => ?_)
   have b8 : All2 aa.t.R (a1 ++ ([({ Value := (((ix x0 a3).Value) &&& ((ix x0 a3).Mask)), Mask := (ix x0 a3).Mask } : aa)] : List aa)) (a0 ++ b0) := All2.app a5 b2
   have c0 : (a1 ++ ([({ Value := (((ix x0 a3).Value) &&& ((ix x0 a3).Mask)), Mask := (ix x0 a3).Mask } : aa)] : List aa)).length ≤ 4611686018427387904 := by rw [← All2.length_eq b8, List.length_append]; exact ny c1
   refine mV rfl (aw (da (ai (ah (bN dp rfl rfl (mV rfl (aw (cf ?_))))))))
   have hbd := df r0
   have hinc : wr (a3 + 1) = a3 + 1 := dg (by omega) (by omega)
   erw [hinc]
   exact wC (ih  b8 c3 b9 c0 (by omega) (by omega) (by ((simp only [List.length_append, List.length_cons, List.length_nil, List.length_set]; omega))) (Mem.sub c6 (.cons _ (.cons_cons _ .slnil))) hres) rfl
  ·refine ax (da (ai (ah (bN dp rfl rfl (mV rfl (aw (cf ?_)))))))
   have hbd := df r0
   have hinc : wr (a3 + 1) = a3 + 1 := dg (by omega) (by omega)
   erw [hinc]
   exact wC (ih  a5 a7 a4 a6 (by omega) (by omega) (by omega) (Mem.sub a8 (.cons _ (.cons_cons _ .slnil))) hres) rfl

theorem cy4 {x0 : List aa} {v0 : PV} (r0 : (tSl aa.t).R x0 v0) (hl : x0.length ≤ 1000000) : ∃ r, FnR Tryz.prog 124 [v0] r ∧ (tSl aa.t).R (pg x0) r := by
 refine fnT (R := RF124) bq1 rfl fun res hres => ?_
 unfold pg at hres
 refine sR (ae (v := nilS) (aq rfl) (nR (ae (v := nilS) (aq rfl) (nS (af (sR (mV rfl (ae (cg rfl (bq r0 Tryz.underlying96 _)) ?_))))))))
 refine mI rfl (nS (bc ?_))
 have b0 := ml (sz := 2) (es := []) (Mem.nil ⟨0, []⟩) 99 (.inl ⟨none, rfl, rfl⟩) (by simp)
 refine wC (wy r0 hl ?_  aL rfl (.inl rfl) (by decide) rfl (by omega) (by ((simp; done))) (Mem.sub b0 (.cons_cons _ .slnil)) hres) rfl
 ·intro a3 a4 a6 a2 a1 a5 a0 b1 a9 hres
  refine dv (ai (sR (mV rfl (mV rfl (nS ?_)))))
  obtain ⟨b2, a7, a8⟩ := tw (P := Tryz.prog) (k := 0) (t := aa.t) a9 rfl a1 a2 (Nat.le_trans a0 (by decide))
  subst hres
  exact dk (.tmp rfl .nil) a7 a8

def RF99 (res : (List aa) × Int) (r : PV) : Prop := ∃ c0, r = .tup [c0, vi res.2] ∧ (tSl aa.t).R res.1 c0
theorem cp0 {x0 : List aa} {v0 : PV} (r0 : (tSl aa.t).R x0 v0) (hl : x0.length ≤ 1000000) : ∃ c0, FnR Tryz.prog 99 [v0] (.tup [c0, vi ((fw x0).2)]) ∧ (tSl aa.t).R (fw x0).1 c0 := by
 obtain ⟨res, hres⟩ : ∃ res, fw x0 = res := ⟨_, rfl⟩
 suffices H : RC Tryz.prog ej5 [] (QR Tryz.prog [(2, none), (3, none)] (RF99 res)) (argE 0 [v0]) ⟨0, []⟩ by
  rw [hres]
  obtain ⟨r, h1, c0, rfl, a4⟩ := fnE ch0 (by simp) H
  exact ⟨c0, h1, a4⟩
 unfold fw at hres
 refine sR (ae (v := nilS) (aq rfl) (mI rfl (nR (mV rfl ?_))))
 obtain ⟨a5, a1, hres⟩ := cw hres
 obtain ⟨a2, a3, a0⟩ := cy4  r0 (by assumption)
 rw [a1] at a0
 refine cL a3 rfl rfl (aj (TR.clo (tSl aa.t) r0) bb) (mV rfl (nS (af (sR (mV rfl (ae (cg rfl (bq a0 Tryz.underlying96 _)) (bN gh rfl rfl (nS ?_))))))))
 refine cv hres rfl ?_ ?_ <;> clear hres <;> intro c hres <;> try simp only [qa] at c
 ·refine sR (ae (v := nilS) (aq rfl) (mI rfl (nS ?_)))
  subst hres
  exact dk (.tmp rfl (.tmp rfl .nil)) (cd (show closed (.tup _) = true from (aj (TR.clo (tSl aa.t) fg) (aj rfl bb)))) ⟨nilS, rfl, fg⟩
 ·refine ax (ai (sR (mV rfl (mV rfl (mI rfl (nS ?_))))))
  subst hres
  exact dk (.tmp rfl (.tmp rfl .nil)) (cd (show closed (.tup _) = true from (aj (TR.clo (tSl aa.t) a0) (aj rfl bb)))) ⟨a2, rfl, a0⟩

def RF100 (res : (List aa)) (r : PV) : Prop := (tSl aa.t).R res r
theorem xd {S : List Fr} {res : (List aa)} {x0 : List aa} {x1 : Int} {v0 : PV} (r0 : (tSl aa.t).R x0 v0) (hw : x1 ≤ 64) (h0 : 0 ≤ x1) (hl : x0.length ≤ 1000000) {K0 : (List aa) → (List aa)}
  (d0 : ∀ {a2 : List aa} {a1 : List PV} {a3 : PV} (a5 : All2 aa.t.R a2 a1) (a7 : isL a3 = true) (a4 : Wri a3 a1) (a6 : a2.length ≤ 4611686018427387904) {h : Heap} (M0 : Mem h [⟨a3, 99, 2, a1⟩]), K0 a2 = res → PX Tryz.prog 0 S (QR Tryz.prog [(4, none)] (RF100 res)) [(6, a3)] h) :
  ∀ {m : Nat} {a0 : Int} {a2 : List aa} {a1 : List PV} {a3 : PV} (a5 : All2 aa.t.R a2 a1) (a7 : isL a3 = true) (a4 : Wri a3 a1) (a6 : a2.length ≤ 4611686018427387904) (c8 : m = Int.toNat ((x0.length : Int) - a0)) (b4 : 0 ≤ a0) (b1 : (a2.length : Int) ≤ a0) {h : Heap} (M0 : Mem h [⟨a3, 99, 2, a1⟩]), je x0 x1 K0 m a0 a2 = res → RC Tryz.prog (.loop cd5) S (QR Tryz.prog [(4, none)] (RF100 res)) [(15, vi a0), (14, vi (x0.length : Int)), (13, v0), (6, a3), (5, bd (18446744073709551615#64 >>> (wr (64 - x1)).toNat))] h := by
 intro m
 induction m with
 | zero =>
  intro a0 a2 a1 a3 a5 a7 a4 a6 c8 b4 b1 h M0 hres
  rw [je] at hres
  refine bp (sR (bN cj rfl rfl (nS (af ?_))))
  refine bf rfl ?_ ?_ <;> intro c <;> try simp only [qa] at c
  ·omega
  refine db (dn (cq ?_))
  exact wP (d0 a5 a7 a4 a6 (Mem.sub M0 (.cons_cons _ .slnil)) hres) rfl
 | succ m ih =>
  intro a0 a2 a1 a3 a5 a7 a4 a6 c8 b4 b1 h M0 hres
  rw [je] at hres
  refine bp (sR (bN cj rfl rfl (nS (af ?_))))
  refine bf rfl ?_ ?_ <;> intro c <;> try simp only [qa] at c
  rotate_left
  ·omega
  refine ax (ai (af (bc (sR ?_))))
  obtain ⟨b7, c6, b0⟩ := ct (i := a0) r0 (by omega) (by omega)
  refine ae (bg rfl rfl c6) (lD b0 rfl rfl rfl ?_)
  refine dh (x := .agg [bd 0#64, bd 0#64]) M0 rfl rfl (fun c2 c4 d2 c5 => ?_)
  refine de (k := 0) (v := b7) c5 rfl rfl rfl (TR.cnt aa.t b0) (fun c0 a8 => ?_)
  replace a8 : Mem c0 [⟨.op c2 c4 0, 99, 2, [b7]⟩, ⟨a3, 99, 2, a1⟩] := a8
  refine nR (ae (bm rfl) (ae (cm (k := 0) a8 rfl rfl (aa.g_Mask b0)) (mV rfl (ae (ay (a := bd ((ix x0 a0).Mask)) (b := bd (18446744073709551615#64 >>> (wr (64 - x1)).toNat)) rfl rfl og) (mV rfl (nS (ah (mV rfl ?_))))))))
  refine ae (bm rfl) (ae (cm (k := 0) a8 rfl rfl (aa.g_Value b0)) (mV rfl (ae (ay (a := bd ((ix x0 a0).Value)) (b := bd (((ix x0 a0).Mask) &&& (18446744073709551615#64 >>> (wr (64 - x1)).toNat))) rfl rfl og) (mV rfl (ae (v := .agg [bd (((ix x0 a0).Value) &&& (((ix x0 a0).Mask) &&& (18446744073709551615#64 >>> (wr (64 - x1)).toNat))), bd (((ix x0 a0).Mask) &&& (18446744073709551615#64 >>> (wr (64 - x1)).toNat))]) (kh (cs := [bd (((ix x0 a0).Value) &&& (((ix x0 a0).Mask) &&& (18446744073709551615#64 >>> (wr (64 - x1)).toNat))), bd (((ix x0 a0).Mask) &&& (18446744073709551615#64 >>> (wr (64 - x1)).toNat))]) rfl rfl) (ae (v := .fs true [.agg [bd (((ix x0 a0).Value) &&& (((ix x0 a0).Mask) &&& (18446744073709551615#64 >>> (wr (64 - x1)).toNat))), bd (((ix x0 a0).Mask) &&& (18446744073709551615#64 >>> (wr (64 - x1)).toNat))]]) (fm rfl (all_cons rfl jn)) ?_))))))
  have c1 : (tSl aa.t).R ([({ Value := (((ix x0 a0).Value) &&& (((ix x0 a0).Mask) &&& (18446744073709551615#64 >>> (wr (64 - x1)).toNat))), Mask := (((ix x0 a0).Mask) &&& (18446744073709551615#64 >>> (wr (64 - x1)).toNat)) } : aa)] : List aa) (.fs true [.agg [bd (((ix x0 a0).Value) &&& (((ix x0 a0).Mask) &&& (18446744073709551615#64 >>> (wr (64 - x1)).toNat))), bd (((ix x0 a0).Mask) &&& (18446744073709551615#64 >>> (wr (64 - x1)).toNat))]]) := rh ⟨rfl, trivial⟩ (by simp)
  obtain ⟨a9, b8, b2⟩ := qc (t := aa.t) (h := c0) c1
  have b3 : fits (a1.length + a9.length) 16 = true := by rw [All2.length_eq a5, All2.length_eq b2]; (try simp only [List.length_cons, List.length_nil]); exact kx (by omega) (by omega)
  refine lh (k := 1) (es := a1) (news := a9) a8 rfl rfl rfl a7 a4 b8 b3 (fun c9 d1 c7 b9 c3 => ?_)
  have b6 : All2 aa.t.R (a2 ++ ([({ Value := (((ix x0 a0).Value) &&& (((ix x0 a0).Mask) &&& (18446744073709551615#64 >>> (wr (64 - x1)).toNat))), Mask := (((ix x0 a0).Mask) &&& (18446744073709551615#64 >>> (wr (64 - x1)).toNat)) } : aa)] : List aa)) (a1 ++ a9) := All2.app a5 b2
  have b5 : (a2 ++ ([({ Value := (((ix x0 a0).Value) &&& (((ix x0 a0).Mask) &&& (18446744073709551615#64 >>> (wr (64 - x1)).toNat))), Mask := (((ix x0 a0).Mask) &&& (18446744073709551615#64 >>> (wr (64 - x1)).toNat)) } : aa)] : List aa)).length ≤ 4611686018427387904 := by rw [← All2.length_eq b6, List.length_append]; exact ny b3
  refine mV rfl (aw (da (ai (ah (bN dp rfl rfl (mV rfl (aw (cf ?_))))))))
  have hbd := df r0
  have hinc : wr (a0 + 1) = a0 + 1 := dg (by omega) (by omega)
  erw [hinc]
  exact wC (ih  b6 c7 b9 b5 (by omega) (by omega) (by ((simp only [List.length_append, List.length_cons, List.length_nil, List.length_set]; omega))) (Mem.sub c3 (.cons _ (.cons_cons _ .slnil))) hres) rfl

theorem cw4 {x0 : List aa} {x1 : Int} {v0 : PV} (r0 : (tSl aa.t).R x0 v0) (hw : x1 ≤ 64) (h0 : 0 ≤ x1) (hl : x0.length ≤ 1000000) : ∃ r, FnR Tryz.prog 100 [v0, vi x1] r ∧ (tSl aa.t).R (lf x0 x1) r := by
 refine fnT (R := RF100) bq8 rfl fun res hres => ?_
 unfold lf at hres
 refine sR (ae (v := nilS) (aq rfl) (nR (mV rfl (bN vv rfl rfl (ae (ay (a := bd 18446744073709551615#64) (b := vi (wr (64 - x1))) rfl rfl (az5 (by ((rw [dg (by omega) (by omega)]; omega))))) (mV rfl (nR (ae (v := nilS) (aq rfl) ?_))))))))
 refine nS (af (sR (mV rfl (ae (cg rfl (bq r0 Tryz.underlying96 _)) (mI rfl (nS (bc ?_)))))))
 have a8 := ml (sz := 2) (es := []) (Mem.nil ⟨0, []⟩) 99 (.inl ⟨none, rfl, rfl⟩) (by simp)
 refine wC (xd r0 hw h0 hl ?_  aL rfl (.inl rfl) (by decide) rfl (by omega) (by ((simp; done))) (Mem.sub a8 (.cons_cons _ .slnil)) hres) rfl
 ·intro a5 a3 a6 a2 a1 a4 a0 b2 b0 hres
  refine dv (ai (sR (mV rfl (mV rfl (nS ?_)))))
  obtain ⟨b1, a7, a9⟩ := tw (P := Tryz.prog) (k := 0) (t := aa.t) b0 rfl a1 a2 (Nat.le_trans a0 (by decide))
  subst hres
  exact dk (.tmp rfl .nil) a7 a9

def RF125 (res : Bool) (r : PV) : Prop := r = vb res
theorem cq4 {x0 : Int} : FnR Tryz.prog 125 [vi x0] (vb (ri x0)) := by
 refine fnS (R := RF125) bs5 (fun _ h => h) rfl fun res hres => ?_
 unfold ri at hres
 refine sR (mB rfl (nR (mV rfl (bN se rfl rfl (mV rfl ?_)))))
 refine bw 3 (d := 8) (v := vb ((decide (1 ≤ x0)) && (decide (x0 ≤ 64)))) ?_ ?_
 ·intro S Q r
  cases a1 : (decide (1 ≤ x0))
  ·exact gN 2 rfl rfl rfl rfl rfl rfl
  ·intro k
   have a0 := a1
   try simp only [qa] at a0
   refine ak rfl rfl (aq rfl) (ak rfl rfl (ay rfl rfl bb9) ?_)
   exact gK rfl rfl rfl rfl rfl k
 refine mV rfl (nS ?_)
 exact rR hres rfl rfl rfl

def RF126 (res : (BitVec 64)) (r : PV) : Prop := r = bd res
theorem bn0 {x0 : Int} (hw : x0 ≤ 64) (h0 : 0 ≤ x0) : FnR Tryz.prog 126 [vi x0] (bd (dy x0)) := by
 refine fnS (R := RF126) bp9 (fun _ h => h) rfl fun res hres => ?_
 unfold dy at hres
 refine sR (ae (v := bd 0#64) (aq rfl) (nR (mV rfl (bN vv rfl rfl (ae (ay (a := bd 18446744073709551615#64) (b := vi (wr (64 - x0))) rfl rfl (az5 (by ((rw [dg (by omega) (by omega)]; omega))))) (mV rfl (nS ?_)))))))
 exact rR hres rfl rfl rfl

def RF127 (res : aa) (r : PV) : Prop := aa.t.R res r
theorem br0 {x0 : aa} {v0 : PV} (r0 : aa.t.R x0 v0) : ∃ r, FnR Tryz.prog 127 [v0] r ∧ aa.t.R (en x0) r := by
 refine fnT (R := RF127) bl4 rfl fun res hres => ?_
 unfold en at hres
 refine sR (ae (di rfl (TR.cnt aa.t r0)) ?_)
 refine dh (x := .agg [bd 0#64, bd 0#64]) (Mem.nil ⟨0, []⟩) rfl rfl (fun a4 a1 a5 a2 => ?_)
 refine nR (fL rfl (aa.g_Value r0) rfl rfl (fL rfl (aa.g_Mask r0) rfl rfl (ae (ay (a := bd x0.Value) (b := bd x0.Mask) rfl rfl og) (fL rfl (aa.g_Mask r0) rfl rfl (ae (v := .agg [bd (x0.Value &&& x0.Mask), bd x0.Mask]) (kh (cs := [bd (x0.Value &&& x0.Mask), bd x0.Mask]) rfl rfl) ?_)))))
 refine de (k := 0) (v := .agg [bd (x0.Value &&& x0.Mask), bd x0.Mask]) a2 rfl rfl rfl rfl (fun a3 a0 => ?_)
 replace a0 : Mem a3 [⟨.op a4 a1 0, 99, 2, [.agg [bd (x0.Value &&& x0.Mask), bd x0.Mask]]⟩] := a0
 refine nS ?_
 subst hres
 exact dk (.cell rfl (ie (k := 0) a0 rfl rfl) .nil) (cd (TR.clo aa.t (show aa.t.R ({ Value := (x0.Value &&& x0.Mask), Mask := x0.Mask } : aa) (.agg [bd (x0.Value &&& x0.Mask), bd x0.Mask]) from rfl))) (show aa.t.R ({ Value := (x0.Value &&& x0.Mask), Mask := x0.Mask } : aa) (.agg [bd (x0.Value &&& x0.Mask), bd x0.Mask]) from rfl)

def RF128 (res : aa × Bool) (r : PV) : Prop := ∃ c0, r = .tup [c0, vb res.2] ∧ aa.t.R res.1 c0
theorem cx6 {x0 : aa} {x1 : aa} {v0 v1 : PV} (r0 : aa.t.R x0 v0) (r1 : aa.t.R x1 v1) : ∃ c0, FnR Tryz.prog 128 [v0, v1] (.tup [c0, vb ((ii x0 x1).2)]) ∧ aa.t.R (ii x0 x1).1 c0 := by
 obtain ⟨res, hres⟩ : ∃ res, ii x0 x1 = res := ⟨_, rfl⟩
 suffices H : RC Tryz.prog dl5 [] (QR Tryz.prog [(4, some (2, true)), (5, none)] (RF128 res)) (argE 0 [v0, v1]) ⟨0, []⟩ by
  rw [hres]
  obtain ⟨r, h1, c0, rfl, a8⟩ := fnE bl3 (by simp) H
  exact ⟨c0, h1, a8⟩
 unfold ii at hres
 refine sR (ae (di rfl (TR.cnt aa.t r0)) (ae (di rfl (TR.cnt aa.t r1)) ?_))
 refine dh (x := .agg [bd 0#64, bd 0#64]) (Mem.nil ⟨0, []⟩) rfl rfl (fun a3 a2 a7 a4 => ?_)
 refine mB rfl (nS (af (sR (fL rfl (aa.g_Value r0) rfl rfl (fL rfl (aa.g_Value r1) rfl rfl (ae (ay (a := bd x0.Value) (b := bd x1.Value) rfl rfl by9) (fL rfl (aa.g_Mask r0) rfl rfl (ae (ay (a := bd (x0.Value ^^^ x1.Value)) (b := bd x0.Mask) rfl rfl og) ?_))))))))
 refine fL rfl (aa.g_Mask r1) rfl rfl (ae (ay (a := bd ((x0.Value ^^^ x1.Value) &&& x0.Mask)) (b := bd x1.Mask) rfl rfl og) (ae (ay (a := bd (((x0.Value ^^^ x1.Value) &&& x0.Mask) &&& x1.Mask)) (b := bd 0#64) rfl rfl ay5) (nS ?_)))
 refine cv hres rfl ?_ ?_ <;> clear hres <;> intro c hres <;> try simp only [qa] at c
 ·refine sR (ae (v := .agg [bd 0#64, bd 0#64]) (kh (cs := [bd 0#64, bd 0#64]) rfl rfl) ?_)
  refine de (k := 0) (v := .agg [bd 0#64, bd 0#64]) a4 rfl rfl rfl rfl (fun a6 a1 => ?_)
  replace a1 : Mem a6 [⟨.op a3 a2 0, 99, 2, [.agg [bd 0#64, bd 0#64]]⟩] := a1
  refine mB rfl (nS ?_)
  subst hres
  exact dk (.cell rfl (ie (k := 0) a1 rfl rfl) (.tmp rfl .nil)) (cd (show closed (.tup _) = true from (aj (TR.clo aa.t (show aa.t.R ({ Value := 0#64, Mask := 0#64 } : aa) (.agg [bd 0#64, bd 0#64]) from rfl)) (aj rfl bb)))) ⟨.agg [bd 0#64, bd 0#64], rfl, rfl⟩
 ·refine ax (ai (sR (fL rfl (aa.g_Value r0) rfl rfl (fL rfl (aa.g_Mask r0) rfl rfl (ae (ay (a := bd x0.Value) (b := bd x0.Mask) rfl rfl og) (fL rfl (aa.g_Value r1) rfl rfl (fL rfl (aa.g_Mask r1) rfl rfl (ae (ay (a := bd x1.Value) (b := bd x1.Mask) rfl rfl og) ?_))))))))
  refine ae (ay (a := bd (x0.Value &&& x0.Mask)) (b := bd (x1.Value &&& x1.Mask)) rfl rfl d_or) (fL rfl (aa.g_Mask r0) rfl rfl (fL rfl (aa.g_Mask r1) rfl rfl (ae (ay (a := bd x0.Mask) (b := bd x1.Mask) rfl rfl d_or) (ae (v := .agg [bd ((x0.Value &&& x0.Mask) ||| (x1.Value &&& x1.Mask)), bd (x0.Mask ||| x1.Mask)]) (kh (cs := [bd ((x0.Value &&& x0.Mask) ||| (x1.Value &&& x1.Mask)), bd (x0.Mask ||| x1.Mask)]) rfl rfl) ?_))))
  refine de (k := 0) (v := .agg [bd ((x0.Value &&& x0.Mask) ||| (x1.Value &&& x1.Mask)), bd (x0.Mask ||| x1.Mask)]) a4 rfl rfl rfl rfl (fun a5 a0 => ?_)
  replace a0 : Mem a5 [⟨.op a3 a2 0, 99, 2, [.agg [bd ((x0.Value &&& x0.Mask) ||| (x1.Value &&& x1.Mask)), bd (x0.Mask ||| x1.Mask)]]⟩] := a0
  refine mB rfl (nS ?_)
  subst hres
  exact dk (.cell rfl (ie (k := 0) a0 rfl rfl) (.tmp rfl .nil)) (cd (show closed (.tup _) = true from (aj (TR.clo aa.t (show aa.t.R ({ Value := ((x0.Value &&& x0.Mask) ||| (x1.Value &&& x1.Mask)), Mask := (x0.Mask ||| x1.Mask) } : aa) (.agg [bd ((x0.Value &&& x0.Mask) ||| (x1.Value &&& x1.Mask)), bd (x0.Mask ||| x1.Mask)]) from rfl)) (aj rfl bb)))) ⟨.agg [bd ((x0.Value &&& x0.Mask) ||| (x1.Value &&& x1.Mask)), bd (x0.Mask ||| x1.Mask)], rfl, rfl⟩

theorem cm5 {P : Program} {l : List UInt8} {ty : TypeId} {k : IntKind} {i : Int} (ht : P.underlying ty = some .string) (h0 : 0 ≤ i) (h1 : i < l.length) : indexSR P ty (vs l) (.sc (.int k i)) = some (vu8 (ix l i)) := by
 have h2 : i.toNat < l.length := by omega
 have h3 : (⟨l.toArray⟩ : ByteArray)[i.toNat]? = some l[i.toNat] := by
  rw [getElem?_pos (⟨l.toArray⟩ : ByteArray) i.toNat (by simpa [ByteArray.size] using h2)]
  rfl
 simp only [indexSR, toV, Instr.index, asIntOf, underlying, program, bind, Sem.bind, Sem.instMonad, pure, pureRun, ht]
 rw [if_pos h0, h3, rx h0 h1]
 rfl
def tabL : List UInt8 := [0, 1, 2, 2, 3, 3, 3, 3, 4, 4, 4, 4, 4, 4, 4, 4, 5, 5, 5, 5, 5, 5, 5, 5, 5, 5, 5, 5, 5, 5, 5, 5, 6, 6, 6, 6, 6, 6, 6, 6, 6, 6, 6, 6, 6, 6, 6, 6, 6, 6, 6, 6, 6, 6, 6, 6, 6, 6, 6, 6, 6, 6, 6, 6, 7, 7, 7, 7, 7, 7, 7, 7, 7, 7, 7, 7, 7, 7, 7, 7, 7, 7, 7, 7, 7, 7, 7, 7, 7, 7, 7, 7, 7, 7, 7, 7, 7, 7, 7, 7, 7, 7, 7, 7, 7, 7, 7, 7, 7, 7, 7, 7, 7, 7, 7, 7, 7, 7, 7, 7, 7, 7, 7, 7, 7, 7, 7, 7, 8, 8, 8, 8, 8, 8, 8, 8, 8, 8, 8, 8, 8, 8, 8, 8, 8, 8, 8, 8, 8, 8, 8, 8, 8, 8, 8, 8, 8, 8, 8, 8, 8, 8, 8, 8, 8, 8, 8, 8, 8, 8, 8, 8, 8, 8, 8, 8, 8, 8, 8, 8, 8, 8, 8, 8, 8, 8, 8, 8, 8, 8, 8, 8, 8, 8, 8, 8, 8, 8, 8, 8, 8, 8, 8, 8, 8, 8, 8, 8, 8, 8, 8, 8, 8, 8, 8, 8, 8, 8, 8, 8, 8, 8, 8, 8, 8, 8, 8, 8, 8, 8, 8, 8, 8, 8, 8, 8, 8, 8, 8, 8, 8, 8, 8, 8, 8, 8, 8, 8, 8, 8, 8, 8, 8, 8, 8, 8]
theorem cp7 : ∀ i : Fin 256, ((ix tabL (i.val : Int)).toNat : Int) = cn (BitVec.ofNat 64 i.val) := by decide +kernel
theorem dg3 {a : BitVec 64} {s : Nat} (h : 2 ^ s ≤ a.toNat) : cn a = s + cn (a >>> s) := by
 have h0 := Nat.two_pow_pos s
 have hd : (a >>> s).toNat = a.toNat / 2 ^ s := by rw [BitVec.toNat_ushiftRight, Nat.shiftRight_eq_div_pow]
 have hp : 0 < a.toNat / 2 ^ s := Nat.div_pos h h0
 have e1 : a ≠ 0#64 := fun e => by rw [e] at h; simp at h
 have e2 : a >>> s ≠ 0#64 := fun e => by rw [e] at hd; simp at hd; omega
 unfold cn
 rw [if_neg e1, if_neg e2, hd]
 have key : a.toNat.log2 = s + (a.toNat / 2 ^ s).log2 := by
  have q1 := Nat.log2_self_le (n := a.toNat / 2 ^ s) (by omega)
  have q2 := Nat.lt_log2_self (n := a.toNat / 2 ^ s)
  have n0 : a.toNat ≠ 0 := by omega
  have b1 : s + (a.toNat / 2 ^ s).log2 ≤ a.toNat.log2 := by
   rw [Nat.le_log2 n0, Nat.pow_add]
   calc 2 ^ s * 2 ^ (a.toNat / 2 ^ s).log2 ≤ 2 ^ s * (a.toNat / 2 ^ s) := Nat.mul_le_mul_left _ q1
    _ ≤ a.toNat := Nat.mul_div_le _ _
  have b2 : a.toNat.log2 < s + (a.toNat / 2 ^ s).log2 + 1 := by
   rw [Nat.log2_lt n0, Nat.add_assoc, Nat.pow_add, Nat.mul_comm]
   exact (Nat.div_lt_iff_lt_mul h0).1 q2
  omega
 rw [key]
 omega
theorem cp9 {x0 : BitVec 64} : FnR Tryz.prog 129 [bd x0] (vi (cn x0)) := by
 generalize hres : cn x0 = res
 obtain ⟨r, h1, rfl⟩ : ∃ r, FnR Tryz.prog 129 [bd x0] r ∧ r = vi res := by
  refine fnE bm5 (by simp) ?_
  have step : ∀ {a : BitVec 64} {n : Int} {s : Nat}, n + cn a = res → (BitVec.ofNat 64 (2 ^ s)) ≤ a → s < 64 → (n + s) + cn (a >>> s) = res := by
   intro a n s h hle hs
   have h2 : 2 ^ s ≤ a.toNat := by
    have h3 : (BitVec.ofNat 64 (2 ^ s)).toNat ≤ a.toNat := hle
    rw [BitVec.toNat_ofNat, Nat.mod_eq_of_lt (Nat.pow_lt_pow_right (by decide) hs)] at h3
    exact h3
   rw [dg3 h2] at h
   omega
  refine af (ah (ae (v := vi 0) (aq rfl) (aw (ai (af ?_)))))
  refine wh (F := fun b S Q => ∀ {a : BitVec 64} {n : Int}, n + cn a = res → a.toNat < 2 ^ 32 → 0 ≤ n → n ≤ 32 → RC Tryz.prog b S Q [(2, vi n), (0, bd a)] ⟨0, []⟩) ?_ ?_
  ·intro a n hn hb n0 n1
   refine af ?_
   refine wh (F := fun b S Q => ∀ {a : BitVec 64} {n : Int}, n + cn a = res → a.toNat < 2 ^ 16 → 0 ≤ n → n ≤ 48 → RC Tryz.prog b S Q [(2, vi n), (0, bd a)] ⟨0, []⟩) ?_ ?_
   ·clear hn hb n0 n1
    intro a n hn hb n0 n1
    refine af ?_
    refine wh (F := fun b S Q => ∀ {a : BitVec 64} {n : Int}, n + cn a = res → a.toNat < 2 ^ 8 → 0 ≤ n → n ≤ 56 → RC Tryz.prog b S Q [(2, vi n), (0, bd a)] ⟨0, []⟩) ?_ ?_
    ·clear hn hb n0 n1
     intro a n hn hb n0 n1
     have hw : IntKind.u8.wrap (a.toNat : Int) = (a.toNat : Int) := by
      have : (a.toNat : Int) < 256 := by omega
      simp only [IntKind.wrap, IntKind.bits, IntKind.signed]
      simp
      omega
     have hc : convR Tryz.prog 97 5 (bd a) = some (.sc (.int .u8 (a.toNat : Int))) := by
      rw [← hw]; exact vw Tryz.underlying97 Tryz.underlying5
     have ht := cp7 ⟨a.toNat, hb⟩
     simp only [BitVec.ofNat_toNat, BitVec.setWidth_eq] at ht
     refine af (ah (mV rfl (mV rfl (ae (qw rfl hc) (ae (sf (a := vs tabL) rfl rfl (cm5 Tryz.underlying9 (by omega) (by show (a.toNat : Int) < 256; omega))) (ae (qw rfl (c_yi Tryz.underlying5 Tryz.underlying3)) ?_))))))
     rw [ht]
     have hwr : wr (n + cn a) = n + cn a := by
      have h1 : ((ix tabL (a.toNat : Int)).toNat : Int) < 256 := by have := (ix tabL (a.toNat : Int)).toNat_lt; omega
      exact dg (by omega) (by omega)
     refine ae (v := vi (n + cn a)) (ay rfl rfl (by rw [← hwr]; exact dp)) (mV rfl (aw (ai ?_)))
     exact dk (.tmp rfl .nil) (cd rfl) (by rw [hn]; rfl)
    ·intro J
     refine af (ah (mV rfl (ae (ay (b := bd 256#64) rfl rfl cf5) (aw (ai (bf rfl (fun hc => ?_) fun hc => ?_))))))
     ·simp only [decide_eq_true_eq] at hc
      have hwr : wr (n + 8) = n + 8 := dg (by omega) (by omega)
      refine af (ah (mV rfl (ae (ay rfl rfl (az5 (y := 8) (by decide))) (mV rfl (aw (ai ?_))))))
      refine ah (mV rfl (ae (v := vi (n + 8)) (ay rfl rfl (by rw [← hwr]; exact dp)) (mV rfl (aw (ai ?_)))))
      exact wC (J (a := a >>> 8) (n := n + 8) (step (s := 8) hn hc (by decide)) (by rw [BitVec.toNat_ushiftRight, Nat.shiftRight_eq_div_pow]; omega) (by omega) (by omega)) rfl
     ·simp only [decide_eq_false_iff_not] at hc
      have hc : ¬(256#64).toNat ≤ a.toNat := hc
      refine ax (ai (mb ?_ (J hn (by simp at hc; omega) n0 (by omega))))
      exact (sB rfl)
   ·intro J
    refine af (ah (mV rfl (ae (ay (b := bd 65536#64) rfl rfl cf5) (aw (ai (bf rfl (fun hc => ?_) fun hc => ?_))))))
    ·simp only [decide_eq_true_eq] at hc
     have hwr : wr (n + 16) = n + 16 := dg (by omega) (by omega)
     refine af (ah (mV rfl (ae (ay rfl rfl (az5 (y := 16) (by decide))) (mV rfl (aw (ai ?_))))))
     refine ah (mV rfl (ae (v := vi (n + 16)) (ay rfl rfl (by rw [← hwr]; exact dp)) (mV rfl (aw (ai ?_)))))
     exact wC (J (a := a >>> 16) (n := n + 16) (step (s := 16) hn hc (by decide)) (by rw [BitVec.toNat_ushiftRight, Nat.shiftRight_eq_div_pow]; omega) (by omega) (by omega)) rfl
    ·simp only [decide_eq_false_iff_not] at hc
     have hc : ¬(65536#64).toNat ≤ a.toNat := hc
     refine ax (ai (mb ?_ (J hn (by simp at hc; omega) n0 (by omega))))
     exact (sB rfl)
  ·intro J
   refine af (ah (mV rfl (ae (ay (b := bd 4294967296#64) rfl rfl cf5) (aw (ai (bf rfl (fun hc => ?_) fun hc => ?_))))))
   ·simp only [decide_eq_true_eq] at hc
    refine af (ah (mV rfl (ae (ay rfl rfl (az5 (y := 32) (by decide))) (mV rfl (aw (ai ?_))))))
    refine ah (ae (v := vi 32) (aq rfl) (aw (ai ?_)))
    exact wC (J (a := x0 >>> 32) (n := 32) (by have := step (s := 32) (n := 0) (a := x0) (by omega) hc (by decide); simpa using this) (by have := x0.isLt; rw [BitVec.toNat_ushiftRight, Nat.shiftRight_eq_div_pow]; omega) (by omega) (by omega)) rfl
   ·simp only [decide_eq_false_iff_not] at hc
    have hc : ¬(4294967296#64).toNat ≤ x0.toNat := hc
    refine ax (ai (mb ?_ (J (a := x0) (n := 0) (by omega) (by simp at hc; omega) (by omega) (by omega))))
    exact (sB rfl)
 exact h1

theorem dy7 {P : Program} {a : BitVec 64} : unR .xor P (bd a) = some (bd (~~~a)) := by
 have h : Op.intBits .xor .u64 (IntKind.u64.max) a.toNat = pure (.int .u64 ((~~~a).toNat : Int)) := by
  have := xa (k := .u64) rfl (op := .xor) (a := BitVec.allOnes 64) (b := a) (f := fun a b => a ^^^ b) rfl
  rw [show (IntKind.u64.max) = (((BitVec.allOnes 64).toNat : Nat) : Int) by rfl]
  refine this.trans ?_
  exact congrArg (fun z : BitVec 64 => (pure (Value.int .u64 (z.toNat : Int)) : Sem Value)) BitVec.allOnes_xor
 simp only [unR, toV, Op.unary, IntKind.signed, Bool.false_eq_true, if_false, h]
 rfl

def cbV (c : aa) : PV := .agg [bd c.Value, bd c.Mask]
theorem ae5 (c : aa) : aa.t.R c (cbV c) := rfl
theorem am7 {c : aa} {v : PV} (r : aa.t.R c v) : v = cbV c := r
def cbC (l : List aa) : List PV := l.flatMap fun c => [bd c.Value, bd c.Mask]
theorem wn : ∀ l : List aa, (cbC l).length = l.length * 2
 | [] => rfl
 | c :: l => by
  have ih := wn l
  show (bd c.Value :: bd c.Mask :: cbC l).length = _
  simp only [List.length_cons, ih]
  omega
theorem ai4 : ∀ l : List aa, rowCells (l.map cbV) = some (cbC l)
 | [] => rfl
 | c :: l => by
  have ih := ai4 l
  simp only [List.map_cons, rowCells, ih, cbV, PV.cellsOf]
  rfl
theorem db5 (l k : List aa) : cbC (l ++ k) = cbC l ++ cbC k := by simp [cbC]
theorem am3 : ∀ (l : List aa) (n : Nat), (cbC l).take (n * 2) = cbC (l.take n)
 | l, 0 => by simp [cbC]
 | [], n + 1 => by simp [cbC]
 | c :: l, n + 1 => by
  have ih := am3 l n
  show (bd c.Value :: bd c.Mask :: cbC l).take ((n + 1) * 2) = bd c.Value :: bd c.Mask :: cbC (l.take n)
  rw [show (n + 1) * 2 = n * 2 + 1 + 1 by omega, List.take_succ_cons, List.take_succ_cons, ih]
theorem bm4 : ∀ {l : List aa} {n : Nat} {c : aa}, n < l.length → spl (cbC l) (n * 2) [bd c.Value, bd c.Mask] = cbC (l.set n c)
 | [], n, c, h => by simp at h
 | a :: l, 0, c, h => by simp [cbC, spl]
 | a :: l, n + 1, c, h => by
  have ih := bm4 (l := l) (n := n) (c := c) (by simpa using h)
  have e : cbC (a :: l) = bd a.Value :: bd a.Mask :: cbC l := rfl
  rw [List.set_cons_succ, show cbC (a :: l.set n c) = bd a.Value :: bd a.Mask :: cbC (l.set n c) from rfl, ← ih, e]
  simp only [spl, show (n + 1) * 2 = n * 2 + 1 + 1 by omega, List.take_succ_cons, List.cons_append, List.length_cons, List.length_nil]
  rw [show n * 2 + 1 + 1 + (0 + 1 + 1) = n * 2 + (0 + 1 + 1) + 1 + 1 by omega, List.drop_succ_cons, List.drop_succ_cons]
theorem bx5 (l : List aa) : ∀ y ∈ l.map cbV, cnt y = some 2 := by
 intro y hy
 obtain ⟨c, _, rfl⟩ := List.mem_map.1 hy
 rfl
theorem av2 : ∀ l : List aa, All2 aa.t.R l (l.map cbV)
 | [] => trivial
 | c :: l => ⟨rfl, av2 l⟩
theorem ce1 {P : Program} {S : List Fr} {Q : Post} {E : TEnv} {h : Heap} {L : List Ent} {hf : Bool} {r : List AOper} {o o' : Operand} {k id ver n : Nat} {ty : TypeId} {sz : Nat} {l : List aa} {c : aa} (M : Mem h L) (eo : evE E o = some (.op id ver (0 + n * 2))) (ev' : evE E o' = some (cbV c)) (hk : L[k]? = some ⟨.op id ver 0, ty, sz, [.agg (cbC l)]⟩) (hn : n < l.length)
  (K : ∀ h', Mem h' (L.set k ⟨.op id ver 0, ty, sz, [.agg (cbC (l.set n c))]⟩) → RD P r S Q E h') : RD P (⟨none, .store 2 o o', none, hf⟩ :: r) S Q E h := by
 refine gw (off := n * 2) (k := k) (v := cbV c) (ds := [bd c.Value, bd c.Mask]) M eo ev' hk rfl rfl ?_ (fun h' M' => ?_)
 ·rw [wn]; simp only [List.length_cons, List.length_nil]; omega
 ·rw [bm4 hn] at M'
  exact K h' M'
theorem bn9 {E : TEnv} {h : Heap} {L : List Ent} {o hi mx : Operand} {lo : Option Operand} {k id ver sz : Nat} {x : PV} {n : Int} (M : Mem h L) (eo : evE E o = some (.op id ver 0)) (hk : L[k]? = some ⟨.op id ver 0, 155, sz, [x]⟩) (ha : Bnd E 0 lo 0) (hb : evE E hi = some (vi n)) (hm : evE E mx = some (vi n)) (h0 : 0 ≤ n) (h1 : n ≤ 64) :
  OV Tryz.prog (.sliceS 155 o lo (some hi) (some mx)) false E h (if n.toNat = 0 then .fs true [] else .os id ver 0 n.toNat) := ⟨rfl, fun T hT => by
 obtain ⟨_, x', cs, h2, h3, h4⟩ := M.atF hk
 have a0 : h.bl[id]? = some (.cells ver 155 true cs) := h4
 have e1 : boundF T 0 lo = some 0 := ha.eq hT (Int.le_refl 0)
 have e2 : boundF T 64 (some hi) = some n.toNat := by simp only [boundF, dw hT hb]; rw [if_pos h0]
 have e3 : boundF T 0 (some mx) = some n.toNat := by simp only [boundF, dw hT hm]; rw [if_pos h0]
 obtain ⟨nn, e4, e5⟩ : ∃ nn, Tryz.prog.info? 99 = some nn ∧ nn.size = 2 := ⟨_, rfl, rfl⟩
 show opQ Tryz.prog T h _ = _
 simp only [opQ, dw hT eo, a0, Tryz.underlying155, e4, e1, e2, e3, boundM, Option.map_some, e5]
 rw [if_pos ⟨trivial, trivial, by decide, by omega, by omega, by decide, by simp [okMaxF]; omega⟩]
 by_cases hz : n.toNat = 0
 ·rw [if_pos hz, if_pos (by omega), hz]; rfl
 ·rw [if_neg hz, if_neg (by omega)]; simp⟩
theorem dd9 {E : TEnv} {h : Heap} {L : List Ent} {o : Operand} {k id ver sz : Nat} {x : PV} (M : Mem h L) (eo : evE E o = some (.op id ver 0)) (hk : L[k]? = some ⟨.op id ver 0, 155, sz, [x]⟩) :
  OV Tryz.prog (.sliceS 155 o none none none) false E h (.os id ver 0 64) := ⟨rfl, fun T hT => by
 obtain ⟨_, x', cs, h2, h3, h4⟩ := M.atF hk
 have a0 : h.bl[id]? = some (.cells ver 155 true cs) := h4
 obtain ⟨nn, e4, e5⟩ : ∃ nn, Tryz.prog.info? 99 = some nn ∧ nn.size = 2 := ⟨_, rfl, rfl⟩
 show opQ Tryz.prog T h _ = _
 simp only [opQ, dw hT eo, a0, Tryz.underlying155, e4, boundF, boundM, e5]
 rw [if_pos ⟨trivial, trivial, by decide, by omega, by omega, by decide, rfl⟩, if_neg (by omega)]⟩
theorem di1 {a : BitVec 64} {n : Nat} (ha : a ≠ 0#64) (hn : a.toNat < 2 ^ n) (a0 : n ≤ 64) : 1 ≤ cn a ∧ cn a ≤ n ∧ (a &&& ~~~(1#64 <<< (cn a - 1).toNat)).toNat < 2 ^ (cn a - 1).toNat := by
 have h0 : a.toNat ≠ 0 := fun h => ha (BitVec.eq_of_toNat_eq (by simpa using h))
 have e : cn a = (a.toNat.log2 : Int) + 1 := by unfold cn; rw [if_neg ha]
 have hl : a.toNat.log2 < n := (Nat.log2_lt h0).2 hn
 rw [e]
 refine ⟨by omega, by omega, ?_⟩
 rw [show ((a.toNat.log2 : Int) + 1 - 1).toNat = a.toNat.log2 by omega]
 have hlt := Nat.lt_log2_self (n := a.toNat)
 generalize a.toNat.log2 = k at *
 apply Nat.lt_pow_two_of_testBit
 intro i hi
 show (a &&& ~~~(1#64 <<< k)).toNat.testBit i = false
 rw [BitVec.testBit_toNat, BitVec.getLsbD_and]
 by_cases hik : i = k
 ·subst hik
  rw [BitVec.getLsbD_not, BitVec.getLsbD_shiftLeft]
  by_cases h64 : i < 64
  ·simp [h64]
  ·simp [h64]
 ·have : a.getLsbD i = false := by
   rw [← BitVec.testBit_toNat]
   exact Nat.testBit_lt_two_pow (Nat.lt_of_lt_of_le hlt (Nat.pow_le_pow_right (by decide) (by omega)))
  rw [this]; rfl
theorem dd7 {S : List Fr} {Q : Post} {i4 w4 i9 w9 a0 a1 : Nat} {y : aa} {res : List aa} 
  (K : ∀ {h : Heap} {l : List aa} {R : PV}, res.length ≤ 64 → l.length = 64 → l.take res.length = res → Mem h [⟨.op a0 a1 0, 99, 2, [R]⟩, ⟨.op i9 w9 0, 155, 128, [.agg (cbC l)]⟩, ⟨.op i4 w4 0, 99, 2, [cbV y]⟩] → PX Tryz.prog 0 S Q [(10, vi (res.length : Int)), (9, .op i9 w9 0)] h) :
  ∀ (m : Nat) {n : Nat} {left : BitVec 64} {rest : aa} {l : List aa} {h : Heap}, m + n = 64 → left.toNat < 2 ^ m → l.length = 64 → l.take n ++ dz y m left rest = res → Mem h [⟨.op a0 a1 0, 99, 2, [cbV rest]⟩, ⟨.op i9 w9 0, 155, 128, [.agg (cbC l)]⟩, ⟨.op i4 w4 0, 99, 2, [cbV y]⟩] →
   RC Tryz.prog (.loop bb7) S Q [(12, bd left), (11, .op a0 a1 0), (10, vi (n : Int)), (9, .op i9 w9 0), (4, .op i4 w4 0)] h := by
 have stop : ∀ {m n : Nat} {left : BitVec 64} {rest : aa} {l : List aa} {h : Heap}, m + n = 64 → left = 0#64 → l.length = 64 → l.take n = res → Mem h [⟨.op a0 a1 0, 99, 2, [cbV rest]⟩, ⟨.op i9 w9 0, 155, 128, [.agg (cbC l)]⟩, ⟨.op i4 w4 0, 99, 2, [cbV y]⟩] →
   RC Tryz.prog (.loop bb7) S Q [(12, bd left), (11, .op a0 a1 0), (10, vi (n : Int)), (9, .op i9 w9 0), (4, .op i4 w4 0)] h := by
  intro m n left rest l h hm hz hl hp M
  subst hz
  refine bp ?_
  refine af (ah (mV rfl (ae (v := vb false) (ay (a := bd 0#64) (b := bd 0#64) rfl rfl ay5) (aw (ai (af (bf rfl (fun hc => by cases hc) fun hc => ?_)))))))
  have hr : res.length = n := by rw [← hp, List.length_take]; omega
  refine db (dn (cq (bm2 ?_ (K (by omega) hl (by rw [hr]; exact hp) M))))
  exact ky (by rw [hr]; rfl) (sB rfl)
 intro m
 induction m with
 | zero =>
  intro n left rest l h hm hb hl hp M
  have hz : left = 0#64 := BitVec.eq_of_toNat_eq (by simp only [BitVec.toNat_ofNat]; omega)
  exact stop hm hz hl (by simpa [dz] using hp) M
 | succ m ih =>
  intro n left rest l h hm hb hl hp M
  by_cases hz : left = 0#64
  ·rw [dz, if_pos hz, List.append_nil] at hp
   exact stop hm hz hl hp M
  ·rw [dz, if_neg hz] at hp
   obtain ⟨t1, t2, t3⟩ := di1 hz hb (by omega)
   refine bp ?_
   refine af (ah (mV rfl (ae (ay (b := bd 0#64) rfl rfl ay5) (aw (ai (af (bf rfl (fun hc => ?_) fun hc => ?_)))))))
   ·have a2 : wr (cn left - 1) = cn left - 1 := dg (by omega) (by omega)
    refine ax (ai (af (bc (af (ah (mV rfl (cL cp9 rfl rfl (aj rfl bb) (ae (v := vi (cn left - 1)) (ay rfl rfl (by rw [← a2]; exact vv)) ?_))))))))
    refine ae (ay (a := bd 1#64) rfl rfl (aj7 (y := cn left - 1) (by omega))) (mV rfl (aw (ai ?_)))
    generalize hbit : (1#64 <<< (cn left - 1).toNat) = bit at *
    refine af (ah (mV rfl (mV rfl (ae (ay rfl rfl ak5) (mV rfl (aw (ai ?_)))))))
    refine af (ah (ae (bm rfl) (ae (cm (k := 0) (off := 1) (w := bd rest.Mask) M rfl rfl rfl) (mV rfl (ae (ay rfl rfl d_or) (ae (bm rfl) ?_))))))
    refine gw (off := 1) (k := 0) (v := bd (rest.Mask ||| bit)) M rfl rfl rfl rfl rfl (by simp [cbV]) (fun h1 M1 => aw (ai ?_))
    replace M1 : Mem h1 [⟨.op a0 a1 0, 99, 2, [.agg [bd rest.Value, bd (rest.Mask ||| bit)]]⟩, ⟨.op i9 w9 0, 155, 128, [.agg (cbC l)]⟩, ⟨.op i4 w4 0, 99, 2, [cbV y]⟩] := M1
    refine af (ah (mV rfl (ae (bm rfl) (ae (cm (k := 0) (off := 0) (w := bd rest.Value) M1 rfl rfl rfl) (ae (bm rfl) (ae (cm (k := 2) (off := 0) (w := bd y.Value) M1 rfl rfl rfl) ?_))))))
    refine ae (ee3 rfl dy7) (mV rfl (ae (ay rfl rfl og) (ae (ay rfl rfl d_or) (ae (bm rfl) (ae (cm (k := 0) (off := 1) (w := bd (rest.Mask ||| bit)) M1 rfl rfl rfl) ?_)))))
    refine ae (v := cbV ({ Value := rest.Value ||| (~~~y.Value &&& bit), Mask := rest.Mask ||| bit } : aa)) (kh (cs := [bd (rest.Value ||| (~~~y.Value &&& bit)), bd (rest.Mask ||| bit)]) rfl rfl) (ae (ag7 (k := (n : Int)) rfl rfl (by omega) (by show (n : Int) < 64; omega)) ?_)
    refine ce1 (k := 1) (n := n) M1 (by show some (PV.op i9 w9 (0 + (n : Int).toNat * 2)) = _; rw [Int.toNat_natCast]) rfl rfl (by omega) (fun h2 M2 => aw (ai ?_))
    replace M2 : Mem h2 [⟨.op a0 a1 0, 99, 2, [.agg [bd rest.Value, bd (rest.Mask ||| bit)]]⟩, ⟨.op i9 w9 0, 155, 128, [.agg (cbC (l.set n ({ Value := rest.Value ||| (~~~y.Value &&& bit), Mask := rest.Mask ||| bit } : aa)))]⟩, ⟨.op i4 w4 0, 99, 2, [cbV y]⟩] := M2
    refine ah (ae (bm rfl) (ae (cm (k := 0) (off := 0) (w := bd rest.Value) M2 rfl rfl rfl) (ae (bm rfl) (ae (cm (k := 2) (off := 0) (w := bd y.Value) M2 rfl rfl rfl) (mV rfl (ae (ay rfl rfl og) (ae (ay rfl rfl d_or) (ae (bm rfl) ?_))))))))
    refine gw (off := 0) (k := 0) (v := bd (rest.Value ||| (y.Value &&& bit))) M2 rfl rfl rfl rfl rfl (by simp) (fun h3 M3 => aw (da (ai ?_)))
    replace M3 : Mem h3 [⟨.op a0 a1 0, 99, 2, [cbV ({ Value := rest.Value ||| (y.Value &&& bit), Mask := rest.Mask ||| bit } : aa)]⟩, ⟨.op i9 w9 0, 155, 128, [.agg (cbC (l.set n ({ Value := rest.Value ||| (~~~y.Value &&& bit), Mask := rest.Mask ||| bit } : aa)))]⟩, ⟨.op i4 w4 0, 99, 2, [cbV y]⟩] := M3
    have hinc : wr ((n : Int) + 1) = ((n + 1 : Nat) : Int) := by rw [dg (by omega) (by omega)]; rfl
    refine ah (mV rfl (ae (v := vi ((n + 1 : Nat) : Int)) (ay rfl rfl (by rw [← hinc]; exact dp)) (mV rfl (aw (cf ?_)))))
    have hll : (l.set n ({ Value := rest.Value ||| (~~~y.Value &&& bit), Mask := rest.Mask ||| bit } : aa)).length = 64 := by rw [List.length_set]; exact hl
    refine wC (ih (n := n + 1) (left := left &&& ~~~bit) (by omega) (Nat.lt_of_lt_of_le t3 (Nat.pow_le_pow_right (by decide) (by omega))) hll ?_ M3) rfl
    ·rw [← hp, List.take_succ_eq_append_getElem (by omega), List.getElem_set_self, List.take_set_of_le (by omega), List.append_assoc]
     rfl
   ·simp [hz] at hc
theorem cg8 : ∀ l : List aa, closedL (l.map cbV) = true
 | [] => rfl
 | c :: l => by
  have ih := cg8 l
  simp only [List.map_cons, closedL, ih, Bool.and_true]
  rfl
theorem dz6 (l : List aa) : (l.map cbV).all (fun v => cnt v == some 2) = true := List.all_eq_true.2 fun y hy => by rw [bx5 l y hy]; rfl
def zcb : aa := { Value := 0#64, Mask := 0#64 }
theorem cx2 {x0 x1 : aa} {x2 : Int} {v0 v1 : PV} (r0 : aa.t.R x0 v0) (r1 : aa.t.R x1 v1) : ∃ r, FnR Tryz.prog 101 [v0, v1, vi x2] r ∧ (tSl aa.t).R (cx x0 x1 x2) r := by
 have e0 := am7 r0
 have e1 := am7 r1
 subst e0
 subst e1
 refine fnE bl6 (by simp) ?_
 refine af (ah (xh (Mem.nil _) rfl rfl (fun i3 w3 h3 M3 => xh M3 rfl rfl (fun i4 w4 h4 M4 => ae (v := nilS) (aq rfl) (aw (ai ?_))))))
 refine af (af (ah (mV rfl (cL cq4 rfl rfl (aj rfl bb) (ae (gu rfl) (aw (ai (bf rfl (fun hc => ?_) fun hc => ?_))))))))
 ·have hs : cx x0 x1 x2 = [] := by unfold cx; rw [if_pos hc]
  refine af (ah (ae (v := nilS) (aq rfl) (aw (ai ?_))))
  exact dk (.tmp rfl .nil) (cd rfl) (by rw [hs]; exact fg)
 ·have hv : 1 ≤ x2 ∧ x2 ≤ 64 := by
   have := hc
   unfold ri at this
   simp only [Bool.not_eq_false', Bool.and_eq_true, decide_eq_true_eq] at this
   exact this
  refine ax (ai (af (ah (ae (bm rfl) (ae (cm (k := 1) (off := 1) (w := bd x0.Mask) M4 rfl rfl rfl) (mV rfl ?_))))))
  refine cL (bn0 (by omega) (by omega)) rfl rfl (aj rfl bb) (ae (ay rfl rfl og) (ae (bm rfl) ?_))
  refine gw (off := 1) (k := 1) (v := bd (x0.Mask &&& dy x2)) M4 rfl rfl rfl rfl rfl (by simp [cbV]) (fun h5 M5 => aw (ai ?_))
  replace M5 : Mem h5 [⟨.op i4 w4 0, 99, 2, [cbV x1]⟩, ⟨.op i3 w3 0, 99, 2, [cbV ({ Value := x0.Value, Mask := x0.Mask &&& dy x2 } : aa)]⟩] := M5
  refine af (ah (ae (bm rfl) (ae (cm (k := 0) (off := 1) (w := bd x1.Mask) M5 rfl rfl rfl) (mV rfl ?_))))
  refine cL (bn0 (by omega) (by omega)) rfl rfl (aj rfl bb) (ae (ay rfl rfl og) (ae (bm rfl) ?_))
  refine gw (off := 1) (k := 0) (v := bd (x1.Mask &&& dy x2)) M5 rfl rfl rfl rfl rfl (by simp [cbV]) (fun h6 M6 => aw (ai ?_))
  replace M6 : Mem h6 [⟨.op i4 w4 0, 99, 2, [cbV ({ Value := x1.Value, Mask := x1.Mask &&& dy x2 } : aa)]⟩, ⟨.op i3 w3 0, 99, 2, [cbV ({ Value := x0.Value, Mask := x0.Mask &&& dy x2 } : aa)]⟩] := M6
  have hs : cx x0 x1 x2 = if (!(ii (en ({ Value := x0.Value, Mask := x0.Mask &&& dy x2 } : aa)) (en ({ Value := x1.Value, Mask := x1.Mask &&& dy x2 } : aa))).2) = true then [en ({ Value := x0.Value, Mask := x0.Mask &&& dy x2 } : aa)] else dz (en ({ Value := x1.Value, Mask := x1.Mask &&& dy x2 } : aa)) 64 ((en ({ Value := x1.Value, Mask := x1.Mask &&& dy x2 } : aa)).Mask &&& ~~~(en ({ Value := x0.Value, Mask := x0.Mask &&& dy x2 } : aa)).Mask) (en ({ Value := x0.Value, Mask := x0.Mask &&& dy x2 } : aa)) := by
   unfold cx; rw [if_neg (by rw [hc]; simp)]; rfl
  obtain ⟨ca, Fa, sa⟩ := br0 (ae5 ({ Value := x0.Value, Mask := x0.Mask &&& dy x2 } : aa))
  obtain ⟨cb, Fb, sb⟩ := br0 (ae5 ({ Value := x1.Value, Mask := x1.Mask &&& dy x2 } : aa))
  have ea := am7 sa
  have eb := am7 sb
  generalize en ({ Value := x0.Value, Mask := x0.Mask &&& dy x2 } : aa) = a at *
  generalize en ({ Value := x1.Value, Mask := x1.Mask &&& dy x2 } : aa) = b at *
  subst ea
  subst eb
  refine af (ah (ae (fe (k := 1) M6 rfl rfl rfl) (cL Fa rfl rfl (aj rfl bb) (ae (fe (k := 0) M6 rfl rfl rfl) (cL Fb rfl rfl (aj rfl bb) ?_)))))
  refine de (k := 1) (v := cbV a) M6 rfl rfl rfl rfl (fun h7 M7 => de (k := 0) (v := cbV b) M7 rfl rfl rfl rfl (fun h8 M8 => aw (ai ?_)))
  replace M8 : Mem h8 [⟨.op i4 w4 0, 99, 2, [cbV b]⟩, ⟨.op i3 w3 0, 99, 2, [cbV a]⟩] := M8
  obtain ⟨ci, Fi, si⟩ := cx6 (ae5 a) (ae5 b)
  refine af (af (ah (ae (fe (k := 1) M8 rfl rfl rfl) (ae (fe (k := 0) M8 rfl rfl rfl) (cL Fi rfl rfl (aj rfl (aj rfl bb)) (mV rfl (ae (fy rfl rfl) (ae (fy rfl rfl) ?_))))))))
  refine dh (x := cbV zcb) M8 rfl rfl (fun i7 w7 h9 M9 => ?_)
  refine de (k := 0) (v := ci) M9 rfl rfl rfl (TR.cnt _ si) (fun a5 a1 => mV rfl (aw (ai ?_)))
  replace a1 : Mem a5 [⟨.op i7 w7 0, 99, 2, [ci]⟩, ⟨.op i4 w4 0, 99, 2, [cbV b]⟩, ⟨.op i3 w3 0, 99, 2, [cbV a]⟩] := a1
  refine af (ah (mV rfl (ae (gu rfl) (aw (ai (bf rfl (fun hd => ?_) fun hd => ?_))))))
  ·rw [if_pos hd] at hs
   refine af (ah (ae (fe (k := 2) a1 rfl rfl rfl) (ae (v := .fs true [cbV a]) (fm rfl (all_cons rfl jn)) (mV rfl (aw (ai ?_))))))
   exact dk (.tmp rfl .nil) (cd rfl) (by rw [hs]; exact rh ⟨rfl, trivial⟩ (by simp))
  ·rw [if_neg (by rw [hd]; simp)] at hs
   refine ax (ai (af (ah (dh (x := .agg (cbC (List.replicate 64 zcb))) a1 rfl rfl (fun i9 w9 b1 a3 => aw (ai ?_))))))
   refine af (ah (ae (v := vi ((0 : Nat) : Int)) (aq rfl) (aw (ai ?_))))
   refine af (ah (ae (fe (k := 3) a3 rfl rfl rfl) ?_))
   refine dh (x := cbV zcb) a3 rfl rfl (fun a4 a6 b0 a7 => ?_)
   refine de (k := 0) (v := cbV a) a7 rfl rfl rfl rfl (fun a8 a0 => aw (ai ?_))
   replace a0 : Mem a8 [⟨.op a4 a6 0, 99, 2, [cbV a]⟩, ⟨.op i9 w9 0, 155, 128, [.agg (cbC (List.replicate 64 zcb))]⟩, ⟨.op i7 w7 0, 99, 2, [ci]⟩, ⟨.op i4 w4 0, 99, 2, [cbV b]⟩, ⟨.op i3 w3 0, 99, 2, [cbV a]⟩] := a0
   refine af (af (ah (ae (bm rfl) (ae (cm (k := 3) (off := 1) (w := bd b.Mask) a0 rfl rfl rfl) (ae (bm rfl) (ae (cm (k := 4) (off := 1) (w := bd a.Mask) a0 rfl rfl rfl) (ae (ay rfl rfl ak5) (mV rfl (aw (ai (bc ?_)))))))))) )
   generalize hres : dz b 64 (b.Mask &&& ~~~a.Mask) a = res
   rw [hres] at hs
   refine wC (dd7 (y := b) (res := res) ?_ 64 (n := 0) (left := b.Mask &&& ~~~a.Mask) (rest := a) (l := List.replicate 64 zcb) rfl (by have := (b.Mask &&& ~~~a.Mask).isLt; omega) (by simp) (by rw [List.take_zero, List.nil_append]; exact hres) (Mem.sub a0 (.cons_cons _ (.cons_cons _ (.cons _ (.cons_cons _ (.cons _ .slnil))))))) rfl
   ·intro a9 l R hr hl ht a2
    refine dv (ai (af (ah (mV rfl (mV rfl ?_)))))
    refine ae (bn9 (k := 1) (n := (res.length : Int)) a2 rfl rfl rfl rfl rfl (by omega) (by omega)) (mV rfl (aw (ai ?_)))
    rw [Int.toNat_natCast]
    by_cases hz : res.length = 0
    ·rw [if_pos hz]
     have : res = [] := List.eq_nil_of_length_eq_zero hz
     exact dk (.tmp rfl .nil) (cd rfl) (by rw [hs, this]; exact rh trivial (by simp))
    ·rw [if_neg hz]
     obtain ⟨_, x', cs, q1, q2, q3⟩ := a2.atF (k := 1) rfl
     simp only [List.cons.injEq, and_true] at q1
     subst q1
     simp only [PV.cellsOf, Option.some.injEq] at q2
     subst q2
     refine dk (.tmp rfl .nil) (av8 (sz := 2) (es := res.map cbV) q3 (by rw [wn, hl]; omega) (by simp) ?_ (dz6 res) (cg8 res)) (by rw [hs]; exact rh (av2 res) (by omega))
     rw [ai4, List.drop_zero, am3, ht]

theorem as1 (y : aa) : ∀ (m : Nat) (left : BitVec 64) (rest : aa), (dz y m left rest).length ≤ m
 | 0, _, _ => Nat.le_refl _
 | m + 1, left, rest => by
  rw [dz]
  split
  ·simp
  ·rw [List.length_cons]
   have := as1 y m (left &&& ~~~(1#64 <<< (cn left - 1).toNat)) ({ Value := rest.Value ||| (y.Value &&& (1#64 <<< (cn left - 1).toNat)), Mask := rest.Mask ||| (1#64 <<< (cn left - 1).toNat) } : aa)
   omega
theorem an5 (a b : aa) (w : Int) : (cx a b w).length ≤ 64 := by
 unfold cx
 simp only [LET]
 split
 ·simp
 ·split
  ·simp
  ·exact as1 _ _ _ _
theorem bk3 (l : List aa) : (fw l).1.length ≤ 1024 := by
 unfold fw
 simp only [LET]
 split
 ·simp
 ·rename_i hc
  simp only [decide_eq_true_eq] at hc
  show (pg l).length ≤ 1024
  omega
theorem uq {α : Type} {f : α → List aa} (hf : ∀ c, (f c).length ≤ 64) : ∀ l : List α, (l.flatMap f).length ≤ 64 * l.length
 | [] => by simp
 | a :: l => by
  have := uq hf l
  have := hf a
  rw [List.flatMap_cons, List.length_append, List.length_cons]
  omega
theorem ax6 : ∀ (l : List aa) (n : Nat), (cbC l).drop (n * 2) = cbC (l.drop n)
 | l, 0 => by simp
 | [], n + 1 => by simp [cbC]
 | c :: l, n + 1 => by
  have ih := ax6 l n
  show (bd c.Value :: bd c.Mask :: cbC l).drop ((n + 1) * 2) = cbC (l.drop n)
  rw [show (n + 1) * 2 = n * 2 + 1 + 1 by omega, List.drop_succ_cons, List.drop_succ_cons, ih]
theorem bq4 : ∀ {l : List aa} {es : List PV}, All2 aa.t.R l es → es = l.map cbV
 | [], [], _ => rfl
 | [], _ :: _, h => by simp [All2] at h
 | _ :: _, [], h => by simp [All2] at h
 | c :: l, e :: es, h => by rw [am7 h.1, bq4 h.2]; rfl
theorem bx2 {P : Program} {S : List Fr} {Q : Post} {E : TEnv} {h : Heap} {L : List Ent} {k id ver dd : Nat} {t e : TypeId} {d : PV} {z l : List aa} {o o' : Operand} {r : List AOper} {hf : Bool} (M : Mem h L) (eo : evE E o = some (.os id ver 0 64)) (ex : evE E o' = some d) (hk : L[k]? = some ⟨.op id ver 0, 155, 128, [.agg (cbC z)]⟩) (hz : z.length = 64) (hd : (tSl aa.t).R l d) (hl : l.length ≤ 64)
  (K : ∀ h', Mem h' (L.set k ⟨.op id ver 0, 155, 128, [.agg (cbC (l ++ z.drop l.length))]⟩) → RD P r S Q ((dd, vi (l.length : Int)) :: E) h') : RD P (⟨some dd, .copy t e 2 o o', none, hf⟩ :: r) S Q E h := by
 obtain ⟨hc, x', cs, q1, q2, h3⟩ := M.atF hk
 simp only [List.cons.injEq, and_true] at q1
 subst q1
 simp only [PV.cellsOf, Option.some.injEq] at q2
 subst q2
 obtain ⟨news, ⟨ncs, s1, s2, s3⟩, ha⟩ := qc (t := aa.t) (h := h) hd
 have hn := bq4 ha
 subst hn
 rw [ai4] at s2
 simp only [Option.some.injEq] at s2
 subst s2
 have s1 : srcF h 2 d = some (l.length, cbC l) := by rw [show l.length = (l.map cbV).length by simp]; exact s1
 have hs : spl (cbC z) 0 (cbC l) = cbC (l ++ z.drop l.length) := by
  simp only [spl, List.take_zero, List.nil_append, Nat.zero_add]
  rw [wn l, ax6, db5]
 have hb : h.bl[id]? = some (.cells ver 155 true (cbC z)) := h3
 refine yl (h' := hput h id (.cells ver 155 true (cbC (l ++ z.drop l.length)))) ⟨rfl, fun T hT => ?_⟩ (K _ (M.upd hk ⟨?_, _, _, rfl, rfl, by simp [nk h3]⟩ (fun i hi => .inl hi) fun i hi hne' => iq _ _ _ _ fun e => hne' (by simp [idOf, e])))
 ·have e1 := dw hT eo
  have e2 := dw hT ex
  simp only [opL, e1, e2, s1, hb]
  rw [if_pos ⟨trivial, hl, by rw [wn, hz]; omega⟩, hs]
  rfl
 ·intro x hx
  rw [List.mem_singleton.1 hx]
  simp only [cnt, Option.some.injEq, wn, List.length_append, List.length_drop, hz]
  omega
theorem cz5 {h : Heap} {L : List Ent} {k id ver : Nat} {l z : List aa} (M : Mem h L) (hk : L[k]? = some ⟨.op id ver 0, 155, 128, [.agg (cbC (l ++ z))]⟩) : Src h 2 (if l.length = 0 then .fs true [] else .os id ver 0 l.length) (l.map cbV) := by
 by_cases hz : l.length = 0
 ·have : l = [] := List.eq_nil_of_length_eq_zero hz
  subst this
  exact am8 (.inr ⟨true, rfl⟩) (fun y hy => by simp at hy)
 ·rw [if_neg hz]
  obtain ⟨hc, x', cs, q1, q2, h3⟩ := M.atF hk
  simp only [List.cons.injEq, and_true] at q1
  subst q1
  simp only [PV.cellsOf, Option.some.injEq] at q2
  subst q2
  have hb : h.bl[id]? = some (.cells ver 155 true (cbC (l ++ z))) := h3
  refine ⟨cbC l, ?_, ai4 l, bx5 l⟩
  simp only [srcF, hb]
  rw [if_pos ⟨trivial, by rw [wn, List.length_append]; omega⟩, List.drop_zero, am3, List.take_append_of_le_length (Nat.le_refl _), List.take_length, List.length_map]
theorem cl6 {S : List Fr} {Q : Post} {a0 a1 : Nat} {x : aa} {w : Int} {out : List aa} {ov v1 : PV} {nb ib : Int} (ro : (tSl aa.t).R out ov) (hn : out.length ≤ 1024)
  (K : ∀ {h : Heap} {rv : PV} {es : List PV}, isL rv = true → All2 aa.t.R (out.flatMap fun c => cx c x w) es → Mem h [⟨rv, 99, 2, es⟩, ⟨.op a0 a1 0, 99, 2, [cbV x]⟩] → PX Tryz.prog 2 S Q [(35, vi ib), (34, vi nb), (33, v1), (12, rv), (2, vi w)] h) :
  ∀ (m : Nat) {i : Int} {rv : PV} {es : List PV} {h : Heap}, m = Int.toNat ((out.length : Int) - i) → 0 ≤ i → i ≤ out.length → isL rv = true → Wri rv es → All2 aa.t.R ((out.take i.toNat).flatMap fun c => cx c x w) es → Mem h [⟨rv, 99, 2, es⟩, ⟨.op a0 a1 0, 99, 2, [cbV x]⟩] →
   RC Tryz.prog (.loop cy9) S Q [(41, vi i), (40, vi (out.length : Int)), (39, ov), (35, vi ib), (34, vi nb), (33, v1), (12, rv), (11, .op a0 a1 0), (2, vi w)] h
 | 0, i, rv, es, h, hm, h0, h1, hne, hw, ha, M => by
  refine bp ?_
  refine af (ah (ae (ay rfl rfl cj) (aw (ai (af (bf rfl (fun hc => ?_) fun hc => ?_))))))
  ·simp only [decide_eq_true_eq] at hc; omega
  ·rw [List.take_of_length_le (by omega)] at ha
   exact db (dn (cq (wP (K hne ha M) rfl)))
 | m + 1, i, rv, es, h, hm, h0, h1, hne, hw, ha, M => by
  have hlt : i < (out.length : Int) := by omega
  have hinc : wr (i + 1) = i + 1 := dg (by omega) (by omega)
  refine bp ?_
  refine af (ah (ae (ay rfl rfl cj) (aw (ai (af (bf rfl (fun hc => ?_) fun hc => ?_))))))
  ·obtain ⟨g, e0, q0⟩ := ct (i := i) ro h0 hlt
   have hg := am7 q0
   subst hg
   obtain ⟨d, a4, a2⟩ := cx2 (x2 := w) (ae5 (ix out i)) (ae5 x)
   have hln := an5 (ix out i) x w
   refine ax (ai (af (bc (af (ah (ae (bg rfl rfl e0) (ae (br rfl rfl rfl) ?_)))))))
   refine dh (x := cbV zcb) M rfl rfl (fun a3 a5 h3 M3 => ?_)
   refine de (k := 0) (v := cbV (ix out i)) M3 rfl rfl rfl rfl (fun h4 M4 => aw (ai ?_))
   replace M4 : Mem h4 [⟨.op a3 a5 0, 99, 2, [cbV (ix out i)]⟩, ⟨rv, 99, 2, es⟩, ⟨.op a0 a1 0, 99, 2, [cbV x]⟩] := M4
   refine af (ah (dh (x := .agg (cbC (List.replicate 64 zcb))) M4 rfl rfl (fun a6 a7 h5 M5 => aw (ai ?_))))
   refine af (ah (ae (dd9 (k := 0) M5 rfl rfl) (ae (fe (k := 1) M5 rfl rfl rfl) (ae (fe (k := 3) M5 rfl rfl rfl) (mV rfl ?_)))))
   refine cL a4 rfl rfl (aj rfl (aj rfl (aj rfl bb))) ?_
   refine bx2 (k := 0) (l := cx (ix out i) x w) M5 rfl rfl rfl (by simp) a2 hln (fun h6 M6 => mV rfl (aw (ai ?_)))
   replace M6 : Mem h6 [⟨.op a6 a7 0, 155, 128, [.agg (cbC (cx (ix out i) x w ++ (List.replicate 64 zcb).drop (cx (ix out i) x w).length))]⟩, ⟨.op a3 a5 0, 99, 2, [cbV (ix out i)]⟩, ⟨rv, 99, 2, es⟩, ⟨.op a0 a1 0, 99, 2, [cbV x]⟩] := M6
   refine ah (mV rfl (mV rfl (mV rfl ?_)))
   refine ae (bn9 (k := 0) (n := ((cx (ix out i) x w).length : Int)) M6 rfl rfl rfl rfl rfl (by omega) (by omega)) ?_
   rw [Int.toNat_natCast]
   have hal := ha.length
   have hfl := uq (f := fun c => cx c x w) (fun c => an5 c x w) (out.take i.toNat)
   rw [List.length_take] at hfl
   have ff : fits (es.length + ((cx (ix out i) x w).map cbV).length) 16 = true := by
    rw [List.length_map]
    exact kx (by omega) (by omega)
   refine lh (k := 2) (es := es) (news := (cx (ix out i) x w).map cbV) M6 rfl rfl rfl hne hw (cz5 (k := 0) M6 rfl) ff (fun a h7 hna hwa M7 => mV rfl (aw (da (ai ?_))))
   replace M7 : Mem h7 [⟨.op a6 a7 0, 155, 128, [.agg (cbC (cx (ix out i) x w ++ (List.replicate 64 zcb).drop (cx (ix out i) x w).length))]⟩, ⟨.op a3 a5 0, 99, 2, [cbV (ix out i)]⟩, ⟨a, 99, 2, es ++ (cx (ix out i) x w).map cbV⟩, ⟨.op a0 a1 0, 99, 2, [cbV x]⟩] := M7
   refine ah (ae (ay rfl rfl dp) (mV rfl (aw (cf ?_))))
   have hta : ((out.take (i + 1).toNat).flatMap fun c => cx c x w) = ((out.take i.toNat).flatMap fun c => cx c x w) ++ cx (ix out i) x w := by
    rw [show (i + 1).toNat = i.toNat + 1 by omega, List.take_succ_eq_append_getElem (by omega), List.flatMap_append, rx h0 hlt]
    simp
   refine mb ?_ (cl6 ro hn K m (i := i + 1) (by omega) (by omega) (by omega) hna hwa (by rw [hta]; exact All2.app ha (av2 _)) (Mem.sub M7 (.cons _ (.cons _ (List.Sublist.refl _)))))
   exact ky (by show some (vi (wr (i + 1))) = _; rw [hinc]) (sB rfl)
  ·simp only [decide_eq_false_iff_not] at hc; omega
theorem ch2 {S : List Fr} {w : Int} {bl : List aa} {v1 : PV} {res : List aa × Int} (r1 : (tSl aa.t).R bl v1)
  (K : ∀ {h : Heap} {out : List aa} {ov : PV}, (tSl aa.t).R out ov → (out, 0) = res → Mem h [] → PX Tryz.prog 0 S (QR Tryz.prog [(6, none), (7, none)] fun r => ∃ c, r = .tup [c, vi res.2] ∧ (tSl aa.t).R res.1 c) [(8, ov)] h) :
  ∀ (m : Nat) {i : Int} {out : List aa} {ov : PV} {h : Heap}, m = Int.toNat ((bl.length : Int) - i) → 0 ≤ i → i ≤ bl.length → (tSl aa.t).R out ov → out.length ≤ 1024 → js w (bl.drop i.toNat) out = res → Mem h [] →
   RC Tryz.prog (.loop cv4) S (QR Tryz.prog [(6, none), (7, none)] fun r => ∃ c, r = .tup [c, vi res.2] ∧ (tSl aa.t).R res.1 c) [(35, vi i), (34, vi (bl.length : Int)), (33, v1), (8, ov), (2, vi w)] h
 | 0, i, out, ov, h, hm, h0, h1, ro, hn, hp, M => by
  refine bp ?_
  refine af (ah (ae (ay rfl rfl cj) (aw (ai (af (bf rfl (fun hc => ?_) fun hc => ?_))))))
  ·simp only [decide_eq_true_eq] at hc; omega
  ·rw [List.drop_of_length_le (by omega)] at hp
   exact db (dn (cq (wP (K ro hp M) rfl)))
 | m + 1, i, out, ov, h, hm, h0, h1, ro, hn, hp, M => by
  have hlt : i < (bl.length : Int) := by omega
  have hb := df r1
  have hinc : wr (i + 1) = i + 1 := dg (by omega) (by omega)
  refine bp ?_
  refine af (ah (ae (ay rfl rfl cj) (aw (ai (af (bf rfl (fun hc => ?_) fun hc => ?_))))))
  ·obtain ⟨g, e0, q0⟩ := ct (i := i) r1 h0 hlt
   have hg := am7 q0
   subst hg
   refine ax (ai (af (bc (af (ah (ae (bg rfl rfl e0) (ae (br rfl rfl rfl) ?_)))))))
   refine dh (x := cbV zcb) M rfl rfl (fun a1 a3 h3 M3 => ?_)
   refine de (k := 0) (v := cbV (ix bl i)) M3 rfl rfl rfl rfl (fun h4 M4 => aw (ai ?_))
   replace M4 : Mem h4 [⟨.op a1 a3 0, 99, 2, [cbV (ix bl i)]⟩] := M4
   refine af (ah (ae (v := nilS) (aq rfl) (aw (ai ?_))))
   refine af (af (ah (mV rfl (ae (cg rfl (bq ro Tryz.underlying96 _)) (ae (v := vi 0) (aq rfl) (aw (ai (bc ?_))))))))
   refine wC (cl6 (x := ix bl i) (w := w) (v1 := v1) (nb := (bl.length : Int)) (ib := i) ro hn ?_ out.length (i := 0) (rv := nilS) (es := []) (by omega) (by omega) (by omega) rfl (.inl rfl) trivial (ml M4 99 (.inl ⟨none, rfl, rfl⟩) (by simp))) rfl
   ·intro h5 rv es hne ha M5
    have hfl := uq (f := fun c => cx c (ix bl i) w) (fun c => an5 c (ix bl i) w) out
    rw [List.drop_eq_getElem_cons (by omega), js] at hp
    simp only [LET] at hp
    rw [← rx h0 hlt] at hp
    refine dv (ai (af (ol ?_)))
    refine vp (k := 0) (E' := fun d => [(35, vi i), (34, vi (bl.length : Int)), (33, v1), (12, d), (2, vi w)]) M5 rfl hne (fun d => ej rfl (ej rfl (ej rfl (qj rfl (ej rfl uf))))) (fun d h6 hd M6 => ?_)
    have rd : (tSl aa.t).R (out.flatMap fun c => cx c (ix bl i) w) d := ⟨⟨es, hd, ha⟩, by omega⟩
    generalize (out.flatMap fun c => cx c (ix bl i) w) = rest at *
    obtain ⟨c0, a0, a2⟩ := cp0 rd (by omega)
    refine dm (mV rfl (dl (dm (cL a0 rfl rfl (aj (TR.clo _ rd) bb) (dl ?_)))))
    refine dm (mV rfl (dl (dm (ae (fy rfl rfl) (dl (dm (ae (fy rfl rfl) (dl (dm (mV rfl (dl (dm (mV rfl (dl (tu (ai ?_))))))))))))))))
    refine af (ah (mV rfl (ae (ay rfl rfl jq) (aw (ai (bf rfl (fun hd => ?_) fun hd => ?_))))))
    ·replace hd : (!decide ((fw rest).2 = 0)) = true := hd
     rw [if_pos hd] at hp
     refine af (ah (mV rfl (ae (v := nilS) (aq rfl) (mV rfl (aw (ai ?_))))))
     exact dk (.tmp rfl (.tmp rfl .nil)) (cd rfl) ⟨nilS, by rw [← hp]; rfl, by rw [← hp]; exact fg⟩
    ·replace hd : (!decide ((fw rest).2 = 0)) = false := hd
     rw [if_neg (by rw [hd]; simp)] at hp
     refine ax (da (ai (ah (ae (ay rfl rfl dp) (mV rfl (aw (cf ?_)))))))
     refine mb ?_ (ch2 r1 K m (i := i + 1) (by omega) (by omega) (by omega) a2 (bk3 _) (by rw [show (i + 1).toNat = i.toNat + 1 by omega]; exact hp) (Mem.sub M6 (.cons _ .slnil)))
     exact ky (by show some (vi (wr (i + 1))) = _; rw [hinc]) (sB rfl)
  ·simp only [decide_eq_false_iff_not] at hc; omega
theorem dz7 {x0 x1 : List aa} {x2 : Int} {v0 v1 : PV} (r0 : (tSl aa.t).R x0 v0) (r1 : (tSl aa.t).R x1 v1) (hl : x0.length ≤ 1000) : ∃ c0, FnR Tryz.prog 55 [v0, v1, vi x2] (.tup [c0, vi (jb x0 x1 x2).2]) ∧ (tSl aa.t).R (jb x0 x1 x2).1 c0 := by
 generalize hres : jb x0 x1 x2 = res
 obtain ⟨r, h1, c0, rfl, hr⟩ : ∃ r, FnR Tryz.prog 55 [v0, v1, vi x2] r ∧ ∃ c, r = .tup [c, vi res.2] ∧ (tSl aa.t).R res.1 c := by
  unfold jb at hres
  simp only [LET] at hres
  refine fnE cm4 (by simp) ?_
  refine af (ah (ae (v := nilS) (aq rfl) (ae (v := vi 0) (aq rfl) (aw (ai ?_)))))
  refine af (af (ah (mV rfl (ae (v := vb (decide (x2 < 1))) (ay rfl rfl cj) (mV rfl ?_)))))
  refine bw 3 (d := 22) (v := vb (decide (x2 < 1) || decide (64 < x2))) ?_ ?_
  ·intro S Q r
   cases decide (x2 < 1)
   ·intro k
    refine ak rfl rfl (aq rfl) (ak rfl rfl (ay rfl rfl gh) ?_)
    exact gK rfl rfl rfl rfl rfl k
   ·exact gN 2 rfl rfl rfl rfl rfl rfl
  refine aw (ai (bf rfl (fun hc => ?_) fun hc => ?_))
  ·rw [if_pos hc] at hres
   refine af (ah (ae (v := nilS) (aq rfl) (ae (v := vi 10) (aq rfl) (aw (ai ?_)))))
   exact dk (.tmp rfl (.tmp rfl .nil)) (cd rfl) ⟨nilS, by rw [← hres]; rfl, by rw [← hres]; exact fg⟩
  ·rw [if_neg (by rw [hc]; simp)] at hres
   simp only [Bool.or_eq_false_iff, decide_eq_false_iff_not] at hc
   obtain ⟨dr, a1, a0⟩ := cw4 (x1 := x2) r0 (by omega) (by omega) (by omega)
   have hrl : (lf x0 x2).length ≤ 1000000 := by
    have key : ∀ (m : Nat) (i : Int) (z : List aa), m = Int.toNat ((x0.length : Int) - i) → (je x0 x2 (fun z => z) m i z).length = z.length + m := by
     intro m
     induction m with
     | zero => intro i z hm; rfl
     | succ m ih =>
      intro i z hm
      rw [je, ih _ _ (by omega), List.length_append, List.length_singleton]
      omega
    have : (lf x0 x2).length = _ := key _ 0 [] rfl
    rw [this, List.length_nil]
    omega
   obtain ⟨c0, a2, a3⟩ := cp0 a0 hrl
   refine ax (ai (af (ah (mV rfl (mV rfl ?_)))))
   refine cL a1 rfl rfl (aj (TR.clo _ r0) (aj rfl bb)) (cL a2 rfl rfl (aj (TR.clo _ a0) bb) ?_)
   refine mV rfl (ae (fy rfl rfl) (ae (fy rfl rfl) (mV rfl (mV rfl (aw (ai ?_))))))
   generalize lf x0 x2 = q at *
   refine af (af (ah (mV rfl (ae (ay rfl rfl jq) (aw (ai (bf rfl (fun hd => ?_) fun hd => ?_)))))))
   ·replace hd : (!decide ((fw q).2 = 0)) = true := hd
    rw [if_pos hd] at hres
    refine af (ah (mV rfl (ae (v := nilS) (aq rfl) (mV rfl (aw (ai ?_))))))
    exact dk (.tmp rfl (.tmp rfl .nil)) (cd rfl) ⟨nilS, by rw [← hres]; rfl, by rw [← hres]; exact fg⟩
   ·replace hd : (!decide ((fw q).2 = 0)) = false := hd
    rw [if_neg (by rw [hd]; simp)] at hres
    refine ax (ai (af (af (ah (mV rfl (ae (cg rfl (bq r1 Tryz.underlying96 _)) (ae (v := vi 0) (aq rfl) (aw (ai (bc ?_))))))))))
    refine wC (ch2 (w := x2) (res := res) r1 ?_ x1.length (i := 0) (by omega) (by omega) (by omega) a3 (bk3 _) hres (Mem.nil _)) rfl
    ·intro h out ov ro hp M
     refine dv (ai (af (ah (mV rfl (mV rfl (ae (v := vi 0) (aq rfl) (aw (ai ?_))))))))
     subst hp
     exact dk (.tmp rfl (.tmp rfl .nil)) (cd (show closed (.tup _) = true from aj (TR.clo _ ro) (aj rfl bb))) ⟨ov, rfl, ro⟩
 exact ⟨c0, h1, hr⟩

end Go.Proofs.YthdnpgpnodgicaaGreat
