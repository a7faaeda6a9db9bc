/-
 The code of each function does what its plain program says.
-/
import Derived.Test.YthdnpgpnodgicaaGreatL6W3
set_option linter.unusedVariables false
set_option linter.unusedSimpArgs false
set_option maxRecDepth 100000
namespace Go.Proofs.YthdnpgpnodgicaaGreat
open Go Go.Pb Go.RowKit
def RF115 (res : (List ck)) (r : PV) : Prop := (tSl ck.t).R res r
theorem cv7 {x0 : ab} {x1 : Int} {v0 : PV} (r0 : ab.t.R x0 v0) : ∃ r, FnR Tryz.prog 115 [v0, vi x1] r ∧ (tSl ck.t).R (wq x0 x1) r := by
 refine fnT (R := RF115) bm0 rfl fun res hres => ?_
 unfold wq at hres
 refine sR (ae (di rfl (TR.cnt ab.t r0)) (ae (v := nilS) (aq rfl) (nS (af (sR (mV rfl (bN (md (b := -1)) rfl rfl (nS ?_))))))))
 refine cv hres rfl ?_ ?_ <;> clear hres <;> intro c hres <;> try simp only [qa] at c
 ·refine sR (gL (ab.g_Metadata r0) rfl rfl rfl fun a7 a0 => (mV rfl (nS ?_)))
  exact rR hres rfl (TR.clo (tSl ck.t) a0) a0
 ·refine ax (ai (sR (gL (ab.g_Headers r0) rfl rfl rfl fun a9 a4 => (mV rfl ?_))))
  obtain ⟨b0, a2, hres⟩ := cw hres
  obtain ⟨a8, a6, a3⟩ := cs8 (x1 := x1) a4 
  rw [a2] at a3
  refine cL a6 rfl rfl (aj (TR.clo (tSl cy.t) a4) (aj rfl bb)) ?_
  obtain ⟨b1, a5, a1⟩ := cy.g_Fields a3
  refine ae (ax4 rfl a5) (mV rfl (nS ?_))
  exact rR hres rfl (TR.clo (tSl ck.t) a1) a1

def RF114 (res : ck) (r : PV) : Prop := ck.t.R res r
theorem dd5 {x0 : List ck} {x1 : Int} {v0 : PV} (r0 : (tSl ck.t).R x0 v0) : ∃ r, FnR Tryz.prog 114 [v0, vi x1] r ∧ ck.t.R (mw x0 x1) r := by
 refine fnT (R := RF114) br8 rfl fun res hres => ?_
 unfold mw at hres
 refine sR ?_
 refine dh (x := .agg [vs [], vi 0]) (Mem.nil ⟨0, []⟩) rfl rfl (fun a6 a5 b2 a8 => ?_)
 refine nR (ae (af9 (x := .agg [vs [], vi 0]) rfl rfl) (nS (af (sR (mV rfl (bN cj rfl rfl (mV rfl ?_)))))))
 refine bw 5 (d := 13) (v := vb ((decide (x1 < 0)) || (decide ((x0.length : Int) ≤ x1)))) ?_ ?_
 ·intro S Q r
  cases a4 : (decide (x1 < 0))
  ·intro k
   have a3 := a4
   try simp only [qa] at a3
   refine ak rfl rfl (aq rfl) (ak rfl rfl (aq rfl) (ak rfl rfl (cg rfl (bq r0 Tryz.underlying23 _)) (ak rfl rfl (ay rfl rfl se) ?_)))
   exact gK rfl rfl rfl rfl rfl k
  ·exact gN 4 rfl rfl rfl rfl rfl rfl
 refine nS ?_
 refine cv hres rfl ?_ ?_ <;> clear hres <;> intro c hres <;> try simp only [qa] at c
 ·refine sR (lR rfl rfl rfl ?_)
  refine de (k := 0) (v := .agg [vs [], vi 0]) a8 rfl rfl rfl rfl (fun b0 a1 => ?_)
  replace a1 : Mem b0 [⟨.op a6 a5 0, 162, 2, [.agg [vs [], vi 0]]⟩] := a1
  refine nS ?_
  subst hres
  exact dk (.cell rfl (ie (k := 0) a1 rfl rfl) .nil) (cd (TR.clo ck.t (show ck.t.R ({ Name := ([] : List UInt8), Width := 0 } : ck) (.agg [vs [], vi 0]) from rfl))) (show ck.t.R ({ Name := ([] : List UInt8), Width := 0 } : ck) (.agg [vs [], vi 0]) from rfl)
 ·refine ax (ai (sR (mV rfl (mV rfl ?_))))
  obtain ⟨a7, b1, a0⟩ := ct (i := x1) r0 (by omega) (by omega)
  refine ae (bg rfl rfl b1) (lD a0 rfl rfl rfl ?_)
  refine de (k := 0) (v := a7) a8 rfl rfl rfl (TR.cnt ck.t a0) (fun a9 a2 => ?_)
  replace a2 : Mem a9 [⟨.op a6 a5 0, 162, 2, [a7]⟩] := a2
  refine nS ?_
  subst hres
  exact dk (.cell rfl (ie (k := 0) a2 rfl (TR.agg ck.t a0)) .nil) (cd (TR.clo ck.t a0)) a0

def RF116 (res : Bool) (r : PV) : Prop := r = vb res
theorem zw {S : List Fr} {res : Bool} {x0 : List Int} {v0 : PV} (r0 : (tSl tI).R x0 v0) {K0 : Unit → Bool}
  (a5 : K0 () = res → PX Tryz.prog 0 S (QR Tryz.prog [(2, none)] (RF116 res)) [] ⟨0, []⟩) :
  ∀ {m : Nat} {a0 : Int} (a4 : m = Int.toNat ((x0.length : Int) - a0)) (a3 : 0 ≤ a0), mh x0 K0 m a0 = res → RC Tryz.prog (.loop ca8) S (QR Tryz.prog [(2, none)] (RF116 res)) [(7, vi a0), (6, vi (x0.length : Int)), (5, v0)] ⟨0, []⟩ := by
 intro m
 induction m with
 | zero =>
  intro a0 a4 a3 hres
  rw [mh] at hres
  refine bp (sR (bN cj rfl rfl (nS (af ?_))))
  refine bf rfl ?_ ?_ <;> intro c <;> try simp only [qa] at c
  ·omega
  refine db (dn (cq ?_))
  exact wP (a5  hres) rfl
 | succ m ih =>
  intro a0 a4 a3 hres
  rw [mh] at hres
  refine bp (sR (bN cj rfl rfl (nS (af ?_))))
  refine bf rfl ?_ ?_ <;> intro c <;> try simp only [qa] at c
  rotate_left
  ·omega
  refine ax (ai (af (bc (sR (ae (bg rfl rfl (slI r0 (by omega) (by omega))) (lR rfl rfl rfl (mV rfl (nR ?_))))))))
  refine mV rfl (bN cj rfl rfl (mV rfl ?_))
  refine bw 3 (d := 16) (v := vb ((decide ((ix x0 a0) < 1)) || (decide (32 < (ix x0 a0))))) ?_ ?_
  ·intro S Q r
   cases a2 : (decide ((ix x0 a0) < 1))
   ·intro k
    have a1 := a2
    try simp only [qa] at a1
    refine ak rfl rfl (aq rfl) (ak rfl rfl (ay rfl rfl gh) ?_)
    exact gK rfl rfl rfl rfl rfl k
   ·exact gN 2 rfl rfl rfl rfl rfl rfl
  refine nS ?_
  refine cv hres rfl ?_ ?_ <;> clear hres <;> intro c hres <;> try simp only [qa] at c
  ·refine sR (mB rfl (nS ?_))
   exact rR hres rfl rfl rfl
  ·refine ax (da (ai (ah (bN dp rfl rfl (mV rfl (aw (cf ?_)))))))
   have hbd := df r0
   have hinc : wr (a0 + 1) = a0 + 1 := dg (by omega) (by omega)
   erw [hinc]
   exact wC (ih   (by omega) (by omega) hres) rfl

theorem ai7 {x0 : List Int} {v0 : PV} (r0 : (tSl tI).R x0 v0) : FnR Tryz.prog 116 [v0] (vb (ja x0)) := by
 refine fnS (R := RF116) bs0 (fun _ h => h) rfl fun res hres => ?_
 unfold ja at hres
 refine sR (mB rfl (nS (af (sR (mV rfl (ae (cg rfl (bq r0 Tryz.underlying29 _)) (mI rfl (nS ?_))))))))
 refine bc ?_
 refine wC (zw r0 ?_  rfl (by omega) hres) rfl
 ·intro  hres
  refine dv (ai (sR (mB rfl (nS ?_))))
  exact rR hres rfl rfl rfl

def RF113 (res : (BitVec 32)) (r : PV) : Prop := r = dx res
theorem yv {x0 : Int} : FnR Tryz.prog 113 [vi x0] (dx (fh x0)) := by
 refine fnS (R := RF113) bp5 (fun _ h => h) rfl fun res hres => ?_
 unfold fh at hres
 refine sR (ae (v := dx 0#32) (aq rfl) (nS (af (sR (mV rfl (ae (v := .fs true [vi x0]) (fm rfl (all_cons rfl jn)) ?_))))))
 have a2 : (tSl tI).R ([x0] : List Int) (.fs true [vi x0]) := rh ⟨rfl, trivial⟩ (by simp)
 obtain ⟨a3, a1, hres⟩ := cw hres
 have a0 := ai7  a2 
 rw [a1] at a0
 refine cL a0 rfl rfl (aj (TR.clo (tSl tI) a2) bb) (ae (gu rfl) (nS ?_))
 refine cv hres rfl ?_ ?_ <;> clear hres <;> intro c hres <;> try simp only [qa] at c
 ·refine sR (ae (v := dx 0#32) (aq rfl) (nS ?_))
  exact rR hres rfl rfl rfl
 ·refine ax (ai (sR (mV rfl (bN vv rfl rfl (ae (ay (a := dx 4294967295#32) (b := vi (wr (32 - x0))) rfl rfl (bm7 (by exact cs7 (by assumption) (by assumption)))) (mV rfl (nS ?_)))))))
  exact rR hres rfl rfl rfl

def RF81 (res : Int) (r : PV) : Prop := r = vi res
theorem bz2 {x0 : ab} {x1 : cp} {v0 v1 : PV} (r0 : ab.t.R x0 v0) (r1 : cp.t.R x1 v1) : FnR Tryz.prog 81 [v0, v1] (vi (ry x0 x1)) := by
 refine fnS (R := RF81) cb3 (fun _ h => h) rfl fun res hres => ?_
 unfold ry at hres
 refine sR (ae (di rfl (TR.cnt ab.t r0)) (ae (di rfl (TR.cnt cp.t r1)) (mI rfl (nR (lD r0 rfl rfl rfl (fL rfl (cp.g_Header r1) rfl rfl ?_))))))
 obtain ⟨b2, a5, hres⟩ := cw hres
 obtain ⟨b0, a7, a0⟩ := cv7 (x1 := x1.Header) r0 
 rw [a5] at a0
 refine cL a7 rfl rfl (aj (TR.clo ab.t r0) (aj rfl bb)) (fL rfl (cp.g_Field r1) rfl rfl ?_)
 obtain ⟨a9, a4, hres⟩ := cw hres
 obtain ⟨b1, a8, a3⟩ := dd5 (x1 := x1.Field) a0 
 rw [a4] at a3
 refine cL a8 rfl rfl (aj (TR.clo (tSl ck.t) a0) (aj rfl bb)) (ae (ax4 rfl (ck.g_Width a3)) (mV rfl (nS (af (sR (mV rfl ?_))))))
 obtain ⟨a6, a2, hres⟩ := cw hres
 have a1 := yv (x0 := a9.Width)  
 rw [a2] at a1
 refine cL a1 rfl rfl (aj rfl bb) (ae (ay (a := dx a6) (b := dx 0#32) rfl rfl bp2) (nS ?_))
 refine cv hres rfl ?_ ?_ <;> clear hres <;> intro c hres <;> try simp only [qa] at c
 ·refine sR (mI rfl (nS ?_))
  exact rR hres rfl rfl rfl
 ·refine ax (ai (sR (mV rfl (mV rfl (nS ?_)))))
  exact rR hres rfl rfl rfl

def RF74 (res : Int × Int) (r : PV) : Prop := r = .tup [vi res.1, vi res.2]
theorem xn {S : List Fr} {res : Int × Int} {x0 : ab} {x1 : az} {v0 a7 : PV} (r0 : ab.t.R x0 v0) (a6 : (tSl bn.t).R x1.Keys a7) {K0 : Int → Int → (Int × Int)}
  (c3 : ∀ {a4 a5 : Int} {h : Heap} (M0 : Mem h []), K0 a4 a5 = res → PX Tryz.prog 0 S (QR Tryz.prog [(4, none), (5, none)] (RF74 res)) [(6, vi a4), (7, vi a5)] h) :
  ∀ {m : Nat} {a4 a5 a0 : Int} (c2 : m = Int.toNat ((x1.Keys.length : Int) - a0)) (b0 : 0 ≤ a0) {h : Heap} (M0 : Mem h []), iu x0 x1 K0 m a4 a5 a0 = res → RC Tryz.prog (.loop de0) S (QR Tryz.prog [(4, none), (5, none)] (RF74 res)) [(14, vi a0), (13, vi (x1.Keys.length : Int)), (12, a7), (7, vi a5), (6, vi a4), (2, .fp v0)] h := by
 intro m
 induction m with
 | zero =>
  intro a4 a5 a0 c2 b0 h M0 hres
  rw [iu] at hres
  refine bp (sR (bN cj rfl rfl (nS (af ?_))))
  refine bf rfl ?_ ?_ <;> intro c <;> try simp only [qa] at c
  ·omega
  refine db (dn (cq ?_))
  exact wP (c3 (Mem.sub M0 .slnil) hres) rfl
 | succ m ih =>
  intro a4 a5 a0 c2 b0 h M0 hres
  rw [iu] at hres
  refine bp (sR (bN cj rfl rfl (nS (af ?_))))
  refine bf rfl ?_ ?_ <;> intro c <;> try simp only [qa] at c
  rotate_left
  ·omega
  refine ax (ai (af (bc (sR (mV rfl ?_)))))
  obtain ⟨b1, c1, a3⟩ := ct (i := a0) a6 (by omega) (by omega)
  refine ae (bg rfl rfl c1) (lD a3 rfl rfl rfl ?_)
  refine dh (x := .agg [vi 0, vi 0, vi 0]) M0 rfl rfl (fun b5 c0 c4 b8 => ?_)
  refine mV rfl ?_
  refine de (k := 0) (v := b1) b8 rfl rfl rfl (TR.cnt bn.t a3) (fun a8 a2 => ?_)
  replace a2 : Mem a8 [⟨.op b5 c0 0, 112, 3, [b1]⟩] := a2
  refine nR (lD r0 rfl rfl rfl (ae (bm rfl) ?_))
  obtain ⟨c5, b6, b2⟩ := bn.g_Field a3
  refine ae (cm (k := 0) a2 rfl rfl b6) ?_
  obtain ⟨b7, b3, hres⟩ := cw hres
  have a9 := bz2  r0 b2 
  rw [b3] at a9
  refine cL a9 rfl rfl (aj (TR.clo ab.t r0) (aj (TR.clo cp.t b2) bb)) (mV rfl (nS (af (sR (mV rfl (bN md rfl rfl (nS ?_)))))))
  refine cv hres rfl ?_ ?_ <;> clear hres <;> intro c hres <;> try simp only [qa] at c
  ·refine sR (mV rfl (mV rfl (mI rfl (nS ?_))))
   exact rT hres rfl rfl rfl rfl rfl
  ·refine ax (ai (af (sR (ae (bm rfl) (ae (cm (k := 0) a2 rfl rfl (bn.g_Kind a3)) (nS (bc (sR ?_))))))))
   refine bN md rfl rfl (mV rfl (nS ?_))
   refine cv hres rfl ?_ ?_ <;> clear hres <;> intro c hres <;> try simp only [qa] at c
   ·refine ah (mV rfl (bN dp rfl rfl (mV rfl (aw (da (ai (ah (mV rfl ?_))))))))
    refine mV rfl (bN dp rfl rfl (mV rfl (aw (da (ai (ah (bN dp rfl rfl (mV rfl ?_))))))))
    refine aw (cf ?_)
    have hbd := df a6
    have hinc : wr (a0 + 1) = a0 + 1 := dg (by omega) (by omega)
    erw [hinc]
    exact wC (ih   (by omega) (by omega) (Mem.sub a2 (.cons _ .slnil)) hres) rfl
   ·refine af (sR (bN md rfl rfl (mV rfl (nS ?_))))
    obtain ⟨b9, b4, hres⟩ := cw hres
    refine wh (F := fun b S Q => ∀ (a1 : Bool), b9 a1 = res → RC Tryz.prog b S Q [(33, vb a1), (14, vi a0), (13, vi (x1.Keys.length : Int)), (12, a7), (10, vi b7), (8, vi a0), (7, vi a5), (6, vi a4), (2, .fp v0)] a8) ?_ ?_
    ·intro a1  hres
     rw [← b4] at hres
     refine cv hres rfl ?_ ?_ <;> clear hres <;> intro c hres <;> try simp only [qa] at c
     ·refine ax (da (ai (ah (mV rfl (mV rfl (bN dp rfl rfl (mV rfl (aw ?_))))))))
      refine da (ai (ah (bN dp rfl rfl (mV rfl (aw (cf ?_))))))
      have hbd := df a6
      have hinc : wr (a0 + 1) = a0 + 1 := dg (by omega) (by omega)
      erw [hinc]
      exact wC (ih   (by omega) (by omega) (Mem.sub (Mem.nil a8) .slnil) hres) rfl
     ·refine sR (mV rfl (mV rfl (mI rfl (nS ?_))))
      exact rT hres rfl rfl rfl rfl rfl
    ·intro J
     refine cv hres rfl ?_ ?_ <;> clear hres <;> intro c hres <;> try simp only [qa] at c
     ·refine ax ?_
      refine ai (wC (J _  hres) rfl)
     ·refine ah (bN md rfl rfl (mV rfl (aw ?_)))
      refine ai (wC (J _  hres) rfl)

theorem dz9 {x0 : ab} {x1 : az} {v0 v1 : PV} (r0 : ab.t.R x0 v0) (r1 : az.t.R x1 v1) : FnR Tryz.prog 74 [v0, v1] (.tup [vi ((nq x0 x1).1), vi ((nq x0 x1).2)]) := by
 refine fnS (R := RF74) cl5 (fun _ h => h) rfl fun res hres => ?_
 unfold nq at hres
 refine sR (ae (di rfl (TR.cnt ab.t r0)) (ae (di rfl (TR.cnt az.t r1)) (mI rfl (mI rfl (nR (mI rfl (mI rfl (nS ?_))))))))
 refine af (sR (gL (az.g_Keys r1) rfl rfl rfl fun a3 a0 => (ae (cg rfl (bq a0 Tryz.underlying85 _)) (mI rfl (nS (bc ?_))))))
 refine wC (xn r0 a0 ?_  rfl (by omega) (Mem.sub (Mem.nil ⟨0, []⟩) .slnil) hres) rfl
 ·intro a1 a2 a4 a5 hres
  refine dv (ai (af (sR (mV rfl (bN gh rfl rfl (nS ?_))))))
  refine cv hres rfl ?_ ?_ <;> clear hres <;> intro c hres <;> try simp only [qa] at c
  ·refine sR (mI rfl (mI rfl (nS ?_)))
   exact rT hres rfl rfl rfl rfl rfl
  ·refine ax (ai (af (sR (mV rfl (bN gh rfl rfl (nS ?_))))))
   refine cv hres rfl ?_ ?_ <;> clear hres <;> intro c hres <;> try simp only [qa] at c
   ·refine sR (mI rfl (mI rfl (nS ?_)))
    exact rT hres rfl rfl rfl rfl rfl
   ·refine ax (ai (sR (mI rfl (mI rfl (nS ?_)))))
    exact rT hres rfl rfl rfl rfl rfl

def RF95 (res : Bool) (r : PV) : Prop := r = vb res
theorem at1 {x0 : BitVec 32} {x1 : Int} : FnR Tryz.prog 95 [dx x0, vi x1] (vb (lv x0 x1)) := by
 refine fnS (R := RF95) ci6 (fun _ h => h) rfl fun res hres => ?_
 unfold lv at hres
 refine sR (mB rfl (nR (mV rfl (ae (v := .fs true [vi x1]) (fm rfl (all_cons rfl jn)) ?_))))
 have a5 : (tSl tI).R ([x1] : List Int) (.fs true [vi x1]) := rh ⟨rfl, trivial⟩ (by simp)
 obtain ⟨a4, a2, hres⟩ := cw hres
 have a1 := ai7  a5 
 rw [a2] at a1
 refine cL a1 rfl rfl (aj (TR.clo (tSl tI) a5) bb) (mV rfl ?_)
 refine bw 5 (d := 13) (v := vb (a4 && (decide (x0 ≤ (fh x1))))) ?_ ?_
 ·intro S Q r
  cases a3 : a4
  ·exact gN 4 rfl rfl rfl rfl rfl rfl
  ·intro k
   have a0 := a3
   try simp only [qa] at a0
   refine ak rfl rfl (aq rfl) (ak rfl rfl (aq rfl) ?_)
   have a6 := yv (x0 := x1)  
   refine io rfl rfl (qt rfl rfl (aj rfl bb) a6) (ak rfl rfl (ay (a := dx x0) (b := dx (fh x1)) rfl rfl ef3) ?_)
   exact gK rfl rfl rfl rfl rfl k
 refine mV rfl (nS ?_)
 exact rR hres rfl rfl rfl

def RF78 (res : Int) (r : PV) : Prop := r = vi res
theorem xc {S : List Fr} {res : Int} {x0 : ab} {x1 : bh} {a9 a6 : PV} (b0 : ((decide (x1.Action < 0)) || (decide ((x0.Actions.length : Int) ≤ x1.Action))) = false) (b2 : (tSl ck.t).R ((ix x0.Actions x1.Action).Params) a9) (a7 : (!decide ((x1.Args.length : Int) = (((ix x0.Actions x1.Action).Params).length : Int))) = false) (a3 : (tSl ru).R x1.Args a6) {K0 : Unit → Int}
  (b7 : K0 () = res → PX Tryz.prog 0 S (QR Tryz.prog [(4, none)] (RF78 res)) [] ⟨0, []⟩) :
  ∀ {m : Nat} {a0 : Int} (b4 : m = Int.toNat ((x1.Args.length : Int) - a0)) (a5 : 0 ≤ a0), jc x0 x1 K0 m a0 = res → RC Tryz.prog (.loop cy8) S (QR Tryz.prog [(4, none)] (RF78 res)) [(35, vi a0), (34, vi (x1.Args.length : Int)), (33, a6), (5, a9)] ⟨0, []⟩ := by
 have a2 := b0
 try simp only [qa] at a2
 have a1 := a7
 try simp only [qa] at a1
 intro m
 induction m with
 | zero =>
  intro a0 b4 a5 hres
  rw [jc] at hres
  refine bp (sR (bN cj rfl rfl (nS (af ?_))))
  refine bf rfl ?_ ?_ <;> intro c <;> try simp only [qa] at c
  ·omega
  refine db (dn (cq ?_))
  exact wP (b7  hres) rfl
 | succ m ih =>
  intro a0 b4 a5 hres
  rw [jc] at hres
  refine bp (sR (bN cj rfl rfl (nS (af ?_))))
  refine bf rfl ?_ ?_ <;> intro c <;> try simp only [qa] at c
  rotate_left
  ·omega
  refine ax (ai (af (bc (sR (mV rfl (ae (bg rfl rfl (dl9 a3 (by omega) (by omega))) (lR rfl rfl rfl (mV rfl ?_))))))))
  refine mV rfl (nR (mV rfl (mV rfl (mV rfl ?_))))
  obtain ⟨b5, b1, b3⟩ := ct (i := a0) b2 (by omega) (by omega)
  refine ae (bg rfl rfl b1) (fL rfl (ck.g_Width b3) rfl rfl ?_)
  obtain ⟨b6, a8, hres⟩ := cw hres
  have a4 := at1 (x0 := (ix x1.Args a0)) (x1 := (ix ((ix x0.Actions x1.Action).Params) a0).Width)  
  rw [a8] at a4
  refine cL a4 rfl rfl (aj rfl (aj rfl bb)) (ae (gu rfl) (nS ?_))
  refine cv hres rfl ?_ ?_ <;> clear hres <;> intro c hres <;> try simp only [qa] at c
  ·refine sR (mI rfl (nS ?_))
   exact rR hres rfl rfl rfl
  ·refine ax (da (ai (ah (bN dp rfl rfl (mV rfl (aw (cf ?_)))))))
   have hbd := df a3
   have hinc : wr (a0 + 1) = a0 + 1 := dg (by omega) (by omega)
   erw [hinc]
   exact wC (ih   (by omega) (by omega) hres) rfl

theorem bz1 {x0 : ab} {x1 : bh} {v0 v1 : PV} (r0 : ab.t.R x0 v0) (r1 : bh.t.R x1 v1) : FnR Tryz.prog 78 [v0, v1] (vi (mr x0 x1)) := by
 refine fnS (R := RF78) ch4 (fun _ h => h) rfl fun res hres => ?_
 unfold mr at hres
 refine sR (ae (di rfl (TR.cnt ab.t r0)) (ae (di rfl (TR.cnt bh.t r1)) (mI rfl (nS (af (sR (fL rfl (bh.g_Action r1) rfl rfl (bN cj rfl rfl ?_))))))))
 refine mV rfl ?_
 refine bw 7 (d := 18) (v := vb ((decide (x1.Action < 0)) || (decide ((x0.Actions.length : Int) ≤ x1.Action)))) ?_ ?_
 ·intro S Q r
  cases a8 : (decide (x1.Action < 0))
  ·intro k
   have a4 := a8
   try simp only [qa] at a4
   refine ak rfl rfl (bz rfl (bh.g_Action r1)) (ak rfl rfl (br rfl rfl rfl) ?_)
   obtain ⟨b6, b4, a2⟩ := ab.g_Actions r0
   refine ak rfl rfl (bz rfl b4) (ak rfl rfl (br rfl (TR.cnt (tSl dc.t) a2) (TR.agg (tSl dc.t) a2)) (ak rfl rfl (cg rfl (bq a2 Tryz.underlying25 _)) (ak rfl rfl (ay rfl rfl se) ?_)))
   exact gK rfl rfl rfl rfl rfl k
  ·exact gN 6 rfl rfl rfl rfl rfl rfl
 refine nS ?_
 refine cv hres rfl ?_ ?_ <;> clear hres <;> intro a1 hres <;> have a5 := a1 <;> try simp only [qa] at a5
 ·refine sR (mI rfl (nS ?_))
  exact rR hres rfl rfl rfl
 ·refine ax (ai (sR ?_))
  obtain ⟨c0, b5, b0⟩ := ab.g_Actions r0
  refine fA rfl b5 (lD b0 rfl rfl rfl (fL rfl (bh.g_Action r1) rfl rfl ?_))
  obtain ⟨b7, b2, b3⟩ := ct (i := x1.Action) b0 (by omega) (by omega)
  refine ae (bg rfl rfl b2) (gL (dc.g_Params b3) rfl rfl rfl fun c1 a7 => (mV rfl (nS (af (sR ?_)))))
  obtain ⟨b8, b1, a9⟩ := bh.g_Args r1
  refine fA rfl b1 (lD a9 rfl rfl rfl (ae (cg rfl (bq a9 Tryz.underlying33 _)) (mV rfl (ae (cg rfl (bq a7 Tryz.underlying23 _)) (bN jq rfl rfl (nS ?_))))))
  refine cv hres rfl ?_ ?_ <;> clear hres <;> intro a0 hres <;> have a3 := a0 <;> try simp only [qa] at a3
  ·refine sR (mI rfl (nS ?_))
   exact rR hres rfl rfl rfl
  ·refine ax (ai (af (sR (gL (bh.g_Args r1) rfl rfl rfl fun b9 a6 => (ae (cg rfl (bq a6 Tryz.underlying33 _)) (mI rfl (nS (bc ?_))))))))
   refine wC (xc a1 a7 a0 a6 ?_  rfl (by omega) hres) rfl
   ·intro  hres
    refine dv (ai (sR (mI rfl (nS ?_))))
    exact rR hres rfl rfl rfl

def RF75 (res : Int) (r : PV) : Prop := r = vi res
theorem vk {S : List Fr} {res : Int} {x0 : ab} {x1 : az} {v0 v1 b0 : PV} {a5 a4 : Nat} (r0 : ab.t.R x0 v0) (b2 : (tSl tI).R x1.Actions b0) {K0 : (List (Int × Bool)) → Int}
  (b9 : ∀ {a1 : List (Int × Bool)} {a0 : List PV} (a3 : All2 (tKV tB).R a1 a0) {h : Heap} (M0 : Mem h [⟨.om a5 a4, 82, 2, a0⟩]), K0 a1 = res → PX Tryz.prog 0 S (QR Tryz.prog [(4, none)] (RF75 res)) [(2, .fp v0), (3, .fp v1), (5, .om a5 a4)] h) :
  ∀ {m : Nat} {a2 : Int} {a1 : List (Int × Bool)} {a0 : List PV} (a3 : All2 (tKV tB).R a1 a0) (b7 : m = Int.toNat ((x1.Actions.length : Int) - a2)) (a9 : 0 ≤ a2) {h : Heap} (M0 : Mem h [⟨.om a5 a4, 82, 2, a0⟩]), gb x0 x1 K0 m a2 a1 = res → RC Tryz.prog (.loop di3) S (QR Tryz.prog [(4, none)] (RF75 res)) [(12, vi a2), (11, vi (x1.Actions.length : Int)), (10, b0), (5, .om a5 a4), (3, .fp v1), (2, .fp v0)] h := by
 intro m
 induction m with
 | zero =>
  intro a2 a1 a0 a3 b7 a9 h M0 hres
  rw [gb] at hres
  refine bp (sR (bN cj rfl rfl (nS (af ?_))))
  refine bf rfl ?_ ?_ <;> intro c <;> try simp only [qa] at c
  ·omega
  refine db (dn (cq ?_))
  exact wP (b9 a3 (Mem.sub M0 (.cons_cons _ .slnil)) hres) rfl
 | succ m ih =>
  intro a2 a1 a0 a3 b7 a9 h M0 hres
  rw [gb] at hres
  refine bp (sR (bN cj rfl rfl (nS (af ?_))))
  refine bf rfl ?_ ?_ <;> intro c <;> try simp only [qa] at c
  rotate_left
  ·omega
  refine ax (ai (af (bc (sR (ae (bg rfl rfl (slI b2 (by omega) (by omega))) (lR rfl rfl rfl (mV rfl (nS ?_))))))))
  refine af (sR (mV rfl (bN cj rfl rfl (mV rfl ?_))))
  refine bw 6 (d := 24) (v := vb ((decide ((ix x1.Actions a2) < 0)) || (decide ((x0.Actions.length : Int) ≤ (ix x1.Actions a2))))) ?_ ?_
  ·intro S Q r
   cases b1 : (decide ((ix x1.Actions a2) < 0))
   ·intro k
    have a8 := b1
    try simp only [qa] at a8
    refine ak rfl rfl (aq rfl) ?_
    obtain ⟨c0, b4, a7⟩ := ab.g_Actions r0
    refine ak rfl rfl (bz rfl b4) (ak rfl rfl (br rfl (TR.cnt (tSl dc.t) a7) (TR.agg (tSl dc.t) a7)) (ak rfl rfl (cg rfl (bq a7 Tryz.underlying25 _)) (ak rfl rfl (ay rfl rfl se) ?_)))
    exact gK rfl rfl rfl rfl rfl k
   ·exact gN 5 rfl rfl rfl rfl rfl rfl
  refine nS ?_
  refine cv hres rfl ?_ ?_ <;> clear hres <;> intro c hres <;> try simp only [qa] at c
  ·refine sR (mI rfl (nS ?_))
   exact rR hres rfl rfl rfl
  ·refine ax (ai (af (sR (mV rfl (mV rfl ?_)))))
   refine az4 (k := 0) (t := tB) (zero := false) M0 rfl rfl rfl a3 rfl (fun b3 a6 => ?_)
   have a6 : b3 = vb ((mget a1 (ix x1.Actions a2)).getD false) := a6; subst a6
   refine nS ?_
   refine cv hres rfl ?_ ?_ <;> clear hres <;> intro c hres <;> try simp only [qa] at c
   ·refine sR (mI rfl (nS ?_))
    exact rR hres rfl rfl rfl
   ·refine ax (ai (ah (mV rfl (mV rfl ?_))))
    refine bj8 (k := 0) (t := tB) (v := vb true) M0 rfl rfl rfl rfl a3 (show tB.R true (vb true) from rfl) (fun c1 b8 b6 b5 => ?_)
    refine aw (da (ai (ah (bN dp rfl rfl (mV rfl (aw (cf ?_)))))))
    have hbd := df b2
    have hinc : wr (a2 + 1) = a2 + 1 := dg (by omega) (by omega)
    erw [hinc]
    exact wC (ih  b5 (by omega) (by omega) (Mem.sub b6 (.cons_cons _ .slnil)) hres) rfl

theorem dp2 {x0 : ab} {x1 : az} {v0 v1 : PV} (r0 : ab.t.R x0 v0) (r1 : az.t.R x1 v1) : FnR Tryz.prog 75 [v0, v1] (vi (nl x0 x1)) := by
 refine fnS (R := RF75) cm7 (fun _ h => h) rfl fun res hres => ?_
 unfold nl at hres
 refine sR (ae (di rfl (TR.cnt ab.t r0)) (ae (di rfl (TR.cnt az.t r1)) (mI rfl (nR ?_))))
 refine aj1 (Mem.nil ⟨0, []⟩) (fun b8 b6 b4 b3 => ?_)
 have a9 : All2 (tKV tB).R ([] : List (Int × Bool)) [] := trivial
 refine mV rfl (nS (af (sR (gL (az.g_Actions r1) rfl rfl rfl fun b5 a6 => (ae (cg rfl (bq a6 Tryz.underlying29 _)) (mI rfl (nS (bc ?_))))))))
 refine wC (vk r0 a6 ?_  a9 rfl (by omega) (Mem.sub b3 (.cons_cons _ .slnil)) hres) rfl
 ·intro a0 a3 a1 c1 b1 hres
  refine dv (ai (af (sR (mV rfl ?_))))
  obtain ⟨c0, b0, a8⟩ := az.g_Default r1
  refine fA rfl b0 (fL rfl (bh.g_Action a8) rfl rfl ?_)
  refine az4 (k := 0) (t := tB) (zero := false) b1 rfl rfl rfl a1 rfl (fun b2 a2 => ?_)
  have a2 : b2 = vb ((mget a0 x1.Default.Action).getD false) := a2; subst a2
  refine ae (gu rfl) (nS ?_)
  refine cv hres rfl ?_ ?_ <;> clear hres <;> intro c hres <;> try simp only [qa] at c
  ·refine sR (mI rfl (nS ?_))
   exact rR hres rfl rfl rfl
  ·refine ax (ai (sR (lD r0 rfl rfl rfl (gL (az.g_Default r1) rfl rfl rfl fun b9 a4 => ?_))))
   obtain ⟨b7, a5, hres⟩ := cw hres
   have a7 := bz1  r0 a4 
   rw [a5] at a7
   refine cL a7 rfl rfl (aj (TR.clo ab.t r0) (aj (TR.clo bh.t a4) bb)) (mV rfl (nS ?_))
   exact rR hres rfl rfl rfl

def RF39 (res : Int × Int) (r : PV) : Prop := r = .tup [vi res.1, vi res.2]
theorem bh1 {x0 : ab} {x1 : Int} {v0 : PV} (r0 : ab.t.R x0 v0) : FnR Tryz.prog 39 [v0, vi x1] (.tup [vi ((gx x0 x1).1), vi ((gx x0 x1).2)]) := by
 refine fnS (R := RF39) ci1 (fun _ h => h) rfl fun res hres => ?_
 unfold gx at hres
 refine sR (ae (di rfl (TR.cnt ab.t r0)) (mI rfl (mI rfl (nS (af (sR (mV rfl (bN cj rfl rfl ?_))))))))
 refine mV rfl ?_
 refine bw 6 (d := 15) (v := vb ((decide (x1 < 0)) || (decide ((x0.Tables.length : Int) ≤ x1)))) ?_ ?_
 ·intro S Q r
  cases b1 : (decide (x1 < 0))
  ·intro k
   have a4 := b1
   try simp only [qa] at a4
   refine ak rfl rfl (aq rfl) ?_
   obtain ⟨c8, c5, a2⟩ := ab.g_Tables r0
   refine ak rfl rfl (bz rfl c5) (ak rfl rfl (br rfl (TR.cnt (tSl az.t) a2) (TR.agg (tSl az.t) a2)) (ak rfl rfl (cg rfl (bq a2 Tryz.underlying26 _)) (ak rfl rfl (ay rfl rfl se) ?_)))
   exact gK rfl rfl rfl rfl rfl k
  ·exact gN 5 rfl rfl rfl rfl rfl rfl
 refine nS ?_
 refine cv hres rfl ?_ ?_ <;> clear hres <;> intro c hres <;> try simp only [qa] at c
 ·refine sR (mI rfl (mI rfl (nS ?_)))
  exact rT hres rfl rfl rfl rfl rfl
 ·refine ax (ai (sR ?_))
  obtain ⟨d3, b8, b3⟩ := ab.g_Tables r0
  refine fA rfl b8 (lD b3 rfl rfl rfl (mV rfl ?_))
  obtain ⟨b0, c4, a0⟩ := ct (i := x1) b3 (by omega) (by omega)
  refine ae (bg rfl rfl c4) (lD a0 rfl rfl rfl ?_)
  refine dh (x := .agg [vs [], nilS, nilS, vi 0, nilS, vi 0]) (Mem.nil ⟨0, []⟩) rfl rfl (fun b9 c0 d2 c2 => ?_)
  refine de (k := 0) (v := b0) c2 rfl rfl rfl (TR.cnt az.t a0) (fun c7 a1 => ?_)
  replace a1 : Mem c7 [⟨.op b9 c0 0, 87, 6, [b0]⟩] := a1
  refine nS (af (bc (sR (ae (bm rfl) (ae (cm (k := 0) a1 rfl rfl (az.g_Name a0)) ?_)))))
  obtain ⟨d0, b4, hres⟩ := cw hres
  have a7 := ds1 (x0 := (ix x0.Tables x1).Name)  
  rw [b4] at a7
  refine cL a7 rfl rfl (aj rfl bb) (ae (gu rfl) (mV rfl (nS ?_)))
  refine cv hres rfl ?_ ?_ <;> clear hres <;> intro c hres <;> try simp only [qa] at c
  ·refine sR (mI rfl (mI rfl (nS ?_)))
   exact rT hres rfl rfl rfl rfl rfl
  ·refine sR (ae (bm rfl) ?_)
   obtain ⟨c9, c3, c6⟩ := az.g_Keys a0
   refine ae (cm (k := 0) a1 rfl rfl c3) (ae (cg rfl (bq c6 Tryz.underlying85 _)) (bN gh rfl rfl (mV rfl ?_)))
   refine bw 5 (d := 36) (v := vb ((decide (6 < (((ix x0.Tables x1).Keys).length : Int))) || (decide (16 < (((ix x0.Tables x1).Actions).length : Int))))) ?_ ?_
   ·intro S Q r
    cases a6 : (decide (6 < (((ix x0.Tables x1).Keys).length : Int)))
    ·intro k
     have a3 := a6
     try simp only [qa] at a3
     refine ak rfl rfl (bm rfl) ?_
     obtain ⟨d5, c1, b7⟩ := az.g_Actions a0
     refine ak rfl rfl (cm (k := 0) a1 rfl rfl c1) (ak rfl rfl (cg rfl (bq b7 Tryz.underlying29 _)) (ak rfl rfl (ay rfl rfl gh) ?_))
     exact gK rfl rfl rfl rfl rfl k
    ·exact gN 4 rfl rfl rfl rfl rfl rfl
   refine mV rfl (nS ?_)
   refine cv hres rfl ?_ ?_ <;> clear hres <;> intro c hres <;> try simp only [qa] at c
   ·refine sR (mI rfl (mI rfl (nS ?_)))
    exact rT hres rfl rfl rfl rfl rfl
   ·refine sR (ae (bm rfl) (ae (cm (k := 0) a1 rfl rfl (az.g_Size a0)) (bN cj rfl rfl (mV rfl ?_))))
    refine bw 4 (d := 45) (v := vb ((decide (((ix x0.Tables x1).Size) < 1)) || (decide (256 < ((ix x0.Tables x1).Size))))) ?_ ?_
    ·intro S Q r
     cases b6 : (decide (((ix x0.Tables x1).Size) < 1))
     ·intro k
      have a5 := b6
      try simp only [qa] at a5
      refine ak rfl rfl (bm rfl) (ak rfl rfl (cm (k := 0) a1 rfl rfl (az.g_Size a0)) (ak rfl rfl (ay rfl rfl gh) ?_))
      exact gK rfl rfl rfl rfl rfl k
     ·exact gN 3 rfl rfl rfl rfl rfl rfl
    refine mV rfl (nS ?_)
    refine cv hres rfl ?_ ?_ <;> clear hres <;> intro c hres <;> try simp only [qa] at c
    ·refine sR (mI rfl (mI rfl (nS ?_)))
     exact rT hres rfl rfl rfl rfl rfl
    ·refine ax (da (ai (af (sR (lD r0 rfl rfl rfl (ae (fe (k := 0) a1 rfl rfl (TR.agg az.t a0)) ?_))))))
     obtain ⟨d4, a9, hres⟩ := cw hres
     have b5 := dz9  r0 a0 
     rw [a9] at b5
     refine cL b5 rfl rfl (aj (TR.clo ab.t r0) (aj (TR.clo az.t a0) bb)) (mV rfl (xT rfl rfl (xT rfl rfl (mV rfl (mV rfl (nR (mV rfl (bN jq rfl rfl ?_))))))))
     refine nS ?_
     refine cv hres rfl ?_ ?_ <;> clear hres <;> intro c hres <;> try simp only [qa] at c
     ·refine sR (mV rfl (mV rfl (mV rfl (mV rfl (nS ?_)))))
      exact rT hres rfl rfl rfl rfl rfl
     ·refine ax (ai (af (sR (lD r0 rfl rfl rfl (ae (fe (k := 0) a1 rfl rfl (TR.agg az.t a0)) ?_)))))
      obtain ⟨d1, b2, hres⟩ := cw hres
      have a8 := dp2  r0 a0 
      rw [b2] at a8
      refine cL a8 rfl rfl (aj (TR.clo ab.t r0) (aj (TR.clo az.t a0) bb)) (mV rfl (nR (mV rfl (bN jq rfl rfl (nS ?_)))))
      refine cv hres rfl ?_ ?_ <;> clear hres <;> intro c hres <;> try simp only [qa] at c
      ·refine sR (mV rfl (mI rfl (mV rfl (nS ?_))))
       exact rT hres rfl rfl rfl rfl rfl
      ·refine ax (ai (sR (mI rfl (mI rfl (nS ?_)))))
       exact rT hres rfl rfl rfl rfl rfl

def RF80 (res : Bool) (r : PV) : Prop := r = vb res
theorem bi1 {x0 : ab} {x1 : Int} {v0 : PV} (r0 : ab.t.R x0 v0) : FnR Tryz.prog 80 [v0, vi x1] (vb (gc x0 x1)) := by
 refine fnS (R := RF80) cl4 (fun _ h => h) rfl fun res hres => ?_
 unfold gc at hres
 refine sR (ae (di rfl (TR.cnt ab.t r0)) (mB rfl (nR (lD r0 rfl rfl rfl (mV rfl ?_)))))
 obtain ⟨a2, a0, hres⟩ := cw hres
 have a1 := bh1 (x1 := x1) r0 
 rw [a0] at a1
 refine cL a1 rfl rfl (aj (TR.clo ab.t r0) (aj rfl bb)) (mV rfl (xT rfl rfl (xT rfl rfl (mV rfl (mV rfl (nR (mV rfl (bN md rfl rfl ?_))))))))
 refine mV rfl (nS ?_)
 exact rR hres rfl rfl rfl

def RF45 (res : (List Int)) (r : PV) : Prop := (tSl tI).R res r
theorem aa3 {S : List Fr} {res : (List Int)} {x0 : ab} {x1 : Int} {c2 : Bool} {v0 b8 : PV} (r0 : ab.t.R x0 v0) (d9 : gc x0 x1 = c2) (c7 : (!c2) = false) (c4 : (tSl bn.t).R ((ix x0.Tables x1).Keys) b8) {K0 : (List Int) → (List Int)}
  (e2 : ∀ {a2 : List Int} {a0 : List PV} {a1 : PV} (a5 : All2 tI.R a2 a0) (a7 : isL a1 = true) (a3 : Wri a1 a0) (a6 : a2.length ≤ 4611686018427387904) {h : Heap} (M0 : Mem h [⟨a1, 3, 1, a0⟩]), K0 a2 = res → PX Tryz.prog 0 S (QR Tryz.prog [(4, none)] (RF45 res)) [(5, a1)] h) :
  ∀ {m : Nat} {a4 : Int} {a2 : List Int} {a0 : List PV} {a1 : PV} (a5 : All2 tI.R a2 a0) (a7 : isL a1 = true) (a3 : Wri a1 a0) (a6 : a2.length ≤ 4611686018427387904) (d8 : m = Int.toNat ((((ix x0.Tables x1).Keys).length : Int) - a4)) (b9 : 0 ≤ a4) (b1 : (a2.length : Int) ≤ a4) {h : Heap} (M0 : Mem h [⟨a1, 3, 1, a0⟩]), kt x0 x1 K0 m a4 a2 = res → RC Tryz.prog (.loop cw8) S (QR Tryz.prog [(4, none)] (RF45 res)) [(19, vi a4), (18, vi (((ix x0.Tables x1).Keys).length : Int)), (17, b8), (5, a1), (2, .fp v0)] h := by
 have b4 := c7
 try simp only [qa] at b4
 intro m
 induction m with
 | zero =>
  intro a4 a2 a0 a1 a5 a7 a3 a6 d8 b9 b1 h M0 hres
  rw [kt] at hres
  refine bp (sR (bN cj rfl rfl (nS (af ?_))))
  refine bf rfl ?_ ?_ <;> intro c <;> try simp only [qa] at c
  ·omega
  refine db (dn (cq ?_))
  exact wP (e2 a5 a7 a3 a6 (Mem.sub M0 (.cons_cons _ .slnil)) hres) rfl
 | succ m ih =>
  intro a4 a2 a0 a1 a5 a7 a3 a6 d8 b9 b1 h M0 hres
  rw [kt] at hres
  refine bp (sR (bN cj rfl rfl (nS (af ?_))))
  refine bf rfl ?_ ?_ <;> intro c <;> try simp only [qa] at c
  rotate_left
  ·omega
  refine ax (ai (af (bc (sR ?_))))
  obtain ⟨c5, d5, b3⟩ := ct (i := a4) c4 (by omega) (by omega)
  refine ae (bg rfl rfl d5) (lD b3 rfl rfl rfl ?_)
  refine dh (x := .agg [vi 0, vi 0, vi 0]) M0 rfl rfl (fun d6 d4 e4 d7 => ?_)
  refine de (k := 0) (v := c5) d7 rfl rfl rfl (TR.cnt bn.t b3) (fun c0 b0 => ?_)
  replace b0 : Mem c0 [⟨.op d6 d4 0, 112, 3, [c5]⟩, ⟨a1, 3, 1, a0⟩] := b0
  refine nS (ah (mV rfl (lD r0 rfl rfl rfl (ae (bm rfl) ?_))))
  obtain ⟨e3, d0, c3⟩ := bn.g_Field b3
  refine ae (cm (k := 0) b0 rfl rfl d0) ?_
  obtain ⟨a9, b5, hres⟩ := cw hres
  have c1 := bz2  r0 c3 
  rw [b5] at c1
  refine cL c1 rfl rfl (aj (TR.clo ab.t r0) (aj (TR.clo cp.t c3) bb)) (ae (v := .fs true [vi a9]) (fm rfl (all_cons rfl jn)) ?_)
  have d2 : (tSl tI).R ([a9] : List Int) (.fs true [vi a9]) := rh ⟨rfl, trivial⟩ (by simp)
  obtain ⟨a8, c6, b2⟩ := qc (t := tI) (h := c0) d2
  have c8 : fits (a0.length + a8.length) 8 = true := by rw [All2.length_eq a5, All2.length_eq b2]; (try simp only [List.length_cons, List.length_nil]); exact kx (by have hk := tv (by assumption) (by assumption); omega) (by have hk := tv (by assumption) (by assumption); omega)
  refine lh (k := 1) (es := a0) (news := a8) b0 rfl rfl rfl a7 a3 c6 c8 (fun e1 e0 d1 b6 d3 => ?_)
  have c9 : All2 tI.R (a2 ++ ([a9] : List Int)) (a0 ++ a8) := All2.app a5 b2
  have b7 : (a2 ++ ([a9] : List Int)).length ≤ 4611686018427387904 := by rw [← All2.length_eq c9, List.length_append]; exact ny c8
  refine mV rfl (aw (da (ai (ah (bN dp rfl rfl (mV rfl (aw (cf ?_))))))))
  have hbd := df c4
  have hinc : wr (a4 + 1) = a4 + 1 := dg (by omega) (by omega)
  erw [hinc]
  exact wC (ih  c9 d1 b6 b7 (by omega) (by omega) (by ((simp only [List.length_append, List.length_cons, List.length_nil, List.length_set]; omega))) (Mem.sub d3 (.cons _ (.cons_cons _ .slnil))) hres) rfl

theorem av9 {x0 : ab} {x1 : Int} {v0 : PV} (r0 : ab.t.R x0 v0) : ∃ r, FnR Tryz.prog 45 [v0, vi x1] r ∧ (tSl tI).R (dj x0 x1) r := by
 refine fnT (R := RF45) cd7 rfl fun res hres => ?_
 unfold dj at hres
 refine sR (ae (di rfl (TR.cnt ab.t r0)) (ae (v := nilS) (aq rfl) (nS (af (sR (lD r0 rfl rfl rfl (mV rfl ?_)))))))
 obtain ⟨c3, a3, hres⟩ := cw hres
 have a9 := bi1 (x1 := x1) r0 
 rw [a3] at a9
 refine cL a9 rfl rfl (aj (TR.clo ab.t r0) (aj rfl bb)) (ae (gu rfl) (nS ?_))
 refine cv hres rfl ?_ ?_ <;> clear hres <;> intro a4 hres <;> have a5 := a4 <;> try simp only [qa] at a5
 ·refine sR (ae (v := nilS) (aq rfl) (nS ?_))
  exact rR hres rfl (TR.clo (tSl tI) fg) fg
 ·refine ax (ai (sR (ae (v := nilS) (aq rfl) (nS (af (sR (gL (ab.g_Tables r0) rfl rfl rfl fun c1 b7 => (mV rfl ?_))))))))
  obtain ⟨c2, b8, b5⟩ := ct (i := x1) b7 (by ((have hk := tv (by assumption) (by assumption); omega))) (by ((have hk := tv (by assumption) (by assumption); omega)))
  refine ae (bg rfl rfl b8) (gL (az.g_Keys b5) rfl rfl rfl fun c0 b0 => (ae (cg rfl (bq b0 Tryz.underlying85 _)) (mI rfl (nS (bc ?_)))))
  have b3 := ml (sz := 1) (es := []) (Mem.nil ⟨0, []⟩) 3 (.inl ⟨none, rfl, rfl⟩) (by simp)
  refine wC (aa3 r0 a3 a4 b0 ?_  aL rfl (.inl rfl) (by decide) rfl (by omega) (by ((simp; done))) (Mem.sub b3 (.cons_cons _ .slnil)) hres) rfl
  ·intro a6 a8 b1 a1 a2 a7 a0 c4 b6 hres
   refine dv (ai (sR (mV rfl (mV rfl (nS ?_)))))
   obtain ⟨b9, b4, b2⟩ := tw (P := Tryz.prog) (k := 0) (t := tI) b6 rfl a2 a1 (Nat.le_trans a0 (by decide))
   subst hres
   exact dk (.tmp rfl .nil) b4 b2

end Go.Proofs.YthdnpgpnodgicaaGreat
