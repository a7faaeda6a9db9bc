/-
 The code of each function does what its plain program says.
-/
import Derived.Test.YthdnpgpnodgicaaGreatL6W7
set_option linter.unusedVariables false
set_option linter.unusedSimpArgs false
set_option maxRecDepth 100000
namespace Go.Proofs.YthdnpgpnodgicaaGreat
open Go Go.Pb Go.RowKit
def RF108 (res : Int) (r : PV) : Prop := r = vi res
theorem xm {S : List Fr} {res : Int} {K0 : Int → Int}
  (a5 : ∀ {a1 : Int}, K0 a1 = res → PX Tryz.prog 0 S (QR Tryz.prog [(2, none)] (RF108 res)) [(3, vi a1)] ⟨0, []⟩) :
  ∀ {m : Nat} {a2 : BitVec 32} {a1 a0 : Int} (a4 : m = Int.toNat (32 - a0)) (a3 : 0 ≤ a0), jr K0 m a2 a1 a0 = res → RC Tryz.prog (.loop bx1) S (QR Tryz.prog [(2, none)] (RF108 res)) [(4, vi a0), (3, vi a1), (0, dx a2)] ⟨0, []⟩ := by
 intro m
 induction m with
 | zero =>
  intro a2 a1 a0 a4 a3 hres
  rw [jr] at hres
  refine bp (af (sR (mV rfl (bN cj rfl rfl (nS ?_)))))
  refine bf rfl ?_ ?_ <;> intro c <;> try simp only [qa] at c
  ·omega
  refine db (dn (cq ?_))
  exact wP (a5  hres) rfl
 | succ m ih =>
  intro a2 a1 a0 a4 a3 hres
  rw [jr] at hres
  refine bp (af (sR (mV rfl (bN cj rfl rfl (nS ?_)))))
  refine bf rfl ?_ ?_ <;> intro c <;> try simp only [qa] at c
  rotate_left
  ·omega
  refine ax (ai (af (bc (sR (mV rfl (mV rfl (ae (ay (a := dx a2) (b := dx 2#32) rfl rfl (ee6 (by decide))) (ae (qw (a := dx (a2 % 2#32)) rfl (c_wi Tryz.underlying64 Tryz.underlying3)) ?_))))))))
  refine bN dp rfl rfl (mV rfl (nS (ah (mV rfl (ae (ay (a := dx a2) (b := dx 2#32) rfl rfl (eh4 (by decide))) (mV rfl (aw (da ?_))))))))
  refine ai (ah (mV rfl (bN dp rfl rfl (mV rfl (aw (cf ?_))))))
  have hinc : wr (a0 + 1) = a0 + 1 := dg (by omega) (by omega)
  erw [hinc]
  exact wC (ih   (by omega) (by omega) hres) rfl

theorem cv0 {x0 : BitVec 32} : FnR Tryz.prog 108 [dx x0] (vi (pu x0)) := by
 refine fnS (R := RF108) cz7 (fun _ h => h) rfl fun res hres => ?_
 unfold pu at hres
 refine sR (mI rfl (nR (mI rfl (nS (af (sR (mI rfl (nS ?_))))))))
 refine bc ?_
 refine wC (xm  ?_  rfl (by omega) hres) rfl
 ·intro a0 hres
  refine dv (ai (sR (mV rfl (mV rfl (nS ?_)))))
  exact rR hres rfl rfl rfl

def RF71 (res : Int) (r : PV) : Prop := r = vi res
theorem ww {S : List Fr} {res : Int} {x0 : ab} {x1 : Int} {x2 : au} {v0 v2 : PV} (r0 : ab.t.R x0 v0) (r2 : au.t.R x2 v2) (a9 : ((decide (x1 < 0)) || (decide ((x0.Tables.length : Int) ≤ x1))) = false) {K0 : Unit → Int}
  (d1 : K0 () = res → PX Tryz.prog 0 S (QR Tryz.prog [(6, none)] (RF71 res)) [] ⟨0, []⟩) :
  ∀ {m : Nat} {a0 : Int} (c8 : m = Int.toNat ((((ix x0.Tables x1).Keys).length : Int) - a0)) (a6 : 0 ≤ a0), jf x0 x1 x2 K0 m a0 = res → RC Tryz.prog (.loop cr3) S (QR Tryz.prog [(6, none)] (RF71 res)) [(7, vi a0), (5, .fp v2), (3, .fp v0), (1, vi x1)] ⟨0, []⟩ := by
 have a2 := a9
 try simp only [qa] at a2
 intro m
 induction m with
 | zero =>
  intro a0 c8 a6 hres
  rw [jf] at hres
  refine bp (af (sR (mV rfl (gL (ab.g_Tables r0) rfl rfl rfl fun d6 c0 => (mV rfl ?_)))))
  obtain ⟨d2, c2, c4⟩ := ct (i := x1) c0 (by omega) (by omega)
  refine ae (bg rfl rfl c2) ?_
  obtain ⟨e3, c3, a5⟩ := az.g_Keys c4
  refine fA rfl c3 (lD a5 rfl rfl rfl (ae (cg rfl (bq a5 Tryz.underlying85 _)) (bN cj rfl rfl (nS ?_))))
  refine bf rfl ?_ ?_ <;> intro c <;> try simp only [qa] at c
  ·omega
  refine db (dn (cq ?_))
  exact wP (d1  hres) rfl
 | succ m ih =>
  intro a0 c8 a6 hres
  rw [jf] at hres
  refine bp (af (sR (mV rfl ?_)))
  obtain ⟨e0, b4, a7⟩ := ab.g_Tables r0
  refine fA rfl b4 (lD a7 rfl rfl rfl (mV rfl ?_))
  obtain ⟨d4, b1, b3⟩ := ct (i := x1) a7 (by omega) (by omega)
  refine ae (bg rfl rfl b1) ?_
  obtain ⟨e1, c5, a1⟩ := az.g_Keys b3
  refine fA rfl c5 (lD a1 rfl rfl rfl (ae (cg rfl (bq a1 Tryz.underlying85 _)) (bN cj rfl rfl (nS ?_))))
  refine bf rfl ?_ ?_ <;> intro c <;> try simp only [qa] at c
  rotate_left
  ·omega
  refine ax (ai (af (bc (sR (gL (ab.g_Tables r0) rfl rfl rfl fun c9 c7 => (mV rfl ?_))))))
  obtain ⟨e2, b5, b0⟩ := ct (i := x1) c7 (by omega) (by omega)
  refine ae (bg rfl rfl b5) (gL (az.g_Keys b0) rfl rfl rfl fun d7 c1 => (mV rfl ?_))
  obtain ⟨d9, b6, b2⟩ := ct (i := a0) c1 (by omega) (by omega)
  refine ae (bg rfl rfl b6) (fL rfl (bn.g_Kind b2) rfl rfl (bN md rfl rfl (nS ?_)))
  refine cv hres rfl ?_ ?_ <;> clear hres <;> intro c hres <;> try simp only [qa] at c
  ·refine af (sR (mV rfl (gL (au.g_Keys r2) rfl rfl rfl fun d8 b9 => (ae (cg rfl (bq b9 Tryz.underlying38 _)) (bN se rfl rfl (nS ?_))))))
   refine cv hres rfl ?_ ?_ <;> clear hres <;> intro c hres <;> try simp only [qa] at c
   ·refine sR (mI rfl (nS ?_))
    exact rR hres rfl rfl rfl
   ·refine ax (ai (sR ?_))
    obtain ⟨d0, b7, a4⟩ := au.g_Keys r2
    refine fA rfl b7 (lD a4 rfl rfl rfl (mV rfl ?_))
    obtain ⟨d3, b8, c6⟩ := ct (i := a0) a4 (by omega) (by omega)
    refine ae (bg rfl rfl b8) (fL rfl (ba.g_Mask c6) rfl rfl ?_)
    obtain ⟨d5, a8, hres⟩ := cw hres
    have a3 := cv0 (x0 := (ix x2.Keys a0).Mask)  
    rw [a8] at a3
    refine cL a3 rfl rfl (aj rfl bb) (mV rfl (nS ?_))
    exact rR hres rfl rfl rfl
  ·refine ax (da (ai (ah (mV rfl (bN dp rfl rfl (mV rfl (aw (cf ?_))))))))
   have hbd := df a1
   have hinc : wr (a0 + 1) = a0 + 1 := dg (by omega) (by omega)
   erw [hinc]
   exact wC (ih   (by omega) (by omega) hres) rfl

theorem cl7 {x0 : ab} {x1 : Int} {x2 : au} {v0 v2 : PV} (r0 : ab.t.R x0 v0) (r2 : au.t.R x2 v2) : FnR Tryz.prog 71 [v0, vi x1, v2] (vi (mu x0 x1 x2)) := by
 refine fnS (R := RF71) dz4 (fun _ h => h) rfl fun res hres => ?_
 unfold mu at hres
 refine sR (ae (di rfl (TR.cnt ab.t r0)) (ae (di rfl (TR.cnt au.t r2)) (mI rfl (nS (af (sR (mV rfl (bN cj rfl rfl ?_))))))))
 refine mV rfl ?_
 refine bw 6 (d := 16) (v := vb ((decide (x1 < 0)) || (decide ((x0.Tables.length : Int) ≤ x1)))) ?_ ?_
 ·intro S Q r
  cases a4 : (decide (x1 < 0))
  ·intro k
   have a2 := a4
   try simp only [qa] at a2
   refine ak rfl rfl (aq rfl) ?_
   obtain ⟨a6, a5, a1⟩ := ab.g_Tables r0
   refine ak rfl rfl (bz rfl a5) (ak rfl rfl (br rfl (TR.cnt (tSl az.t) a1) (TR.agg (tSl az.t) a1)) (ak rfl rfl (cg rfl (bq a1 Tryz.underlying26 _)) (ak rfl rfl (ay rfl rfl se) ?_)))
   exact gK rfl rfl rfl rfl rfl k
  ·exact gN 5 rfl rfl rfl rfl rfl rfl
 refine nS ?_
 refine cv hres rfl ?_ ?_ <;> clear hres <;> intro a0 hres <;> have a3 := a0 <;> try simp only [qa] at a3
 ·refine sR (mI rfl (nS ?_))
  exact rR hres rfl rfl rfl
 ·refine ax (ai (af (sR (mI rfl (nS (bc ?_))))))
  refine wC (ww r0 r2 a0 ?_  rfl (by omega) hres) rfl
  ·intro  hres
   refine dv (ai (sR (mI rfl (nS ?_))))
   exact rR hres rfl rfl rfl

def RF37 (res : Bool) (r : PV) : Prop := r = vb res
theorem dp4 {x0 : ab} {x1 : Int} {x2 : av} {x3 : av} {v0 v2 v3 : PV} (r0 : ab.t.R x0 v0) (r2 : av.t.R x2 v2) (r3 : av.t.R x3 v3) : FnR Tryz.prog 37 [v0, vi x1, v2, v3] (vb (pd x0 x1 x2 x3)) := by
 refine fnS (R := RF37) ea9 (fun _ h => h) rfl fun res hres => ?_
 unfold pd at hres
 refine sR (ae (di rfl (TR.cnt ab.t r0)) (ae (di rfl (TR.cnt av.t r2)) (ae (di rfl (TR.cnt av.t r3)) (mB rfl (nR (lD r0 rfl rfl rfl (mV rfl (gL (av.g_Entry r2) rfl rfl rfl fun b4 a0 => ?_))))))))
 obtain ⟨b5, a3, hres⟩ := cw hres
 have a1 := cl7 (x1 := x1) r0 a0 
 rw [a3] at a1
 refine cL a1 rfl rfl (aj (TR.clo ab.t r0) (aj rfl (aj (TR.clo au.t a0) bb))) (lD r0 rfl rfl rfl (mV rfl (gL (av.g_Entry r3) rfl rfl rfl fun b7 a4 => ?_)))
 obtain ⟨b9, a2, hres⟩ := cw hres
 have a5 := cl7 (x1 := x1) r0 a4 
 rw [a2] at a5
 refine cL a5 rfl rfl (aj (TR.clo ab.t r0) (aj rfl (aj (TR.clo au.t a4) bb))) (mV rfl (mV rfl (nS (af (bc (sR ?_))))))
 obtain ⟨b6, b1, b3⟩ := av.g_Entry r2
 refine fA rfl b1 (fL rfl (au.g_Priority b3) rfl rfl ?_)
 obtain ⟨c1, b2, a9⟩ := av.g_Entry r3
 refine fA rfl b2 (fL rfl (au.g_Priority a9) rfl rfl (bN jq rfl rfl (mV rfl (nS ?_))))
 refine cv hres rfl ?_ ?_ <;> clear hres <;> intro c hres <;> try simp only [qa] at c
 ·refine sR ?_
  obtain ⟨c0, a8, b0⟩ := av.g_Entry r2
  refine fA rfl a8 (fL rfl (au.g_Priority b0) rfl rfl ?_)
  obtain ⟨b8, a6, a7⟩ := av.g_Entry r3
  refine fA rfl a6 (fL rfl (au.g_Priority a7) rfl rfl (bN gh rfl rfl (mV rfl (nS ?_))))
  exact rR hres rfl rfl rfl
 ·refine sR (mV rfl (mV rfl (bN jq rfl rfl (mV rfl (nS ?_)))))
  refine cv hres rfl ?_ ?_ <;> clear hres <;> intro c hres <;> try simp only [qa] at c
  ·refine sR (mV rfl (mV rfl (bN gh rfl rfl (mV rfl (nS ?_)))))
   exact rR hres rfl rfl rfl
  ·refine ax (da (ai (sR (fL rfl (av.g_ID r2) rfl rfl (fL rfl (av.g_ID r3) rfl rfl (bN cj rfl rfl (mV rfl (nS ?_))))))))
   exact rR hres rfl rfl rfl

def RF57 (res : aa) (r : PV) : Prop := aa.t.R res r
theorem ae3 {S : List Fr} {res : aa} {x0 : ab} {x1 : Int} {x2 : au} {a1 : (List Int)} {v2 b9 : PV} {a8 a6 a5 a7 : Nat} (r2 : au.t.R x2 v2) (d3 : du x0 x1 = a1) (a9 : (tSl tI).R a1 b9) {K0 : aa → aa}
  (d2 : ∀ {a0 : aa} {a4 : PV} (a3 : aa.t.R a0 a4) {h : Heap} (M0 : Mem h [⟨.op a5 a7 0, 99, 2, [a4]⟩, ⟨.op a8 a6 0, 99, 2, [.agg [bd 0#64, bd 0#64]]⟩]), K0 a0 = res → PX Tryz.prog 0 S (QR Tryz.prog [(6, some (2, true))] (RF57 res)) [(6, .op a8 a6 0), (8, .op a5 a7 0)] h) :
  ∀ {m : Nat} {a2 : Int} {a0 : aa} {a4 : PV} (a3 : aa.t.R a0 a4) (d1 : m = Int.toNat ((a1.length : Int) - a2)) (b7 : 0 ≤ a2) {h : Heap} (M0 : Mem h [⟨.op a5 a7 0, 99, 2, [a4]⟩, ⟨.op a8 a6 0, 99, 2, [.agg [bd 0#64, bd 0#64]]⟩]), oo x2 a1 K0 m a2 a0 = res → RC Tryz.prog (.loop dd8) S (QR Tryz.prog [(6, some (2, true))] (RF57 res)) [(9, vi a2), (8, .op a5 a7 0), (7, b9), (6, .op a8 a6 0), (5, .fp v2)] h := by
 intro m
 induction m with
 | zero =>
  intro a2 a0 a4 a3 d1 b7 h M0 hres
  rw [oo] at hres
  refine bp (af (sR (mV rfl (mV rfl (ae (cg rfl (bq a9 Tryz.underlying29 _)) (bN cj rfl rfl (mV rfl ?_)))))))
  refine bw 6 (d := 24) (v := vb ((decide (a2 < (a1.length : Int))) && (decide (a2 < (x2.Keys.length : Int))))) ?_ ?_
  ·intro S Q r
   cases b8 : (decide (a2 < (a1.length : Int)))
   ·exact gN 5 rfl rfl rfl rfl rfl rfl
   ·intro k
    have b5 := b8
    try simp only [qa] at b5
    refine ak rfl rfl (aq rfl) ?_
    obtain ⟨d8, c9, b3⟩ := au.g_Keys r2
    refine ak rfl rfl (bz rfl c9) (ak rfl rfl (br rfl (TR.cnt (tSl ba.t) b3) (TR.agg (tSl ba.t) b3)) (ak rfl rfl (cg rfl (bq b3 Tryz.underlying38 _)) (ak rfl rfl (ay rfl rfl cj) ?_)))
    exact gK rfl rfl rfl rfl rfl k
  refine nS ?_
  refine bf rfl ?_ ?_ <;> intro c <;> try simp only [qa] at c
  ·omega
  refine db (dn (cq ?_))
  exact wP (d2 a3 (Mem.sub M0 (.cons_cons _ (.cons_cons _ .slnil))) hres) rfl
 | succ m ih =>
  intro a2 a0 a4 a3 d1 b7 h M0 hres
  rw [oo] at hres
  refine bp (af (sR (mV rfl (mV rfl (ae (cg rfl (bq a9 Tryz.underlying29 _)) (bN cj rfl rfl (mV rfl ?_)))))))
  refine bw 6 (d := 24) (v := vb ((decide (a2 < (a1.length : Int))) && (decide (a2 < (x2.Keys.length : Int))))) ?_ ?_
  ·intro S Q r
   cases b6 : (decide (a2 < (a1.length : Int)))
   ·exact gN 5 rfl rfl rfl rfl rfl rfl
   ·intro k
    have b2 := b6
    try simp only [qa] at b2
    refine ak rfl rfl (aq rfl) ?_
    obtain ⟨d9, c5, b1⟩ := au.g_Keys r2
    refine ak rfl rfl (bz rfl c5) (ak rfl rfl (br rfl (TR.cnt (tSl ba.t) b1) (TR.agg (tSl ba.t) b1)) (ak rfl rfl (cg rfl (bq b1 Tryz.underlying38 _)) (ak rfl rfl (ay rfl rfl cj) ?_)))
    exact gK rfl rfl rfl rfl rfl k
  refine nS ?_
  refine cv hres rfl ?_ ?_ <;> clear hres <;> intro c hres <;> try simp only [qa] at c
  ·refine ax (ai (af (bc (sR (ae (bm rfl) (ae (cm (k := 0) M0 rfl rfl (aa.g_Value a3)) (mV rfl (mV rfl ?_))))))))
   refine ae (bg rfl rfl (slI a9 (by omega) (by omega))) (lR rfl rfl rfl (ae (ay (a := bd a0.Value) (b := vi (ix a1 a2)) rfl rfl (aj7 (by exact (rwp (by assumption) (by omega) (by omega)).1))) (gL (au.g_Keys r2) rfl rfl rfl fun d7 c0 => (mV rfl ?_))))
   obtain ⟨d6, c8, c4⟩ := ct (i := a2) c0 (by omega) (by omega)
   refine ae (bg rfl rfl c8) (fL rfl (ba.g_Value c4) rfl rfl (ae (qw (a := dx ((ix x2.Keys a2).Value)) rfl (c_wd Tryz.underlying64 Tryz.underlying97)) (ae (ay (a := bd (a0.Value <<< (ix a1 a2).toNat)) (b := bd (BitVec.setWidth 64 ((ix x2.Keys a2).Value))) rfl rfl d_or) (ae (bm rfl) ?_))))
   have c7 := a3
   subst c7
   refine gw (k := 0) (v := bd ((a0.Value <<< (ix a1 a2).toNat) ||| (BitVec.setWidth 64 ((ix x2.Keys a2).Value)))) M0 rfl rfl rfl rfl rfl (by ((simp only [List.length_cons, List.length_nil]; omega))) (fun c2 b0 => ?_)
   replace b0 : Mem c2 [⟨.op a5 a7 0, 99, 2, [.agg [bd ((a0.Value <<< (ix a1 a2).toNat) ||| (BitVec.setWidth 64 ((ix x2.Keys a2).Value))), bd a0.Mask]]⟩, ⟨.op a8 a6 0, 99, 2, [.agg [bd 0#64, bd 0#64]]⟩] := b0
   refine nS (ah (ae (bm rfl) (ae (cm (k := 0) b0 rfl rfl rfl) (mV rfl (mV rfl (ae (bg rfl rfl (slI a9 (by omega) (by omega))) (lR rfl rfl rfl (ae (ay (a := bd a0.Mask) (b := vi (ix a1 a2)) rfl rfl (aj7 (by exact (rwp (by assumption) (by omega) (by omega)).1))) ?_))))))))
   refine gL (au.g_Keys r2) rfl rfl rfl fun d4 c3 => (mV rfl ?_)
   obtain ⟨d5, c6, d0⟩ := ct (i := a2) c3 (by omega) (by omega)
   refine ae (bg rfl rfl c6) (fL rfl (ba.g_Mask d0) rfl rfl (ae (qw (a := dx ((ix x2.Keys a2).Mask)) rfl (c_wd Tryz.underlying64 Tryz.underlying97)) (ae (ay (a := bd (a0.Mask <<< (ix a1 a2).toNat)) (b := bd (BitVec.setWidth 64 ((ix x2.Keys a2).Mask))) rfl rfl d_or) (ae (bm rfl) ?_))))
   refine gw (k := 0) (v := bd ((a0.Mask <<< (ix a1 a2).toNat) ||| (BitVec.setWidth 64 ((ix x2.Keys a2).Mask)))) b0 rfl rfl rfl rfl rfl (by ((simp only [List.length_cons, List.length_nil]; omega))) (fun c1 b4 => ?_)
   replace b4 : Mem c1 [⟨.op a5 a7 0, 99, 2, [.agg [bd ((a0.Value <<< (ix a1 a2).toNat) ||| (BitVec.setWidth 64 ((ix x2.Keys a2).Value))), bd ((a0.Mask <<< (ix a1 a2).toNat) ||| (BitVec.setWidth 64 ((ix x2.Keys a2).Mask)))]]⟩, ⟨.op a8 a6 0, 99, 2, [.agg [bd 0#64, bd 0#64]]⟩] := b4
   refine aw (da (ai (ah (mV rfl (bN dp rfl rfl (mV rfl (aw (cf ?_))))))))
   have hbd := df a9
   have hinc : wr (a2 + 1) = a2 + 1 := dg (by omega) (by omega)
   erw [hinc]
   exact wC (ih  rfl (by omega) (by omega) (Mem.sub b4 (.cons_cons _ (.cons_cons _ .slnil))) hres) rfl
  ·refine db (dn (cq ?_))
   exact wP (d2 a3 (Mem.sub M0 (.cons_cons _ (.cons_cons _ .slnil))) hres) rfl

theorem cp2 {x0 : ab} {x1 : Int} {x2 : au} {v0 v2 : PV} (r0 : ab.t.R x0 v0) (r2 : au.t.R x2 v2) : ∃ r, FnR Tryz.prog 57 [v0, vi x1, v2] r ∧ aa.t.R (su x0 x1 x2) r := by
 refine fnT (R := RF57) ea4 rfl fun res hres => ?_
 unfold su at hres
 refine sR (ae (di rfl (TR.cnt ab.t r0)) (ae (di rfl (TR.cnt au.t r2)) ?_))
 refine dh (x := .agg [bd 0#64, bd 0#64]) (Mem.nil ⟨0, []⟩) rfl rfl (fun b0 a8 b7 b6 => ?_)
 refine nR (lD r0 rfl rfl rfl (mV rfl ?_))
 obtain ⟨c2, a2, hres⟩ := cw hres
 obtain ⟨c0, b4, a7⟩ := bf4 (x1 := x1) r0 
 rw [a2] at a7
 refine cL b4 rfl rfl (aj (TR.clo ab.t r0) (aj rfl bb)) (mV rfl (nR (ae (v := .agg [bd 0#64, bd 0#64]) (kh (cs := [bd 0#64, bd 0#64]) rfl rfl) ?_)))
 refine dh (x := .agg [bd 0#64, bd 0#64]) b6 rfl rfl (fun a6 a9 c1 b2 => ?_)
 refine de (k := 0) (v := .agg [bd 0#64, bd 0#64]) b2 rfl rfl rfl rfl (fun b3 a4 => ?_)
 replace a4 : Mem b3 [⟨.op a6 a9 0, 99, 2, [.agg [bd 0#64, bd 0#64]]⟩, ⟨.op b0 a8 0, 99, 2, [.agg [bd 0#64, bd 0#64]]⟩] := a4
 refine nS (af (sR (mI rfl (nS (bc ?_)))))
 have b9 : aa.t.R ({ Value := 0#64, Mask := 0#64 } : aa) (.agg [bd 0#64, bd 0#64]) := rfl
 refine wC (ae3 r2 a2 a7 ?_  rfl rfl (by omega) (Mem.sub a4 (.cons_cons _ (.cons_cons _ .slnil))) hres) rfl
 ·intro a5 a1 a0 b8 b1 hres
  refine dv (ai (sR (ae (fe (k := 0) b1 rfl rfl (TR.agg aa.t a0)) ?_)))
  refine de (k := 1) (v := a1) b1 rfl rfl rfl (TR.cnt aa.t a0) (fun b5 a3 => ?_)
  replace a3 : Mem b5 [⟨.op a6 a9 0, 99, 2, [a1]⟩, ⟨.op b0 a8 0, 99, 2, [a1]⟩] := a3
  refine nS ?_
  subst hres
  exact dk (.cell rfl (ie (k := 1) a3 rfl (TR.agg aa.t a0)) .nil) (cd (TR.clo aa.t a0)) a0

def RF25 (res : Int) (r : PV) : Prop := r = vi res
theorem ae2 {S : List Fr} {res : Int} {x0 : ab} {x1 : Int} {a1 : (List Int)} {a4 : PV} (a7 : du x0 x1 = a1) (a0 : (tSl tI).R a1 a4) {K0 : Int → Int}
  (a8 : ∀ {a3 : Int}, K0 a3 = res → PX Tryz.prog 0 S (QR Tryz.prog [(4, none)] (RF25 res)) [(6, vi a3)] ⟨0, []⟩) :
  ∀ {m : Nat} {a3 a2 : Int} (a6 : m = Int.toNat ((a1.length : Int) - a2)) (a5 : 0 ≤ a2), jl a1 K0 m a3 a2 = res → RC Tryz.prog (.loop cr1) S (QR Tryz.prog [(4, none)] (RF25 res)) [(7, vi a2), (6, vi a3), (5, a4)] ⟨0, []⟩ := by
 intro m
 induction m with
 | zero =>
  intro a3 a2 a6 a5 hres
  rw [jl] at hres
  refine bp (af (sR (mV rfl (mV rfl (ae (cg rfl (bq a0 Tryz.underlying29 _)) (bN cj rfl rfl (nS ?_)))))))
  refine bf rfl ?_ ?_ <;> intro c <;> try simp only [qa] at c
  ·omega
  refine db (dn (cq ?_))
  exact wP (a8  hres) rfl
 | succ m ih =>
  intro a3 a2 a6 a5 hres
  rw [jl] at hres
  refine bp (af (sR (mV rfl (mV rfl (ae (cg rfl (bq a0 Tryz.underlying29 _)) (bN cj rfl rfl (nS ?_)))))))
  refine bf rfl ?_ ?_ <;> intro c <;> try simp only [qa] at c
  rotate_left
  ·omega
  refine ax (ai (af (bc (ah (mV rfl (mV rfl (mV rfl (ae (bg rfl rfl (slI a0 (by omega) (by omega))) ?_))))))))
  refine lR rfl rfl rfl (bN dp rfl rfl (mV rfl (aw (da (ai (ah (mV rfl (bN dp rfl rfl ?_))))))))
  refine mV rfl (aw (cf ?_))
  have hbd := df a0
  have hinc : wr (a2 + 1) = a2 + 1 := dg (by omega) (by omega)
  erw [hinc]
  exact wC (ih   (by omega) (by omega) hres) rfl

theorem ec8 {x0 : ab} {x1 : Int} {v0 : PV} (r0 : ab.t.R x0 v0) : FnR Tryz.prog 25 [v0, vi x1] (vi (qp x0 x1)) := by
 refine fnS (R := RF25) eb5 (fun _ h => h) rfl fun res hres => ?_
 unfold qp at hres
 refine sR (ae (di rfl (TR.cnt ab.t r0)) (mI rfl (nR (lD r0 rfl rfl rfl (mV rfl ?_)))))
 obtain ⟨a5, a0, hres⟩ := cw hres
 obtain ⟨a4, a3, a1⟩ := bf4 (x1 := x1) r0 
 rw [a0] at a1
 refine cL a3 rfl rfl (aj (TR.clo ab.t r0) (aj rfl bb)) (mV rfl (nR (mI rfl (nS (af (sR (mI rfl (nS ?_))))))))
 refine bc ?_
 refine wC (ae2 a0 a1 ?_  rfl (by omega) hres) rfl
 ·intro a2 hres
  refine dv (ai (sR (mV rfl (mV rfl (nS ?_)))))
  exact rR hres rfl rfl rfl

def RF104 (res : (BitVec 64)) (r : PV) : Prop := r = bd res
theorem cx1 {x0 : Int} : FnR Tryz.prog 104 [vi x0] (bd (py x0)) := by
 refine fnS (R := RF104) dg7 (fun _ h => h) rfl fun res hres => ?_
 unfold py at hres
 refine sR (ae (v := bd 0#64) (aq rfl) (nR (mV rfl (bN vv rfl rfl (ae (qw (a := vi (wr (x0 - 1))) rfl (c_id Tryz.underlying3 Tryz.underlying159)) (ae (v := bd (1#64 <<< (BitVec.ofInt 64 (wr (x0 - 1))).toNat)) (ay (a := bd 1#64) (b := bd (BitVec.ofInt 64 (wr (x0 - 1)))) rfl rfl (aj7 (Int.natCast_nonneg _))) (ae (ay (a := bd (1#64 <<< (BitVec.ofInt 64 (wr (x0 - 1))).toNat)) (b := bd 2#64) rfl rfl cd3) (ae (ay (a := bd ((1#64 <<< (BitVec.ofInt 64 (wr (x0 - 1))).toNat) * 2#64)) (b := bd 1#64) rfl rfl cc0) ?_))))))))
 refine mV rfl (nS ?_)
 exact rR hres rfl rfl rfl

def RF142 (res : Bool) (r : PV) : Prop := r = vb res
theorem ax2 {x0 : aa} {x1 : aa} {v0 v1 : PV} (r0 : aa.t.R x0 v0) (r1 : aa.t.R x1 v1) : FnR Tryz.prog 142 [v0, v1] (vb (fq x0 x1)) := by
 refine fnS (R := RF142) cx3 (fun _ h => h) rfl fun res hres => ?_
 unfold fq at hres
 refine sR (ae (di rfl (TR.cnt aa.t r0)) (ae (di rfl (TR.cnt aa.t r1)) (mB rfl (nR (fL rfl (aa.g_Mask r0) rfl rfl (fL rfl (aa.g_Mask r1) rfl rfl (ae (ay (a := bd x0.Mask) (b := bd x1.Mask) rfl rfl og) (fL rfl (aa.g_Mask r1) rfl rfl ?_))))))))
 refine ae (ay (a := bd (x0.Mask &&& x1.Mask)) (b := bd x1.Mask) rfl rfl az3) (mV rfl ?_)
 refine bw 12 (d := 25) (v := vb ((decide ((x0.Mask &&& x1.Mask) = x1.Mask)) && (decide ((x0.Value &&& x1.Mask) = (x1.Value &&& x1.Mask))))) ?_ ?_
 ·intro S Q r
  cases a1 : (decide ((x0.Mask &&& x1.Mask) = x1.Mask))
  ·exact gN 11 rfl rfl rfl rfl rfl rfl
  ·intro k
   have a0 := a1
   try simp only [qa] at a0
   refine ak rfl rfl (bz rfl (aa.g_Value r0)) (ak rfl rfl (br rfl rfl rfl) (ak rfl rfl (bz rfl (aa.g_Mask r1)) (ak rfl rfl (br rfl rfl rfl) (ak rfl rfl (ay (a := bd x0.Value) (b := bd x1.Mask) rfl rfl og) (ak rfl rfl (bz rfl (aa.g_Value r1)) (ak rfl rfl (br rfl rfl rfl) (ak rfl rfl (bz rfl (aa.g_Mask r1)) (ak rfl rfl (br rfl rfl rfl) ?_))))))))
   refine ak rfl rfl (ay (a := bd x1.Value) (b := bd x1.Mask) rfl rfl og) (ak rfl rfl (ay (a := bd (x0.Value &&& x1.Mask)) (b := bd (x1.Value &&& x1.Mask)) rfl rfl az3) ?_)
   exact gK rfl rfl rfl rfl rfl k
 refine mV rfl (nS ?_)
 exact rR hres rfl rfl rfl

def RF155 (res : Bool) (r : PV) : Prop := r = vb res
theorem xq {S : List Fr} {res : Bool} {x0 : List aa} {x1 : Int} {v0 : PV} (r0 : (tSl aa.t).R x0 v0) (hi : 0 ≤ x1) (hj : x1 < x0.length) {K0 : Unit → Bool}
  (b9 : K0 () = res → PX Tryz.prog 0 S (QR Tryz.prog [(4, none)] (RF155 res)) [] ⟨0, []⟩) :
  ∀ {m : Nat} {a0 : Int} (b8 : m = Int.toNat ((x0.length : Int) - a0)) (b1 : 0 ≤ a0), gq x0 x1 K0 m a0 = res → RC Tryz.prog (.loop cc7) S (QR Tryz.prog [(4, none)] (RF155 res)) [(5, vi a0), (1, vi x1), (0, v0)] ⟨0, []⟩ := by
 intro m
 induction m with
 | zero =>
  intro a0 b8 b1 hres
  rw [gq] at hres
  refine bp (af (sR (mV rfl (mV rfl (ae (cg rfl (bq r0 Tryz.underlying96 _)) (bN cj rfl rfl (nS ?_)))))))
  refine bf rfl ?_ ?_ <;> intro c <;> try simp only [qa] at c
  ·omega
  refine db (dn (cq ?_))
  exact wP (b9  hres) rfl
 | succ m ih =>
  intro a0 b8 b1 hres
  rw [gq] at hres
  refine bp (af (sR (mV rfl (mV rfl (ae (cg rfl (bq r0 Tryz.underlying96 _)) (bN cj rfl rfl (nS ?_)))))))
  refine bf rfl ?_ ?_ <;> intro c <;> try simp only [qa] at c
  rotate_left
  ·omega
  refine ax (ai (af (bc (sR (mV rfl (mV rfl (bN jq rfl rfl (mV rfl ?_))))))))
  refine bw 10 (d := 25) (v := vb ((!decide (a0 = x1)) && (fq (ix x0 x1) (ix x0 a0)))) ?_ ?_
  ·intro S Q r
   cases a9 : (!decide (a0 = x1))
   ·exact gN 9 rfl rfl rfl rfl rfl rfl
   ·intro k
    have a7 := a9
    try simp only [qa] at a7
    refine ak rfl rfl (aq rfl) (ak rfl rfl (aq rfl) ?_)
    obtain ⟨c2, b6, a3⟩ := ct (i := x1) r0 (by omega) (by omega)
    refine ak rfl rfl (bg rfl rfl b6) (ak rfl rfl (br rfl (TR.cnt aa.t a3) (TR.agg aa.t a3)) (ak rfl rfl (aq rfl) (ak rfl rfl (aq rfl) ?_)))
    obtain ⟨c0, b4, a4⟩ := ct (i := a0) r0 (by omega) (by omega)
    refine ak rfl rfl (bg rfl rfl b4) (ak rfl rfl (br rfl (TR.cnt aa.t a4) (TR.agg aa.t a4)) ?_)
    have b3 := ax2  a3 a4 
    refine io rfl rfl (qt rfl rfl (aj (TR.clo aa.t a3) (aj (TR.clo aa.t a4) bb)) b3) ?_
    exact gK rfl rfl rfl rfl rfl k
  refine mV rfl ?_
  refine bw 16 (d := 42) (v := vb (((!decide (a0 = x1)) && (fq (ix x0 x1) (ix x0 a0))) && ((decide (a0 < x1)) || (!(fq (ix x0 a0) (ix x0 x1)))))) ?_ ?_
  ·intro S Q r
   cases a8 : ((!decide (a0 = x1)) && (fq (ix x0 x1) (ix x0 a0)))
   ·exact gN 15 rfl rfl rfl rfl rfl rfl
   ·intro k
    have a6 := a8
    try simp only [qa] at a6
    refine ak rfl rfl (aq rfl) (ak rfl rfl (aq rfl) (ak rfl rfl (ay rfl rfl cj) (ak rfl rfl (aq rfl) ?_)))
    refine bw 11 (d := 41) (v := vb ((decide (a0 < x1)) || (!(fq (ix x0 a0) (ix x0 x1))))) ?_ ?_
    ·intro S Q r
     cases b0 : (decide (a0 < x1))
     ·intro k
      have a5 := b0
      try simp only [qa] at a5
      refine ak rfl rfl (aq rfl) (ak rfl rfl (aq rfl) ?_)
      obtain ⟨c1, b2, a2⟩ := ct (i := a0) r0 (by omega) (by omega)
      refine ak rfl rfl (bg rfl rfl b2) (ak rfl rfl (br rfl (TR.cnt aa.t a2) (TR.agg aa.t a2)) (ak rfl rfl (aq rfl) (ak rfl rfl (aq rfl) ?_)))
      obtain ⟨c3, b5, a1⟩ := ct (i := x1) r0 (by omega) (by omega)
      refine ak rfl rfl (bg rfl rfl b5) (ak rfl rfl (br rfl (TR.cnt aa.t a1) (TR.agg aa.t a1)) ?_)
      have b7 := ax2  a2 a1 
      refine io rfl rfl (qt rfl rfl (aj (TR.clo aa.t a2) (aj (TR.clo aa.t a1) bb)) b7) (ak rfl rfl (gu rfl) (ak (v := vb (!(fq (ix x0 a0) (ix x0 x1)))) rfl rfl (th rfl rfl rfl rfl) ?_))
      exact wD k rfl
     ·intro k
      refine oe rfl rfl (oe rfl rfl (oe rfl rfl (oe rfl rfl (oe rfl rfl (oe rfl rfl (oe rfl rfl (oe rfl rfl (oe rfl rfl ?_))))))))
      refine oe rfl rfl (ak (v := vb true) rfl rfl (th rfl rfl rfl rfl) ?_)
      exact wD k rfl
    exact gK rfl rfl rfl rfl rfl k
  refine nS ?_
  refine cv hres rfl ?_ ?_ <;> clear hres <;> intro c hres <;> try simp only [qa] at c
  ·refine sR (mB rfl (nS ?_))
   exact rR hres rfl rfl rfl
  ·refine ax (da (ai (ah (mV rfl (bN dp rfl rfl (mV rfl (aw (cf ?_))))))))
   have hbd := df r0
   have hinc : wr (a0 + 1) = a0 + 1 := dg (by omega) (by omega)
   erw [hinc]
   exact wC (ih   (by omega) (by omega) hres) rfl

theorem cw1 {x0 : List aa} {x1 : Int} {v0 : PV} (r0 : (tSl aa.t).R x0 v0) (hi : 0 ≤ x1) (hj : x1 < x0.length) : FnR Tryz.prog 155 [v0, vi x1] (vb (nr x0 x1)) := by
 refine fnS (R := RF155) cr9 (fun _ h => h) rfl fun res hres => ?_
 unfold nr at hres
 refine sR (mB rfl (nS (af (sR (mI rfl (nS (bc ?_)))))))
 refine wC (xq r0 hi hj ?_  rfl (by omega) hres) rfl
 ·intro  hres
  refine dv (ai (sR (mB rfl (nS ?_))))
  exact rR hres rfl rfl rfl

def RF140 (res : (List aa)) (r : PV) : Prop := (tSl aa.t).R res r
theorem yu {S : List Fr} {res : (List aa)} {x0 : List aa} {v0 : PV} (r0 : (tSl aa.t).R x0 v0) (hl : x0.length ≤ 1000000) {K0 : (List aa) → (List aa)}
  (d0 : ∀ {a1 : List aa} {a0 : List PV} {a3 : PV} (a5 : All2 aa.t.R a1 a0) (a7 : isL a3 = true) (a4 : Wri a3 a0) (a6 : a1.length ≤ 4611686018427387904) {h : Heap} (M0 : Mem h [⟨a3, 99, 2, a0⟩]), K0 a1 = res → PX Tryz.prog 0 S (QR Tryz.prog [(2, none)] (RF140 res)) [(3, a3)] h) :
  ∀ {m : Nat} {a2 : Int} {a1 : List aa} {a0 : List PV} {a3 : PV} (a5 : All2 aa.t.R a1 a0) (a7 : isL a3 = true) (a4 : Wri a3 a0) (a6 : a1.length ≤ 4611686018427387904) (c8 : m = Int.toNat ((x0.length : Int) - a2)) (b4 : 0 ≤ a2) (a9 : (a1.length : Int) ≤ a2) {h : Heap} (M0 : Mem h [⟨a3, 99, 2, a0⟩]), gj x0 K0 m a2 a1 = res → RC Tryz.prog (.loop ch5) S (QR Tryz.prog [(2, none)] (RF140 res)) [(4, vi a2), (3, a3), (0, v0)] h := by
 intro m
 induction m with
 | zero =>
  intro a2 a1 a0 a3 a5 a7 a4 a6 c8 b4 a9 h M0 hres
  rw [gj] at hres
  refine bp (af (sR (mV rfl (mV rfl (ae (cg rfl (bq r0 Tryz.underlying96 _)) (bN cj rfl rfl (nS ?_)))))))
  refine bf rfl ?_ ?_ <;> intro c <;> try simp only [qa] at c
  ·omega
  refine db (dn (cq ?_))
  exact wP (d0 a5 a7 a4 a6 (Mem.sub M0 (.cons_cons _ .slnil)) hres) rfl
 | succ m ih =>
  intro a2 a1 a0 a3 a5 a7 a4 a6 c8 b4 a9 h M0 hres
  rw [gj] at hres
  refine bp (af (sR (mV rfl (mV rfl (ae (cg rfl (bq r0 Tryz.underlying96 _)) (bN cj rfl rfl (nS ?_)))))))
  refine bf rfl ?_ ?_ <;> intro c <;> try simp only [qa] at c
  rotate_left
  ·omega
  refine ax (ai (af (bc (sR (mV rfl (mV rfl ?_))))))
  obtain ⟨c9, b2, hres⟩ := cw hres
  have b1 := cw1 (x1 := a2) r0 (by assumption) (by assumption)
  rw [b2] at b1
  refine cL b1 rfl rfl (aj (TR.clo (tSl aa.t) r0) (aj rfl bb)) (ae (gu rfl) (nS ?_))
  refine cv hres rfl ?_ ?_ <;> clear hres <;> intro c hres <;> try simp only [qa] at c
  ·refine ah (mV rfl (mV rfl (mV rfl ?_)))
   obtain ⟨d1, c4, c5⟩ := ct (i := a2) r0 (by omega) (by omega)
   refine ae (bg rfl rfl c4) (fL rfl (aa.g_Value c5) rfl rfl (mV rfl (mV rfl ?_)))
   obtain ⟨d4, c2, c6⟩ := ct (i := a2) r0 (by omega) (by omega)
   refine ae (bg rfl rfl c2) (fL rfl (aa.g_Mask c6) rfl rfl (ae (ay (a := bd ((ix x0 a2).Value)) (b := bd ((ix x0 a2).Mask)) rfl rfl og) (mV rfl (mV rfl ?_))))
   obtain ⟨d2, b9, c1⟩ := ct (i := a2) r0 (by omega) (by omega)
   refine ae (bg rfl rfl b9) (fL rfl (aa.g_Mask c1) rfl rfl (ae (v := .agg [bd (((ix x0 a2).Value) &&& ((ix x0 a2).Mask)), bd ((ix x0 a2).Mask)]) (kh (cs := [bd (((ix x0 a2).Value) &&& ((ix x0 a2).Mask)), bd ((ix x0 a2).Mask)]) rfl rfl) (ae (v := .fs true [.agg [bd (((ix x0 a2).Value) &&& ((ix x0 a2).Mask)), bd ((ix x0 a2).Mask)]]) (fm rfl (all_cons rfl jn)) ?_)))
   have c0 : (tSl aa.t).R ([({ Value := (((ix x0 a2).Value) &&& ((ix x0 a2).Mask)), Mask := (ix x0 a2).Mask } : aa)] : List aa) (.fs true [.agg [bd (((ix x0 a2).Value) &&& ((ix x0 a2).Mask)), bd ((ix x0 a2).Mask)]]) := rh ⟨rfl, trivial⟩ (by simp)
   obtain ⟨a8, b3, b0⟩ := qc (t := aa.t) (h := h) c0
   have b8 : fits (a0.length + a8.length) 16 = true := by rw [All2.length_eq a5, All2.length_eq b0]; (try simp only [List.length_cons, List.length_nil]); exact kx (by omega) (by omega)
   refine lh (k := 0) (es := a0) (news := a8) M0 rfl rfl rfl a7 a4 b3 b8 (fun d3 d5 c3 b5 c7 => ?_)
   have b7 : All2 aa.t.R (a1 ++ ([({ Value := (((ix x0 a2).Value) &&& ((ix x0 a2).Mask)), Mask := (ix x0 a2).Mask } : aa)] : List aa)) (a0 ++ a8) := All2.app a5 b0
   have b6 : (a1 ++ ([({ Value := (((ix x0 a2).Value) &&& ((ix x0 a2).Mask)), Mask := (ix x0 a2).Mask } : aa)] : List aa)).length ≤ 4611686018427387904 := by rw [← All2.length_eq b7, List.length_append]; exact ny b8
   refine mV rfl (aw (da (ai (ah (mV rfl (bN dp rfl rfl (mV rfl (aw ?_))))))))
   refine cf ?_
   have hbd := df r0
   have hinc : wr (a2 + 1) = a2 + 1 := dg (by omega) (by omega)
   erw [hinc]
   exact wC (ih  b7 c3 b5 b6 (by omega) (by omega) (by ((simp only [List.length_append, List.length_cons, List.length_nil, List.length_set]; omega))) (Mem.sub c7 (.cons_cons _ .slnil)) hres) rfl
  ·refine ax (da (ai (ah (mV rfl (bN dp rfl rfl (mV rfl (aw (cf ?_))))))))
   have hbd := df r0
   have hinc : wr (a2 + 1) = a2 + 1 := dg (by omega) (by omega)
   erw [hinc]
   exact wC (ih  a5 a7 a4 a6 (by omega) (by omega) (by omega) (Mem.sub M0 (.cons_cons _ .slnil)) hres) rfl

theorem cs0 {x0 : List aa} {v0 : PV} (r0 : (tSl aa.t).R x0 v0) (hl : x0.length ≤ 1000000) : ∃ r, FnR Tryz.prog 140 [v0] r ∧ (tSl aa.t).R (na x0) r := by
 refine fnT (R := RF140) cq9 rfl fun res hres => ?_
 unfold na at hres
 refine sR (ae (v := nilS) (aq rfl) (nR (ae (v := nilS) (aq rfl) (nS (af (sR (mI rfl (nS ?_))))))))
 refine bc ?_
 have b0 := ml (sz := 2) (es := []) (Mem.nil ⟨0, []⟩) 99 (.inl ⟨none, rfl, rfl⟩) (by simp)
 refine wC (yu r0 hl ?_  aL rfl (.inl rfl) (by decide) rfl (by omega) (by ((simp; done))) (Mem.sub b0 (.cons_cons _ .slnil)) hres) rfl
 ·intro a5 a3 a6 a1 a2 a4 a0 b2 a9 hres
  refine dv (ai (sR (mV rfl (mV rfl (nS ?_)))))
  obtain ⟨b1, a8, a7⟩ := tw (P := Tryz.prog) (k := 0) (t := aa.t) a9 rfl a2 a1 (Nat.le_trans a0 (by decide))
  subst hres
  exact dk (.tmp rfl .nil) a8 a7

def RF105 (res : (List aa) × Int) (r : PV) : Prop := ∃ c0, r = .tup [c0, vi res.2] ∧ (tSl aa.t).R res.1 c0
theorem bj9 {x0 : List aa} {v0 : PV} (r0 : (tSl aa.t).R x0 v0) (hl : x0.length ≤ 1000000) : ∃ c0, FnR Tryz.prog 105 [v0] (.tup [c0, vi ((ki x0).2)]) ∧ (tSl aa.t).R (ki x0).1 c0 := by
 obtain ⟨res, hres⟩ : ∃ res, ki x0 = res := ⟨_, rfl⟩
 suffices H : RC Tryz.prog dm4 [] (QR Tryz.prog [(2, none), (3, none)] (RF105 res)) (argE 0 [v0]) ⟨0, []⟩ by
  rw [hres]
  obtain ⟨r, h1, c0, rfl, a4⟩ := fnE cv5 (by simp) H
  exact ⟨c0, h1, a4⟩
 unfold ki at hres
 refine sR (ae (v := nilS) (aq rfl) (mI rfl (nR (mV rfl ?_))))
 obtain ⟨a5, a1, hres⟩ := cw hres
 obtain ⟨a2, a3, a0⟩ := cs0  r0 (by assumption)
 rw [a1] at a0
 refine cL a3 rfl rfl (aj (TR.clo (tSl aa.t) r0) bb) (mV rfl (nS (af (sR (mV rfl (ae (cg rfl (bq a0 Tryz.underlying96 _)) (bN gh rfl rfl (nS ?_))))))))
 refine cv hres rfl ?_ ?_ <;> clear hres <;> intro c hres <;> try simp only [qa] at c
 ·refine sR (ae (v := nilS) (aq rfl) (mI rfl (nS ?_)))
  subst hres
  exact dk (.tmp rfl (.tmp rfl .nil)) (cd (show closed (.tup _) = true from (aj (TR.clo (tSl aa.t) fg) (aj rfl bb)))) ⟨nilS, rfl, fg⟩
 ·refine ax (ai (sR (mV rfl (mV rfl (mI rfl (nS ?_))))))
  subst hres
  exact dk (.tmp rfl (.tmp rfl .nil)) (cd (show closed (.tup _) = true from (aj (TR.clo (tSl aa.t) a0) (aj rfl bb)))) ⟨a2, rfl, a0⟩

def RF156 (res : (BitVec 64)) (r : PV) : Prop := r = bd res
theorem ah4 {S : List Fr} {res : (BitVec 64)} {x0 : Int} (hw : x0 ≤ 64) {K0 : (BitVec 64) → (BitVec 64)}
  (a4 : ∀ {a0 : BitVec 64}, K0 a0 = res → PX Tryz.prog 0 S (QR Tryz.prog [(2, none)] (RF156 res)) [(3, bd a0)] ⟨0, []⟩) :
  ∀ {m : Nat} {a0 : BitVec 64} {a1 : Int} (a3 : m = Int.toNat (x0 - a1)) (a2 : 0 ≤ a1), pn K0 m a0 a1 = res → RC Tryz.prog (.loop ce2) S (QR Tryz.prog [(2, none)] (RF156 res)) [(4, vi a1), (3, bd a0), (0, vi x0)] ⟨0, []⟩ := by
 intro m
 induction m with
 | zero =>
  intro a0 a1 a3 a2 hres
  rw [pn] at hres
  refine bp (af (sR (mV rfl (mV rfl (bN cj rfl rfl (nS ?_))))))
  refine bf rfl ?_ ?_ <;> intro c <;> try simp only [qa] at c
  ·omega
  refine db (dn (cq ?_))
  exact wP (a4  hres) rfl
 | succ m ih =>
  intro a0 a1 a3 a2 hres
  rw [pn] at hres
  refine bp (af (sR (mV rfl (mV rfl (bN cj rfl rfl (nS ?_))))))
  refine bf rfl ?_ ?_ <;> intro c <;> try simp only [qa] at c
  rotate_left
  ·omega
  refine ax (ai (af (bc (ah (mV rfl (ae (ay (a := bd 2#64) (b := bd a0) rfl rfl cd3) (ae (ay (a := bd (2#64 * a0)) (b := bd 1#64) rfl rfl eq9) (mV rfl ?_))))))))
  refine aw (da (ai (ah (mV rfl (bN dp rfl rfl (mV rfl (aw (cf ?_))))))))
  have hinc : wr (a1 + 1) = a1 + 1 := dg (by omega) (by omega)
  erw [hinc]
  exact wC (ih   (by omega) (by omega) hres) rfl

theorem dd0 {x0 : Int} (hw : x0 ≤ 64) : FnR Tryz.prog 156 [vi x0] (bd (ug x0)) := by
 refine fnS (R := RF156) cu8 (fun _ h => h) rfl fun res hres => ?_
 unfold ug at hres
 refine sR (ae (v := bd 0#64) (aq rfl) (nR (ae (v := bd 0#64) (aq rfl) (nS (af (sR (mI rfl (nS ?_))))))))
 refine bc ?_
 refine wC (ah4 hw ?_  rfl (by omega) hres) rfl
 ·intro a0 hres
  refine dv (ai (sR (mV rfl (mV rfl (nS ?_)))))
  exact rR hres rfl rfl rfl

def RF141 (res : aa) (r : PV) : Prop := aa.t.R res r
theorem bm1 {x0 : aa} {x1 : Int} {v0 : PV} (r0 : aa.t.R x0 v0) (hw : x1 ≤ 64) : ∃ r, FnR Tryz.prog 141 [v0, vi x1] r ∧ aa.t.R (me x0 x1) r := by
 refine fnT (R := RF141) dg5 rfl fun res hres => ?_
 unfold me at hres
 refine sR (ae (di rfl (TR.cnt aa.t r0)) ?_)
 refine dh (x := .agg [bd 0#64, bd 0#64]) (Mem.nil ⟨0, []⟩) rfl rfl (fun a7 a5 a8 a6 => ?_)
 refine nR (fL rfl (aa.g_Mask r0) rfl rfl (mV rfl ?_))
 obtain ⟨a0, a3, hres⟩ := cw hres
 have a2 := dd0 (x0 := x1)  (by assumption)
 rw [a3] at a2
 refine cL a2 rfl rfl (aj rfl bb) (ae (ay (a := bd x0.Mask) (b := bd a0) rfl rfl og) (mV rfl (nR (fL rfl (aa.g_Value r0) rfl rfl (mV rfl (ae (ay (a := bd x0.Value) (b := bd (x0.Mask &&& a0)) rfl rfl og) (mV rfl (ae (v := .agg [bd (x0.Value &&& (x0.Mask &&& a0)), bd (x0.Mask &&& a0)]) (kh (cs := [bd (x0.Value &&& (x0.Mask &&& a0)), bd (x0.Mask &&& a0)]) rfl rfl) ?_))))))))
 refine de (k := 0) (v := .agg [bd (x0.Value &&& (x0.Mask &&& a0)), bd (x0.Mask &&& a0)]) a6 rfl rfl rfl rfl (fun a4 a1 => ?_)
 replace a1 : Mem a4 [⟨.op a7 a5 0, 99, 2, [.agg [bd (x0.Value &&& (x0.Mask &&& a0)), bd (x0.Mask &&& a0)]]⟩] := a1
 refine nS ?_
 subst hres
 exact dk (.cell rfl (ie (k := 0) a1 rfl rfl) .nil) (cd (TR.clo aa.t (show aa.t.R ({ Value := (x0.Value &&& (x0.Mask &&& a0)), Mask := (x0.Mask &&& a0) } : aa) (.agg [bd (x0.Value &&& (x0.Mask &&& a0)), bd (x0.Mask &&& a0)]) from rfl))) (show aa.t.R ({ Value := (x0.Value &&& (x0.Mask &&& a0)), Mask := (x0.Mask &&& a0) } : aa) (.agg [bd (x0.Value &&& (x0.Mask &&& a0)), bd (x0.Mask &&& a0)]) from rfl)

def RF143 (res : aa × Bool) (r : PV) : Prop := ∃ c0, r = .tup [c0, vb res.2] ∧ aa.t.R res.1 c0
theorem dc7 {x0 : aa} {x1 : aa} {v0 v1 : PV} (r0 : aa.t.R x0 v0) (r1 : aa.t.R x1 v1) : ∃ c0, FnR Tryz.prog 143 [v0, v1] (.tup [c0, vb ((jo x0 x1).2)]) ∧ aa.t.R (jo x0 x1).1 c0 := by
 obtain ⟨res, hres⟩ : ∃ res, jo x0 x1 = res := ⟨_, rfl⟩
 suffices H : RC Tryz.prog dl6 [] (QR Tryz.prog [(4, some (2, true)), (5, none)] (RF143 res)) (argE 0 [v0, v1]) ⟨0, []⟩ by
  rw [hres]
  obtain ⟨r, h1, c0, rfl, a8⟩ := fnE cq8 (by simp) H
  exact ⟨c0, h1, a8⟩
 unfold jo at hres
 refine sR (ae (di rfl (TR.cnt aa.t r0)) (ae (di rfl (TR.cnt aa.t r1)) ?_))
 refine dh (x := .agg [bd 0#64, bd 0#64]) (Mem.nil ⟨0, []⟩) rfl rfl (fun a3 a2 a7 a4 => ?_)
 refine mB rfl (nR (fL rfl (aa.g_Mask r0) rfl rfl (fL rfl (aa.g_Mask r1) rfl rfl (ae (ay (a := bd x0.Mask) (b := bd x1.Mask) rfl rfl og) (mV rfl (nS (af (sR ?_))))))))
 refine fL rfl (aa.g_Value r0) rfl rfl (mV rfl (ae (ay (a := bd x0.Value) (b := bd (x0.Mask &&& x1.Mask)) rfl rfl og) (fL rfl (aa.g_Value r1) rfl rfl (mV rfl (ae (ay (a := bd x1.Value) (b := bd (x0.Mask &&& x1.Mask)) rfl rfl og) (ae (ay (a := bd (x0.Value &&& (x0.Mask &&& x1.Mask))) (b := bd (x1.Value &&& (x0.Mask &&& x1.Mask))) rfl rfl ay5) (nS ?_)))))))
 refine cv hres rfl ?_ ?_ <;> clear hres <;> intro c hres <;> try simp only [qa] at c
 ·refine sR (ae (v := .agg [bd 0#64, bd 0#64]) (kh (cs := [bd 0#64, bd 0#64]) rfl rfl) ?_)
  refine de (k := 0) (v := .agg [bd 0#64, bd 0#64]) a4 rfl rfl rfl rfl (fun a6 a1 => ?_)
  replace a1 : Mem a6 [⟨.op a3 a2 0, 99, 2, [.agg [bd 0#64, bd 0#64]]⟩] := a1
  refine mB rfl (nS ?_)
  subst hres
  exact dk (.cell rfl (ie (k := 0) a1 rfl rfl) (.tmp rfl .nil)) (cd (show closed (.tup _) = true from (aj (TR.clo aa.t (show aa.t.R ({ Value := 0#64, Mask := 0#64 } : aa) (.agg [bd 0#64, bd 0#64]) from rfl)) (aj rfl bb)))) ⟨.agg [bd 0#64, bd 0#64], rfl, rfl⟩
 ·refine ax (ai (sR (fL rfl (aa.g_Value r0) rfl rfl (fL rfl (aa.g_Mask r0) rfl rfl (ae (ay (a := bd x0.Value) (b := bd x0.Mask) rfl rfl og) (fL rfl (aa.g_Value r1) rfl rfl (fL rfl (aa.g_Mask r1) rfl rfl (ae (ay (a := bd x1.Value) (b := bd x1.Mask) rfl rfl og) ?_))))))))
  refine ae (ay (a := bd (x0.Value &&& x0.Mask)) (b := bd (x1.Value &&& x1.Mask)) rfl rfl d_or) (fL rfl (aa.g_Mask r0) rfl rfl (fL rfl (aa.g_Mask r1) rfl rfl (ae (ay (a := bd x0.Mask) (b := bd x1.Mask) rfl rfl d_or) (ae (v := .agg [bd ((x0.Value &&& x0.Mask) ||| (x1.Value &&& x1.Mask)), bd (x0.Mask ||| x1.Mask)]) (kh (cs := [bd ((x0.Value &&& x0.Mask) ||| (x1.Value &&& x1.Mask)), bd (x0.Mask ||| x1.Mask)]) rfl rfl) ?_))))
  refine de (k := 0) (v := .agg [bd ((x0.Value &&& x0.Mask) ||| (x1.Value &&& x1.Mask)), bd (x0.Mask ||| x1.Mask)]) a4 rfl rfl rfl rfl (fun a5 a0 => ?_)
  replace a0 : Mem a5 [⟨.op a3 a2 0, 99, 2, [.agg [bd ((x0.Value &&& x0.Mask) ||| (x1.Value &&& x1.Mask)), bd (x0.Mask ||| x1.Mask)]]⟩] := a0
  refine mB rfl (nS ?_)
  subst hres
  exact dk (.cell rfl (ie (k := 0) a0 rfl rfl) (.tmp rfl .nil)) (cd (show closed (.tup _) = true from (aj (TR.clo aa.t (show aa.t.R ({ Value := ((x0.Value &&& x0.Mask) ||| (x1.Value &&& x1.Mask)), Mask := (x0.Mask ||| x1.Mask) } : aa) (.agg [bd ((x0.Value &&& x0.Mask) ||| (x1.Value &&& x1.Mask)), bd (x0.Mask ||| x1.Mask)]) from rfl)) (aj rfl bb)))) ⟨.agg [bd ((x0.Value &&& x0.Mask) ||| (x1.Value &&& x1.Mask)), bd (x0.Mask ||| x1.Mask)], rfl, rfl⟩

end Go.Proofs.YthdnpgpnodgicaaGreat
