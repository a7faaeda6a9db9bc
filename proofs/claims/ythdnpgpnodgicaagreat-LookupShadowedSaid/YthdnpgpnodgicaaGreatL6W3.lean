/-
 The code of each function does what its plain program says.
-/
import Derived.Test.YthdnpgpnodgicaaGreatL6W2
set_option linter.unusedVariables false
set_option linter.unusedSimpArgs false
set_option maxRecDepth 100000
namespace Go.Proofs.YthdnpgpnodgicaaGreat
open Go Go.Pb Go.RowKit
def RF49 (res : Bool) (r : PV) : Prop := r = vb res
theorem zh {S : List Fr} {res : Bool} {x0 : au} {x1 : au} {v0 v1 : PV} (r0 : au.t.R x0 v0) (r1 : au.t.R x1 v1) (a3 : ((!decide ((x0.Keys.length : Int) = (x1.Keys.length : Int))) || (!decide (x0.Priority = x1.Priority))) = false) {K0 : Unit → Bool}
  (b7 : K0 () = res → PX Tryz.prog 0 S (QR Tryz.prog [(4, none)] (RF49 res)) [] ⟨0, []⟩) :
  ∀ {m : Nat} {a0 : Int} (b4 : m = Int.toNat ((x0.Keys.length : Int) - a0)) (a4 : 0 ≤ a0), lg x0 x1 K0 m a0 = res → RC Tryz.prog (.loop cv9) S (QR Tryz.prog [(4, none)] (RF49 res)) [(5, vi a0), (3, .fp v1), (2, .fp v0)] ⟨0, []⟩ := by
 have a1 := a3
 try simp only [qa] at a1
 intro m
 induction m with
 | zero =>
  intro a0 b4 a4 hres
  rw [lg] at hres
  refine bp (af (sR (mV rfl ?_)))
  obtain ⟨b8, b2, a6⟩ := au.g_Keys r0
  refine fA rfl b2 (lD a6 rfl rfl rfl (ae (cg rfl (bq a6 Tryz.underlying38 _)) (bN cj rfl rfl (nS ?_))))
  refine bf rfl ?_ ?_ <;> intro c <;> try simp only [qa] at c
  ·omega
  refine db (dn (cq ?_))
  exact wP (b7  hres) rfl
 | succ m ih =>
  intro a0 b4 a4 hres
  rw [lg] at hres
  refine bp (af (sR (mV rfl (gL (au.g_Keys r0) rfl rfl rfl fun b9 a5 => (ae (cg rfl (bq a5 Tryz.underlying38 _)) (bN cj rfl rfl (nS ?_)))))))
  refine bf rfl ?_ ?_ <;> intro c <;> try simp only [qa] at c
  rotate_left
  ·omega
  refine ax (ai (af (bc (sR (gL (au.g_Keys r0) rfl rfl rfl fun c0 b0 => (mV rfl ?_))))))
  obtain ⟨c1, b3, a2⟩ := ct (i := a0) b0 (by omega) (by omega)
  refine ae (bg rfl rfl b3) (lD a2 rfl rfl rfl ?_)
  obtain ⟨b6, b1, a7⟩ := au.g_Keys r1
  refine fA rfl b1 (lD a7 rfl rfl rfl (mV rfl ?_))
  obtain ⟨b5, a9, a8⟩ := ct (i := a0) a7 (by omega) (by omega)
  refine ae (bg rfl rfl a9) (lD a8 rfl rfl rfl (bN (ba.neq_127 a2 a8) rfl rfl (nS ?_)))
  refine cv hres rfl ?_ ?_ <;> clear hres <;> intro c hres <;> try simp only [qa] at c
  ·refine sR (mB rfl (nS ?_))
   exact rR hres rfl rfl rfl
  ·refine ax (da (ai (ah (mV rfl (bN dp rfl rfl (mV rfl (aw (cf ?_))))))))
   have hbd := df a5
   have hinc : wr (a0 + 1) = a0 + 1 := dg (by omega) (by omega)
   erw [hinc]
   exact wC (ih   (by omega) (by omega) hres) rfl

theorem ds0 {x0 : au} {x1 : au} {v0 v1 : PV} (r0 : au.t.R x0 v0) (r1 : au.t.R x1 v1) : FnR Tryz.prog 49 [v0, v1] (vb (mm x0 x1)) := by
 refine fnS (R := RF49) dx3 (fun _ h => h) rfl fun res hres => ?_
 unfold mm at hres
 refine sR (ae (di rfl (TR.cnt au.t r0)) (ae (di rfl (TR.cnt au.t r1)) (mB rfl (nS (af (sR (gL (au.g_Keys r0) rfl rfl rfl fun a7 a5 => (ae (cg rfl (bq a5 Tryz.underlying38 _)) ?_))))))))
 refine gL (au.g_Keys r1) rfl rfl rfl fun a6 a4 => (ae (cg rfl (bq a4 Tryz.underlying38 _)) (bN jq rfl rfl (mV rfl ?_)))
 refine bw 6 (d := 19) (v := vb ((!decide ((x0.Keys.length : Int) = (x1.Keys.length : Int))) || (!decide (x0.Priority = x1.Priority)))) ?_ ?_
 ·intro S Q r
  cases a3 : (!decide ((x0.Keys.length : Int) = (x1.Keys.length : Int)))
  ·intro k
   have a2 := a3
   try simp only [qa] at a2
   refine ak rfl rfl (bz rfl (au.g_Priority r0)) (ak rfl rfl (br rfl rfl rfl) (ak rfl rfl (bz rfl (au.g_Priority r1)) (ak rfl rfl (br rfl rfl rfl) (ak rfl rfl (ay rfl rfl jq) ?_))))
   exact gK rfl rfl rfl rfl rfl k
  ·exact gN 5 rfl rfl rfl rfl rfl rfl
 refine nS ?_
 refine cv hres rfl ?_ ?_ <;> clear hres <;> intro a0 hres <;> have a1 := a0 <;> try simp only [qa] at a1
 ·refine sR (mB rfl (nS ?_))
  exact rR hres rfl rfl rfl
 ·refine ax (ai (af (sR (mI rfl (nS (bc ?_))))))
  refine wC (zh r0 r1 a0 ?_  rfl (by omega) hres) rfl
  ·intro  hres
   refine dv (ai (sR (mB rfl (nS ?_))))
   exact rR hres rfl rfl rfl

def RF16 (res : Int) (r : PV) : Prop := r = vi res
theorem ac8 {S : List Fr} {res : Int} {x0 : ab} {x1 : Int} {x2 : List av} {b2 : Int × Int} {a1 b0 : Int} {v0 v2 : PV} (r2 : (tSl av.t).R x2 v2) (c8 : fk x0 x1 = b2) (b4 : (!decide (b2.2 = 0)) = false) (d2 : 0 ≤ a1) (a8 : (decide (a1 < (x2.length : Int))) = true) (c6 : ma x0 x1 ((ix x2 a1).Entry) = b0) (b1 : (!decide (b0 = 0)) = false) {K2 : Unit → Int}
  (d1 : K2 () = res → PX Tryz.prog 2 S (QR Tryz.prog [(6, none)] (RF16 res)) [(1, vi x1), (2, v2), (3, .fp v0), (9, vi a1)] ⟨0, []⟩) :
  ∀ {m : Nat} {a0 : Int} (c7 : m = Int.toNat (a1 - a0)) (a9 : 0 ≤ a0), lu x2 a1 K2 m a0 = res → RC Tryz.prog (.loop cw9) S (QR Tryz.prog [(6, none)] (RF16 res)) [(10, vi a0), (9, vi a1), (3, .fp v0), (2, v2), (1, vi x1)] ⟨0, []⟩ := by
 have a6 := b4
 try simp only [qa] at a6
 have a7 := a8
 try simp only [qa] at a7
 have a5 := b1
 try simp only [qa] at a5
 intro m
 induction m with
 | zero =>
  intro a0 c7 a9 hres
  rw [lu] at hres
  refine bp (af (sR (mV rfl (mV rfl (bN cj rfl rfl (nS ?_))))))
  refine bf rfl ?_ ?_ <;> intro c <;> try simp only [qa] at c
  ·omega
  refine db (dn (cq ?_))
  exact wP (d1  hres) rfl
 | succ m ih =>
  intro a0 c7 a9 hres
  rw [lu] at hres
  refine bp (af (sR (mV rfl (mV rfl (bN cj rfl rfl (nS ?_))))))
  refine bf rfl ?_ ?_ <;> intro c <;> try simp only [qa] at c
  rotate_left
  ·omega
  refine ax (ai (af (bc (sR (mV rfl (mV rfl ?_))))))
  obtain ⟨d0, c1, c4⟩ := ct (i := a0) r2 (by omega) (by omega)
  refine ae (bg rfl rfl c1) (fL rfl (av.g_ID c4) rfl rfl (mV rfl (mV rfl ?_)))
  obtain ⟨c9, b6, c5⟩ := ct (i := a1) r2 (by omega) (by omega)
  refine ae (bg rfl rfl b6) (fL rfl (av.g_ID c5) rfl rfl (bN md rfl rfl (mV rfl ?_)))
  refine bw 12 (d := 65) (v := vb ((decide (((ix x2 a0).ID) = ((ix x2 a1).ID))) || (mm ((ix x2 a0).Entry) ((ix x2 a1).Entry)))) ?_ ?_
  ·intro S Q r
   cases b3 : (decide (((ix x2 a0).ID) = ((ix x2 a1).ID)))
   ·intro k
    have a4 := b3
    try simp only [qa] at a4
    refine ak rfl rfl (aq rfl) (ak rfl rfl (aq rfl) ?_)
    obtain ⟨d3, b7, c2⟩ := ct (i := a0) r2 (by omega) (by omega)
    refine ak rfl rfl (bg rfl rfl b7) ?_
    obtain ⟨d5, b9, a2⟩ := av.g_Entry c2
    refine ak rfl rfl (bz rfl b9) (ak rfl rfl (br rfl (TR.cnt au.t a2) (TR.agg au.t a2)) (ak rfl rfl (aq rfl) (ak rfl rfl (aq rfl) ?_)))
    obtain ⟨d4, c3, b8⟩ := ct (i := a1) r2 (by omega) (by omega)
    refine ak rfl rfl (bg rfl rfl c3) ?_
    obtain ⟨d6, b5, a3⟩ := av.g_Entry b8
    refine ak rfl rfl (bz rfl b5) (ak rfl rfl (br rfl (TR.cnt au.t a3) (TR.agg au.t a3)) ?_)
    have c0 := ds0  a2 a3 
    refine io rfl rfl (qt rfl rfl (aj (TR.clo au.t a2) (aj (TR.clo au.t a3) bb)) c0) ?_
    exact gK rfl rfl rfl rfl rfl k
   ·exact gN 11 rfl rfl rfl rfl rfl rfl
  refine nS ?_
  refine cv hres rfl ?_ ?_ <;> clear hres <;> intro c hres <;> try simp only [qa] at c
  ·refine sR (mI rfl (nS ?_))
   exact rR hres rfl rfl rfl
  ·refine ax (da (ai (ah (mV rfl (bN dp rfl rfl (mV rfl (aw (cf ?_))))))))
   have hinc : wr (a0 + 1) = a0 + 1 := dg (by omega) (by have hk : x2.length ≤ 9223372036854775807 := r2.2; omega)
   erw [hinc]
   exact wC (ih   (by omega) (by omega) hres) rfl

theorem ad6 {S : List Fr} {res : Int} {x0 : ab} {x1 : Int} {x2 : List av} {b0 : Int × Int} {v0 v2 : PV} (r0 : ab.t.R x0 v0) (r2 : (tSl av.t).R x2 v2) (b2 : fk x0 x1 = b0) (a4 : (!decide (b0.2 = 0)) = false) {K0 : Unit → Int}
  (b6 : K0 () = res → PX Tryz.prog 0 S (QR Tryz.prog [(6, none)] (RF16 res)) [] ⟨0, []⟩) :
  ∀ {m : Nat} {a1 : Int} (b5 : m = Int.toNat ((x2.length : Int) - a1)) (a7 : 0 ≤ a1), im x0 x1 x2 K0 m a1 = res → RC Tryz.prog (.loop dj0) S (QR Tryz.prog [(6, none)] (RF16 res)) [(9, vi a1), (3, .fp v0), (2, v2), (1, vi x1)] ⟨0, []⟩ := by
 have a6 := a4
 try simp only [qa] at a6
 intro m
 induction m with
 | zero =>
  intro a1 b5 a7 hres
  rw [im] at hres
  refine bp (af (sR (mV rfl (mV rfl (ae (cg rfl (bq r2 Tryz.underlying32 _)) (bN cj rfl rfl (nS ?_)))))))
  refine bf rfl ?_ ?_ <;> intro c <;> try simp only [qa] at c
  ·omega
  refine db (dn (cq ?_))
  exact wP (b6  hres) rfl
 | succ m ih =>
  intro a1 b5 a7 hres
  rw [im] at hres
  refine bp (af (sR (mV rfl (mV rfl (ae (cg rfl (bq r2 Tryz.underlying32 _)) (bN cj rfl rfl (nS ?_)))))))
  refine bf rfl (fun a0 => ?_) (fun a0 => ?_)
  ·have hgo := hres
   have a8 := a0
   try simp only [qa] at a8
   refine ax (ai (af (bc (sR (lD r0 rfl rfl rfl (mV rfl (mV rfl (mV rfl ?_))))))))
   obtain ⟨b7, b3, b4⟩ := ct (i := a1) r2 (by omega) (by omega)
   refine ae (bg rfl rfl b3) (gL (av.g_Entry b4) rfl rfl rfl fun b9 a9 => ?_)
   obtain ⟨b8, a2, hres⟩ := cw hres
   have b1 := ec5 (x1 := x1) r0 a9 
   rw [a2] at b1
   refine cL b1 rfl rfl (aj (TR.clo ab.t r0) (aj rfl (aj (TR.clo au.t a9) bb))) (mV rfl (nS (af (sR (mV rfl (bN jq rfl rfl (nS ?_)))))))
   refine cv hres rfl ?_ ?_ <;> clear hres <;> intro a3 hres <;> have a5 := a3 <;> try simp only [qa] at a5
   ·refine sR (mV rfl (mV rfl (nS ?_)))
    exact rR hres rfl rfl rfl
   ·refine ax (ai (sR (mI rfl (nS (bc ?_)))))
    refine wC (ac8 r2 b2 a4 a7 a0 a2 a3 ?_  rfl (by omega) hres) rfl
    ·intro  hres
     refine dv (da (ai (ah (mV rfl (bN dp rfl rfl (mV rfl (aw (cf ?_))))))))
     have hbd := df r2
     have hinc : wr (a1 + 1) = a1 + 1 := dg (by omega) (by have hk : x2.length ≤ 9223372036854775807 := r2.2; omega)
     erw [hinc]
     exact wC (ih   (by omega) (by omega) hres) rfl
  ·exfalso
   try simp only [qa] at a0
   omega

theorem dn5 {x0 : ab} {x1 : Int} {x2 : List av} {v0 v2 : PV} (r0 : ab.t.R x0 v0) (r2 : (tSl av.t).R x2 v2) : FnR Tryz.prog 16 [v0, vi x1, v2] (vi (gz x0 x1 x2)) := by
 refine fnS (R := RF16) dt8 (fun _ h => h) rfl fun res hres => ?_
 unfold gz at hres
 refine sR (ae (di rfl (TR.cnt ab.t r0)) (mI rfl (nR (lD r0 rfl rfl rfl (mV rfl ?_)))))
 obtain ⟨a4, a0, hres⟩ := cw hres
 have a3 := bd8 (x1 := x1) r0 
 rw [a0] at a3
 refine cL a3 rfl rfl (aj (TR.clo ab.t r0) (aj rfl bb)) (mV rfl (xT rfl rfl (xT rfl rfl (mV rfl (mV rfl (nS (af (sR ?_))))))))
 refine mV rfl (bN jq rfl rfl (nS ?_))
 refine cv hres rfl ?_ ?_ <;> clear hres <;> intro a1 hres <;> have a2 := a1 <;> try simp only [qa] at a2
 ·refine sR (mV rfl (mV rfl (nS ?_)))
  exact rR hres rfl rfl rfl
 ·refine ax (ai (af (sR (mI rfl (nS (bc ?_))))))
  refine wC (ad6 r0 r2 a0 a1 ?_  rfl (by omega) hres) rfl
  ·intro  hres
   refine dv (ai (sR (mI rfl (nS ?_))))
   exact rR hres rfl rfl rfl

def RF31 (res : av × Bool) (r : PV) : Prop := ∃ c0, r = .tup [c0, vb res.2] ∧ av.t.R res.1 c0
theorem uu {S : List Fr} {res : av × Bool} {x0 : List av} {x1 : av → Bool} {v0 v1 : PV} {a8 a7 : Nat} (r0 : (tSl av.t).R x0 v0) (r1 : (tFn Tryz.prog av.t tB).R x1 v1) {K0 : av → (av × Bool)}
  (c0 : ∀ {a1 : av} {a0 : PV} (a4 : av.t.R a1 a0) {h : Heap} (M0 : Mem h [⟨.op a8 a7 0, 44, 5, [a0]⟩]), K0 a1 = res → PX Tryz.prog 0 S (QR Tryz.prog [(4, some (5, true)), (5, none)] (RF31 res)) [(4, .op a8 a7 0)] h) :
  ∀ {m : Nat} {a2 : Int} {a1 : av} {a0 : PV} (a4 : av.t.R a1 a0) (b9 : m = Int.toNat ((x0.length : Int) - a2)) (b3 : 0 ≤ a2) {h : Heap} (M0 : Mem h [⟨.op a8 a7 0, 44, 5, [a0]⟩]), ft x0 x1 K0 m a2 a1 = res → RC Tryz.prog (.loop cr8) S (QR Tryz.prog [(4, some (5, true)), (5, none)] (RF31 res)) [(11, vi a2), (10, vi (x0.length : Int)), (9, v0), (4, .op a8 a7 0), (1, v1)] h := by
 intro m
 induction m with
 | zero =>
  intro a2 a1 a0 a4 b9 b3 h M0 hres
  rw [ft] at hres
  refine bp (sR (bN cj rfl rfl (nS (af ?_))))
  refine bf rfl ?_ ?_ <;> intro c <;> try simp only [qa] at c
  ·omega
  refine db (dn (cq ?_))
  exact wP (c0 a4 (Mem.sub M0 (.cons_cons _ .slnil)) hres) rfl
 | succ m ih =>
  intro a2 a1 a0 a4 b9 b3 h M0 hres
  rw [ft] at hres
  refine bp (sR (bN cj rfl rfl (nS (af ?_))))
  refine bf rfl ?_ ?_ <;> intro c <;> try simp only [qa] at c
  rotate_left
  ·omega
  refine ax (ai (af (bc (sR ?_))))
  obtain ⟨a5, b6, a3⟩ := ct (i := a2) r0 (by omega) (by omega)
  refine ae (bg rfl rfl b6) (lD a3 rfl rfl rfl ?_)
  refine dh (x := .agg [vi 0, nilS, vi 0, vi 0, nilS]) M0 rfl rfl (fun b1 b2 c1 b5 => ?_)
  refine de (k := 0) (v := a5) b5 rfl rfl rfl (TR.cnt av.t a3) (fun b8 a6 => ?_)
  replace a6 : Mem b8 [⟨.op b1 b2 0, 44, 5, [a5]⟩, ⟨.op a8 a7 0, 44, 5, [a0]⟩] := a6
  refine nR (mV rfl (ae (fe (k := 0) a6 rfl rfl (TR.agg av.t a3)) ?_))
  refine bc5 rfl r1 rfl (show av.t.R (ix x0 a2) a5 from a3) (fun b4 b0 => ?_)
  have b0 : b4 = vb (x1 (ix x0 a2)) := b0; subst b0
  refine nS ?_
  refine cv hres rfl ?_ ?_ <;> clear hres <;> intro c hres <;> try simp only [qa] at c
  ·refine sR (ae (fe (k := 0) a6 rfl rfl (TR.agg av.t a3)) ?_)
   refine de (k := 1) (v := a5) a6 rfl rfl rfl (TR.cnt av.t a3) (fun b7 a9 => ?_)
   replace a9 : Mem b7 [⟨.op b1 b2 0, 44, 5, [a5]⟩, ⟨.op a8 a7 0, 44, 5, [a5]⟩] := a9
   refine mB rfl (nS ?_)
   subst hres
   exact dk (.cell rfl (ie (k := 1) a9 rfl (TR.agg av.t a3)) (.tmp rfl .nil)) (cd (show closed (.tup _) = true from (aj (TR.clo av.t a3) (aj rfl bb)))) ⟨a5, rfl, a3⟩
  ·refine ax (da (ai (ah (bN dp rfl rfl (mV rfl (aw (cf ?_)))))))
   have hbd := df r0
   have hinc : wr (a2 + 1) = a2 + 1 := dg (by omega) (by omega)
   erw [hinc]
   exact wC (ih  a4 (by omega) (by omega) (Mem.sub a6 (.cons _ (.cons_cons _ .slnil))) hres) rfl

theorem ds6 {x0 : List av} {x1 : av → Bool} {v0 v1 : PV} (r0 : (tSl av.t).R x0 v0) (r1 : (tFn Tryz.prog av.t tB).R x1 v1) : ∃ c0, FnR Tryz.prog 31 [v0, v1] (.tup [c0, vb ((ep x0 x1).2)]) ∧ av.t.R (ep x0 x1).1 c0 := by
 obtain ⟨res, hres⟩ : ∃ res, ep x0 x1 = res := ⟨_, rfl⟩
 suffices H : RC Tryz.prog dy3 [] (QR Tryz.prog [(4, some (5, true)), (5, none)] (RF31 res)) (argE 0 [v0, v1]) ⟨0, []⟩ by
  rw [hres]
  obtain ⟨r, h1, c0, rfl, b0⟩ := fnE cj6 (by simp) H
  exact ⟨c0, h1, b0⟩
 unfold ep at hres
 refine sR ?_
 refine dh (x := .agg [vi 0, nilS, vi 0, vi 0, nilS]) (Mem.nil ⟨0, []⟩) rfl rfl (fun a7 a6 a9 a8 => ?_)
 refine mB rfl (nS (af (sR (mV rfl (ae (cg rfl (bq r0 Tryz.underlying32 _)) (mI rfl (nS (bc ?_))))))))
 refine wC (uu r0 r1 ?_  (show av.t.R ({ ID := 0, Entry := ({ Keys := ([] : List ba), Priority := 0, Call := ({ Action := 0, Args := ([] : List (BitVec 32)) } : bh) } : au) } : av) (.agg [vi 0, nilS, vi 0, vi 0, nilS]) from ⟨nilS, nilS, rfl, fg, fg⟩) rfl (by omega) (Mem.sub a8 (.cons_cons _ .slnil)) hres) rfl
 ·intro a1 a3 a2 b1 a4 hres
  refine dv (ai (sR (ae (af9 (x := .agg [vi 0, nilS, vi 0, vi 0, nilS]) rfl rfl) (nR (lR rfl rfl rfl ?_)))))
  refine de (k := 0) (v := .agg [vi 0, nilS, vi 0, vi 0, nilS]) a4 rfl rfl rfl rfl (fun a5 a0 => ?_)
  replace a0 : Mem a5 [⟨.op a7 a6 0, 44, 5, [.agg [vi 0, nilS, vi 0, vi 0, nilS]]⟩] := a0
  refine mB rfl (nS ?_)
  subst hres
  exact dk (.cell rfl (ie (k := 0) a0 rfl rfl) (.tmp rfl .nil)) (cd (show closed (.tup _) = true from (aj (TR.clo av.t (show av.t.R ({ ID := 0, Entry := ({ Keys := ([] : List ba), Priority := 0, Call := ({ Action := 0, Args := ([] : List (BitVec 32)) } : bh) } : au) } : av) (.agg [vi 0, nilS, vi 0, vi 0, nilS]) from ⟨nilS, nilS, rfl, fg, fg⟩)) (aj rfl bb)))) ⟨.agg [vi 0, nilS, vi 0, vi 0, nilS], rfl, ⟨nilS, nilS, rfl, fg, fg⟩⟩

def RF107 (res : Int) (r : PV) : Prop := r = vi res
theorem xg {S : List Fr} {res : Int} {x0 : BitVec 32} {K0 : Int → Int}
  (a4 : ∀ {a1 : Int}, K0 a1 = res → PX Tryz.prog 0 S (QR Tryz.prog [(2, none)] (RF107 res)) [(3, vi a1)] ⟨0, []⟩) :
  ∀ {m : Nat} {a1 a0 : Int} (a3 : m = Int.toNat (32 - a0)) (a2 : 0 ≤ a0), jd x0 K0 m a1 a0 = res → RC Tryz.prog (.loop bx9) S (QR Tryz.prog [(2, none)] (RF107 res)) [(5, vi a0), (3, vi a1), (0, dx x0)] ⟨0, []⟩ := by
 intro m
 induction m with
 | zero =>
  intro a1 a0 a3 a2 hres
  rw [jd] at hres
  refine bp (sR (bN cj rfl rfl (nS (af ?_))))
  refine bf rfl ?_ ?_ <;> intro c <;> try simp only [qa] at c
  ·omega
  refine db (dn (cq ?_))
  exact wP (a4  hres) rfl
 | succ m ih =>
  intro a1 a0 a3 a2 hres
  rw [jd] at hres
  refine bp (sR (bN cj rfl rfl (nS (af ?_))))
  refine bf rfl ?_ ?_ <;> intro c <;> try simp only [qa] at c
  rotate_left
  ·omega
  refine ax (ai (af (bc (sR (mV rfl (mV rfl (nS (ah ?_))))))))
  refine mV rfl (mV rfl (mV rfl (ae (ay (a := dx x0) (b := vi a0) rfl rfl (bm7 (by omega))) (ae (ay (a := dx (x0 >>> a0.toNat)) (b := dx 1#32) rfl rfl cg9) (ae (qw (a := dx ((x0 >>> a0.toNat) &&& 1#32)) rfl (c_wi Tryz.underlying64 Tryz.underlying3)) (bN dp rfl rfl (mV rfl (aw ?_))))))))
  refine da (ai (ah (bN dp rfl rfl (mV rfl (aw (cf ?_))))))
  have hinc : wr (a0 + 1) = a0 + 1 := dg (by omega) (by omega)
  erw [hinc]
  exact wC (ih   (by omega) (by omega) hres) rfl

theorem de8 {x0 : BitVec 32} : FnR Tryz.prog 107 [dx x0] (vi (pe x0)) := by
 refine fnS (R := RF107) bo0 (fun _ h => h) rfl fun res hres => ?_
 unfold pe at hres
 refine sR (mI rfl (nR (mI rfl (nS (af (sR (mI rfl (nS ?_))))))))
 refine bc ?_
 refine wC (xg  ?_  rfl (by omega) hres) rfl
 ·intro a0 hres
  refine dv (ai (sR (mV rfl (mV rfl (nS ?_)))))
  exact rR hres rfl rfl rfl

def RF68 (res : Int) (r : PV) : Prop := r = vi res
theorem aa1 {S : List Fr} {res : Int} {x0 : ab} {x1 : Int} {x2 : au} {v2 a9 : PV} (r2 : au.t.R x2 v2) (b0 : ((decide (x1 < 0)) || (decide ((x0.Tables.length : Int) ≤ x1))) = false) (a5 : (tSl bn.t).R ((ix x0.Tables x1).Keys) a9) {K0 : Unit → Int}
  (c2 : ∀ {h : Heap} (M0 : Mem h []), K0 () = res → PX Tryz.prog 0 S (QR Tryz.prog [(6, none)] (RF68 res)) [] h) :
  ∀ {m : Nat} {a0 : Int} (c0 : m = Int.toNat ((((ix x0.Tables x1).Keys).length : Int) - a0)) (a6 : 0 ≤ a0) {h : Heap} (M0 : Mem h []), mf x0 x1 x2 K0 m a0 = res → RC Tryz.prog (.loop dh1) S (QR Tryz.prog [(6, none)] (RF68 res)) [(25, vi a0), (24, vi (((ix x0.Tables x1).Keys).length : Int)), (23, a9), (5, .fp v2)] h := by
 have a3 := b0
 try simp only [qa] at a3
 intro m
 induction m with
 | zero =>
  intro a0 c0 a6 h M0 hres
  rw [mf] at hres
  refine bp (sR (bN cj rfl rfl (nS (af ?_))))
  refine bf rfl ?_ ?_ <;> intro c <;> try simp only [qa] at c
  ·omega
  refine db (dn (cq ?_))
  exact wP (c2 (Mem.sub M0 .slnil) hres) rfl
 | succ m ih =>
  intro a0 c0 a6 h M0 hres
  rw [mf] at hres
  refine bp (sR (bN cj rfl rfl (nS (af ?_))))
  refine bf rfl ?_ ?_ <;> intro c <;> try simp only [qa] at c
  rotate_left
  ·omega
  refine ax (ai (af (bc (sR (mV rfl ?_)))))
  obtain ⟨a8, b2, a2⟩ := ct (i := a0) a5 (by omega) (by omega)
  refine ae (bg rfl rfl b2) (lD a2 rfl rfl rfl ?_)
  refine dh (x := .agg [vi 0, vi 0, vi 0]) M0 rfl rfl (fun b8 b5 c3 b4 => ?_)
  refine mV rfl ?_
  refine de (k := 0) (v := a8) b4 rfl rfl rfl (TR.cnt bn.t a2) (fun b9 a1 => ?_)
  replace a1 : Mem b9 [⟨.op b8 b5 0, 112, 3, [a8]⟩] := a1
  refine nR (ae (bm rfl) (ae (cm (k := 0) a1 rfl rfl (bn.g_Kind a2)) (bN md rfl rfl (nS ?_))))
  refine cv hres rfl ?_ ?_ <;> clear hres <;> intro c hres <;> try simp only [qa] at c
  ·refine af (sR (mV rfl (gL (au.g_Keys r2) rfl rfl rfl fun c4 b7 => (ae (cg rfl (bq b7 Tryz.underlying38 _)) (bN cj rfl rfl (nS ?_))))))
   refine cv hres rfl ?_ ?_ <;> clear hres <;> intro c hres <;> try simp only [qa] at c
   ·refine sR (gL (au.g_Keys r2) rfl rfl rfl fun c5 b3 => (mV rfl ?_))
    obtain ⟨c6, b1, b6⟩ := ct (i := a0) b3 (by omega) (by omega)
    refine ae (bg rfl rfl b1) (fL rfl (ba.g_Mask b6) rfl rfl ?_)
    obtain ⟨c1, a4, hres⟩ := cw hres
    have a7 := de8 (x0 := (ix x2.Keys a0).Mask)  
    rw [a4] at a7
    refine cL a7 rfl rfl (aj rfl bb) (mV rfl (nS ?_))
    exact rR hres rfl rfl rfl
   ·refine ax (ai (sR (mI rfl (nS ?_))))
    exact rR hres rfl rfl rfl
  ·refine ax (da (ai (ah (bN dp rfl rfl (mV rfl (aw (cf ?_)))))))
   have hbd := df a5
   have hinc : wr (a0 + 1) = a0 + 1 := dg (by omega) (by omega)
   erw [hinc]
   exact wC (ih   (by omega) (by omega) (Mem.sub a1 (.cons _ .slnil)) hres) rfl

theorem ca5 {x0 : ab} {x1 : Int} {x2 : au} {v0 v2 : PV} (r0 : ab.t.R x0 v0) (r2 : au.t.R x2 v2) : FnR Tryz.prog 68 [v0, vi x1, v2] (vi (lj x0 x1 x2)) := by
 refine fnS (R := RF68) cb8 (fun _ h => h) rfl fun res hres => ?_
 unfold lj at hres
 refine sR (ae (di rfl (TR.cnt ab.t r0)) (ae (di rfl (TR.cnt au.t r2)) (mI rfl (nS (af (sR (mV rfl (bN cj rfl rfl ?_))))))))
 refine mV rfl ?_
 refine bw 6 (d := 17) (v := vb ((decide (x1 < 0)) || (decide ((x0.Tables.length : Int) ≤ x1)))) ?_ ?_
 ·intro S Q r
  cases a5 : (decide (x1 < 0))
  ·intro k
   have a3 := a5
   try simp only [qa] at a3
   refine ak rfl rfl (aq rfl) ?_
   obtain ⟨b2, b0, a1⟩ := ab.g_Tables r0
   refine ak rfl rfl (bz rfl b0) (ak rfl rfl (br rfl (TR.cnt (tSl az.t) a1) (TR.agg (tSl az.t) a1)) (ak rfl rfl (cg rfl (bq a1 Tryz.underlying26 _)) (ak rfl rfl (ay rfl rfl se) ?_)))
   exact gK rfl rfl rfl rfl rfl k
  ·exact gN 5 rfl rfl rfl rfl rfl rfl
 refine nS ?_
 refine cv hres rfl ?_ ?_ <;> clear hres <;> intro a0 hres <;> have a4 := a0 <;> try simp only [qa] at a4
 ·refine sR (mI rfl (nS ?_))
  exact rR hres rfl rfl rfl
 ·refine ax (ai (af (sR ?_)))
  obtain ⟨b4, b1, a6⟩ := ab.g_Tables r0
  refine fA rfl b1 (lD a6 rfl rfl rfl (mV rfl ?_))
  obtain ⟨b3, a7, a9⟩ := ct (i := x1) a6 (by omega) (by omega)
  refine ae (bg rfl rfl a7) ?_
  obtain ⟨b6, a8, a2⟩ := az.g_Keys a9
  refine fA rfl a8 (lD a2 rfl rfl rfl (ae (cg rfl (bq a2 Tryz.underlying85 _)) (mI rfl (nS (bc ?_)))))
  refine wC (aa1 r2 a0 a2 ?_  rfl (by omega) (Mem.sub (Mem.nil ⟨0, []⟩) .slnil) hres) rfl
  ·intro b5 b7 hres
   refine dv (ai (sR (mI rfl (nS ?_))))
   exact rR hres rfl rfl rfl

def RF34 (res : Bool) (r : PV) : Prop := r = vb res
theorem dq5 {x0 : ab} {x1 : Int} {x2 : av} {x3 : av} {v0 v2 v3 : PV} (r0 : ab.t.R x0 v0) (r2 : av.t.R x2 v2) (r3 : av.t.R x3 v3) : FnR Tryz.prog 34 [v0, vi x1, v2, v3] (vb (gi x0 x1 x2 x3)) := by
 refine fnS (R := RF34) co4 (fun _ h => h) rfl fun res hres => ?_
 unfold gi at hres
 refine sR (ae (di rfl (TR.cnt ab.t r0)) (ae (di rfl (TR.cnt av.t r2)) (ae (di rfl (TR.cnt av.t r3)) (mB rfl (nS (af (sR ?_)))))))
 obtain ⟨b5, a9, a7⟩ := av.g_Entry r2
 refine fA rfl a9 (fL rfl (au.g_Priority a7) rfl rfl ?_)
 obtain ⟨b4, b2, a6⟩ := av.g_Entry r3
 refine fA rfl b2 (fL rfl (au.g_Priority a6) rfl rfl (bN jq rfl rfl (nS ?_)))
 refine cv hres rfl ?_ ?_ <;> clear hres <;> intro c hres <;> try simp only [qa] at c
 ·refine sR ?_
  obtain ⟨b9, b3, a8⟩ := av.g_Entry r2
  refine fA rfl b3 (fL rfl (au.g_Priority a8) rfl rfl ?_)
  obtain ⟨b7, b0, b1⟩ := av.g_Entry r3
  refine fA rfl b0 (fL rfl (au.g_Priority b1) rfl rfl (bN gh rfl rfl (mV rfl (nS ?_))))
  exact rR hres rfl rfl rfl
 ·refine ax (ai (af (sR (lD r0 rfl rfl rfl (mV rfl (gL (av.g_Entry r2) rfl rfl rfl fun c1 a2 => ?_))))))
  obtain ⟨b8, a1, hres⟩ := cw hres
  have a5 := ca5 (x1 := x1) r0 a2 
  rw [a1] at a5
  refine cL a5 rfl rfl (aj (TR.clo ab.t r0) (aj rfl (aj (TR.clo au.t a2) bb))) (lD r0 rfl rfl rfl (mV rfl (gL (av.g_Entry r3) rfl rfl rfl fun c0 a3 => ?_)))
  obtain ⟨b6, a4, hres⟩ := cw hres
  have a0 := ca5 (x1 := x1) r0 a3 
  rw [a4] at a0
  refine cL a0 rfl rfl (aj (TR.clo ab.t r0) (aj rfl (aj (TR.clo au.t a3) bb))) (mV rfl (mV rfl (nR (mV rfl (mV rfl (bN jq rfl rfl (nS ?_)))))))
  refine cv hres rfl ?_ ?_ <;> clear hres <;> intro c hres <;> try simp only [qa] at c
  ·refine sR (mV rfl (mV rfl (bN gh rfl rfl (mV rfl (nS ?_)))))
   exact rR hres rfl rfl rfl
  ·refine ax (ai (sR (fL rfl (av.g_ID r2) rfl rfl (fL rfl (av.g_ID r3) rfl rfl (bN cj rfl rfl (mV rfl (nS ?_)))))))
   exact rR hres rfl rfl rfl

def RF109 (res : Bool) (r : PV) : Prop := r = vb res
theorem bn3 {x0 : UInt8} : FnR Tryz.prog 109 [vu8 x0] (vb (lw x0)) := by
 refine fnS (R := RF109) bp3 (fun _ h => h) rfl fun res hres => ?_
 unfold lw at hres
 refine sR (mB rfl (nR (mV rfl (ae (ay (a := vu8 x0) (b := vu8 (97 : UInt8)) rfl rfl ap2) (mV rfl ?_)))))
 refine bw 3 (d := 8) (v := vb ((decide ((97 : UInt8) ≤ x0)) && (decide (x0 ≤ (122 : UInt8))))) ?_ ?_
 ·intro S Q r
  cases a3 : (decide ((97 : UInt8) ≤ x0))
  ·exact gN 2 rfl rfl rfl rfl rfl rfl
  ·intro k
   have a2 := a3
   try simp only [qa] at a2
   refine ak rfl rfl (aq rfl) (ak rfl rfl (ay (a := vu8 x0) (b := vu8 (122 : UInt8)) rfl rfl aq1) ?_)
   exact gK rfl rfl rfl rfl rfl k
 refine mV rfl ?_
 refine bw 7 (d := 16) (v := vb (((decide ((97 : UInt8) ≤ x0)) && (decide (x0 ≤ (122 : UInt8)))) || ((decide ((65 : UInt8) ≤ x0)) && (decide (x0 ≤ (90 : UInt8)))))) ?_ ?_
 ·intro S Q r
  cases a5 : ((decide ((97 : UInt8) ≤ x0)) && (decide (x0 ≤ (122 : UInt8))))
  ·intro k
   have a0 := a5
   try simp only [qa] at a0
   refine ak rfl rfl (aq rfl) (ak rfl rfl (ay (a := vu8 x0) (b := vu8 (65 : UInt8)) rfl rfl ap2) (ak rfl rfl (aq rfl) ?_))
   refine bw 3 (d := 15) (v := vb ((decide ((65 : UInt8) ≤ x0)) && (decide (x0 ≤ (90 : UInt8))))) ?_ ?_
   ·intro S Q r
    cases a4 : (decide ((65 : UInt8) ≤ x0))
    ·intro k
     refine oe rfl rfl (oe rfl rfl (ak (v := vb false) rfl rfl (th rfl rfl rfl rfl) ?_))
     exact wD k rfl
    ·intro k
     have a1 := a4
     try simp only [qa] at a1
     refine ak rfl rfl (aq rfl) (ak rfl rfl (ay (a := vu8 x0) (b := vu8 (90 : UInt8)) rfl rfl aq1) (ak (v := vb (decide (x0 ≤ (90 : UInt8)))) rfl rfl (th rfl rfl rfl rfl) ?_))
     exact wD k rfl
   exact gK rfl rfl rfl rfl rfl k
  ·exact gN 6 rfl rfl rfl rfl rfl rfl
 refine mV rfl (nS ?_)
 exact rR hres rfl rfl rfl

def RF110 (res : Int) (r : PV) : Prop := r = vi res
theorem zr {S : List Fr} {res : Int} {x0 : List UInt8} {x1 : UInt8 → Bool} {v1 : PV} (r1 : (tFn Tryz.prog tU8 tB).R x1 v1) (hs : x0.length ≤ 1000) {K0 : Int → Int}
  (b1 : ∀ {a0 : Int}, K0 a0 = res → PX Tryz.prog 0 S (QR Tryz.prog [(4, none)] (RF110 res)) [(5, vi a0)] ⟨0, []⟩) :
  ∀ {m : Nat} {a0 : Int} (b0 : m = Int.toNat ((x0.length : Int) - a0)) (a5 : 0 ≤ a0), mj x0 x1 K0 m a0 = res → RC Tryz.prog (.loop bz8) S (QR Tryz.prog [(4, none)] (RF110 res)) [(5, vi a0), (1, v1), (0, vs x0)] ⟨0, []⟩ := by
 intro m
 induction m with
 | zero =>
  intro a0 b0 a5 hres
  rw [mj] at hres
  refine bp (af (sR (mV rfl (mV rfl (ae (cg rfl (qe Tryz.underlying9)) (bN cj rfl rfl (mV rfl ?_)))))))
  refine bw 6 (d := 16) (v := vb ((decide (a0 < (x0.length : Int))) && (x1 (ix x0 a0)))) ?_ ?_
  ·intro S Q r
   cases a6 : (decide (a0 < (x0.length : Int)))
   ·exact gN 5 rfl rfl rfl rfl rfl rfl
   ·intro k
    have a3 := a6
    try simp only [qa] at a3
    refine ak rfl rfl (aq rfl) (ak rfl rfl (aq rfl) (ak rfl rfl (aq rfl) (ak rfl rfl (sf rfl rfl (wx Tryz.underlying9 (by omega) (by omega))) ?_)))
    refine aq2 rfl rfl rfl r1 rfl (show tU8.R (ix x0 a0) (vu8 (ix x0 a0)) from rfl) (fun a8 a1 => ?_)
    have a1 : a8 = vb (x1 (ix x0 a0)) := a1; subst a1
    exact gK rfl rfl rfl rfl rfl k
  refine nS ?_
  refine bf rfl ?_ ?_ <;> intro c <;> try simp only [qa] at c
  ·omega
  refine db (dn (cq ?_))
  exact wP (b1  hres) rfl
 | succ m ih =>
  intro a0 b0 a5 hres
  rw [mj] at hres
  refine bp (af (sR (mV rfl (mV rfl (ae (cg rfl (qe Tryz.underlying9)) (bN cj rfl rfl (mV rfl ?_)))))))
  refine bw 6 (d := 16) (v := vb ((decide (a0 < (x0.length : Int))) && (x1 (ix x0 a0)))) ?_ ?_
  ·intro S Q r
   cases a7 : (decide (a0 < (x0.length : Int)))
   ·exact gN 5 rfl rfl rfl rfl rfl rfl
   ·intro k
    have a2 := a7
    try simp only [qa] at a2
    refine ak rfl rfl (aq rfl) (ak rfl rfl (aq rfl) (ak rfl rfl (aq rfl) (ak rfl rfl (sf rfl rfl (wx Tryz.underlying9 (by omega) (by omega))) ?_)))
    refine aq2 rfl rfl rfl r1 rfl (show tU8.R (ix x0 a0) (vu8 (ix x0 a0)) from rfl) (fun a9 a4 => ?_)
    have a4 : a9 = vb (x1 (ix x0 a0)) := a4; subst a4
    exact gK rfl rfl rfl rfl rfl k
  refine nS ?_
  refine cv hres rfl ?_ ?_ <;> clear hres <;> intro c hres <;> try simp only [qa] at c
  ·refine ax (ai (bc (ah (mV rfl (bN dp rfl rfl (mV rfl (aw (da ?_))))))))
   refine cf ?_
   have hinc : wr (a0 + 1) = a0 + 1 := dg (by omega) (by omega)
   erw [hinc]
   exact wC (ih   (by omega) (by omega) hres) rfl
  ·refine db (dn (cq ?_))
   exact wP (b1  hres) rfl

theorem dc9 {x0 : List UInt8} {x1 : UInt8 → Bool} {v1 : PV} (r1 : (tFn Tryz.prog tU8 tB).R x1 v1) (hs : x0.length ≤ 1000) : FnR Tryz.prog 110 [vs x0, v1] (vi (ua x0 x1)) := by
 refine fnS (R := RF110) bo6 (fun _ h => h) rfl fun res hres => ?_
 unfold ua at hres
 refine sR (mI rfl (nR (mI rfl (nS (af (bc ?_))))))
 refine wC (zr r1 hs ?_  rfl (by omega) hres) rfl
 ·intro a0 hres
  refine dv (ai (sR (mV rfl (mV rfl (nS ?_)))))
  exact rR hres rfl rfl rfl

def RF112 (res : Bool) (r : PV) : Prop := r = vb res
theorem da6 {x0 : UInt8} : FnR Tryz.prog 112 [vu8 x0] (vb (mq x0)) := by
 refine fnS (R := RF112) bo8 (fun _ h => h) rfl fun res hres => ?_
 unfold mq at hres
 refine sR (mB rfl (nR (mV rfl (ae (ay (a := vu8 x0) (b := vu8 (48 : UInt8)) rfl rfl ap2) (mV rfl ?_)))))
 refine bw 3 (d := 8) (v := vb ((decide ((48 : UInt8) ≤ x0)) && (decide (x0 ≤ (57 : UInt8))))) ?_ ?_
 ·intro S Q r
  cases a1 : (decide ((48 : UInt8) ≤ x0))
  ·exact gN 2 rfl rfl rfl rfl rfl rfl
  ·intro k
   have a0 := a1
   try simp only [qa] at a0
   refine ak rfl rfl (aq rfl) (ak rfl rfl (ay (a := vu8 x0) (b := vu8 (57 : UInt8)) rfl rfl aq1) ?_)
   exact gK rfl rfl rfl rfl rfl k
 refine mV rfl (nS ?_)
 exact rR hres rfl rfl rfl

def RF111 (res : Bool) (r : PV) : Prop := r = vb res
theorem ct8 {x0 : UInt8} : FnR Tryz.prog 111 [vu8 x0] (vb (jx x0)) := by
 refine fnS (R := RF111) br3 (fun _ h => h) rfl fun res hres => ?_
 unfold jx at hres
 refine sR (mB rfl (nR (mV rfl ?_)))
 obtain ⟨a0, a3, hres⟩ := cw hres
 have a4 := bn3 (x0 := x0)  
 rw [a3] at a4
 refine cL a4 rfl rfl (aj rfl bb) (mV rfl ?_)
 refine bw 3 (d := 8) (v := vb (a0 || (mq x0))) ?_ ?_
 ·intro S Q r
  cases a6 : a0
  ·intro k
   have a1 := a6
   try simp only [qa] at a1
   refine ak rfl rfl (aq rfl) ?_
   have a7 := da6 (x0 := x0)  
   refine io rfl rfl (qt rfl rfl (aj rfl bb) a7) ?_
   exact gK rfl rfl rfl rfl rfl k
  ·exact gN 2 rfl rfl rfl rfl rfl rfl
 refine mV rfl ?_
 refine bw 3 (d := 12) (v := vb ((a0 || (mq x0)) || (decide (x0 = (95 : UInt8))))) ?_ ?_
 ·intro S Q r
  cases a5 : (a0 || (mq x0))
  ·intro k
   have a2 := a5
   try simp only [qa] at a2
   refine ak rfl rfl (aq rfl) (ak rfl rfl (ay (a := vu8 x0) (b := vu8 (95 : UInt8)) rfl rfl en2) ?_)
   exact gK rfl rfl rfl rfl rfl k
  ·exact gN 2 rfl rfl rfl rfl rfl rfl
 refine mV rfl (nS ?_)
 exact rR hres rfl rfl rfl

theorem dy5 : (tFn Tryz.prog tU8 tB).R jx (.fn (.func 111) [] []) := dn3 fun a va ra => by obtain rfl := ra; exact ⟨_, ct8, rfl⟩

def RF73 (res : Bool) (r : PV) : Prop := r = vb res
theorem ds1 {x0 : List UInt8} : FnR Tryz.prog 73 [vs x0] (vb (ng x0)) := by
 refine fnS (R := RF73) cn0 (fun _ h => h) rfl fun res hres => ?_
 unfold ng at hres
 refine sR (mB rfl (nS (af (sR (mV rfl (ae (cg rfl (qe Tryz.underlying9)) (bN md rfl rfl (mV rfl ?_))))))))
 refine bw 4 (d := 10) (v := vb ((decide ((x0.length : Int) = 0)) || (decide (16 < (x0.length : Int))))) ?_ ?_
 ·intro S Q r
  cases a2 : (decide ((x0.length : Int) = 0))
  ·intro k
   have a1 := a2
   try simp only [qa] at a1
   refine ak rfl rfl (aq rfl) (ak rfl rfl (cg rfl (qe Tryz.underlying9)) (ak rfl rfl (ay rfl rfl gh) ?_))
   exact gK rfl rfl rfl rfl rfl k
  ·exact gN 3 rfl rfl rfl rfl rfl rfl
 refine mV rfl ?_
 refine bw 5 (d := 16) (v := vb (((decide ((x0.length : Int) = 0)) || (decide (16 < (x0.length : Int)))) || (!(lw (ix x0 0))))) ?_ ?_
 ·intro S Q r
  cases a5 : ((decide ((x0.length : Int) = 0)) || (decide (16 < (x0.length : Int))))
  ·intro k
   have a0 := a5
   try simp only [qa] at a0
   refine ak rfl rfl (aq rfl) (ak rfl rfl (sf rfl rfl (wx (i := 0) Tryz.underlying9 (by omega) (by omega))) ?_)
   have a6 := bn3 (x0 := (ix x0 0))  
   refine io rfl rfl (qt rfl rfl (aj rfl bb) a6) (ak rfl rfl (gu rfl) ?_)
   exact gK rfl rfl rfl rfl rfl k
  ·exact gN 4 rfl rfl rfl rfl rfl rfl
 refine nS ?_
 refine cv hres rfl ?_ ?_ <;> clear hres <;> intro c hres <;> try simp only [qa] at c
 ·refine sR (mB rfl (nS ?_))
  exact rR hres rfl rfl rfl
 ·refine ax (ai (sR (mV rfl ?_)))
  obtain ⟨a7, a4, hres⟩ := cw hres
  have a3 := dc9 (x0 := x0) dy5 (by omega)
  rw [a4] at a3
  refine cL a3 rfl rfl (aj rfl (aj rfl bb)) (mV rfl (ae (cg rfl (qe Tryz.underlying9)) (bN md rfl rfl (mV rfl (nS ?_)))))
  exact rR hres rfl rfl rfl

def RF144 (res : cy) (r : PV) : Prop := cy.t.R res r
theorem cs8 {x0 : List cy} {x1 : Int} {v0 : PV} (r0 : (tSl cy.t).R x0 v0) : ∃ r, FnR Tryz.prog 144 [v0, vi x1] r ∧ cy.t.R (ik x0 x1) r := by
 refine fnT (R := RF144) bq7 rfl fun res hres => ?_
 unfold ik at hres
 refine sR ?_
 refine dh (x := .agg [vs [], nilS]) (Mem.nil ⟨0, []⟩) rfl rfl (fun a6 a5 b2 a8 => ?_)
 refine nR (ae (af9 (x := .agg [vs [], nilS]) rfl rfl) (nS (af (sR (mV rfl (bN cj rfl rfl (mV rfl ?_)))))))
 refine bw 5 (d := 13) (v := vb ((decide (x1 < 0)) || (decide ((x0.length : Int) ≤ x1)))) ?_ ?_
 ·intro S Q r
  cases a4 : (decide (x1 < 0))
  ·intro k
   have a3 := a4
   try simp only [qa] at a3
   refine ak rfl rfl (aq rfl) (ak rfl rfl (aq rfl) (ak rfl rfl (cg rfl (bq r0 Tryz.underlying22 _)) (ak rfl rfl (ay rfl rfl se) ?_)))
   exact gK rfl rfl rfl rfl rfl k
  ·exact gN 4 rfl rfl rfl rfl rfl rfl
 refine nS ?_
 refine cv hres rfl ?_ ?_ <;> clear hres <;> intro c hres <;> try simp only [qa] at c
 ·refine sR (lR rfl rfl rfl ?_)
  refine de (k := 0) (v := .agg [vs [], nilS]) a8 rfl rfl rfl rfl (fun b0 a1 => ?_)
  replace a1 : Mem b0 [⟨.op a6 a5 0, 116, 2, [.agg [vs [], nilS]]⟩] := a1
  refine nS ?_
  subst hres
  exact dk (.cell rfl (ie (k := 0) a1 rfl rfl) .nil) (cd (TR.clo cy.t (show cy.t.R ({ Name := ([] : List UInt8), Fields := ([] : List ck) } : cy) (.agg [vs [], nilS]) from ⟨nilS, rfl, fg⟩))) (show cy.t.R ({ Name := ([] : List UInt8), Fields := ([] : List ck) } : cy) (.agg [vs [], nilS]) from ⟨nilS, rfl, fg⟩)
 ·refine ax (ai (sR (mV rfl (mV rfl ?_))))
  obtain ⟨a7, b1, a0⟩ := ct (i := x1) r0 (by omega) (by omega)
  refine ae (bg rfl rfl b1) (lD a0 rfl rfl rfl ?_)
  refine de (k := 0) (v := a7) a8 rfl rfl rfl (TR.cnt cy.t a0) (fun a9 a2 => ?_)
  replace a2 : Mem a9 [⟨.op a6 a5 0, 116, 2, [a7]⟩] := a2
  refine nS ?_
  subst hres
  exact dk (.cell rfl (ie (k := 0) a2 rfl (TR.agg cy.t a0)) .nil) (cd (TR.clo cy.t a0)) a0

end Go.Proofs.YthdnpgpnodgicaaGreat
