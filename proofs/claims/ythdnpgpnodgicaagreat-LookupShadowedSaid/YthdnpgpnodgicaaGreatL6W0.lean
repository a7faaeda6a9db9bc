/-
 The code of each function does what its plain program says.
-/
import Derived.Test.YthdnpgpnodgicaaGreatKDef
import Derived.Test.YthdnpgpnodgicaaGreatL6Text
import Derived.Test.YthdnpgpnodgicaaGreatPbV
import Derived.Test.YthdnpgpnodgicaaGreatPbV
import Derived.Test.YthdnpgpnodgicaaGreatKFoOr
import Derived.Test.YthdnpgpnodgicaaGreatKFzSp
import Derived.Test.YthdnpgpnodgicaaGreatKFzSp
import Derived.Test.YthdnpgpnodgicaaGreatKLy
import Derived.Test.YthdnpgpnodgicaaGreatL6Run
set_option linter.unusedVariables false
set_option linter.unusedSimpArgs false
set_option maxRecDepth 100000
namespace Go.Proofs.YthdnpgpnodgicaaGreat
open Go Go.Pb Go.RowKit
def RF63 (res : Int) (r : PV) : Prop := r = vi res
theorem ab2 {S : List Fr} {res : Int} {x0 : List am} {x1 : Int} {rec_ : (List am) → Int → Int} {mu_ : Nat} {v0 : PV} (r0 : (tSl am.t).R x0 v0) (hd : 0 ≤ x1) (d1 : x1 ≤ 100) (ihR : ∀ {z0 : List am} {z1 : Int} {c6 : PV} (d6 : (tSl am.t).R z0 c6) (hd : 0 ≤ z1) (d1 : z1 ≤ 100), z1.toNat < mu_ → FnR Tryz.prog 63 [c6, vi z1] (vi (rec_ z0 z1))) (hmu : mu_ = x1.toNat) {K0 : Int → Int}
  (c5 : ∀ {a1 : Int}, K0 a1 = res → PX Tryz.prog 0 S (QR Tryz.prog [(4, none)] (RF63 res)) [(5, vi a1)] ⟨0, []⟩) :
  ∀ {m : Nat} {a1 a0 : Int} (c4 : m = Int.toNat ((x0.length : Int) - a0)) (b0 : 0 ≤ a0), qv x0 x1 rec_ K0 m a1 a0 = res → RC Tryz.prog (.loop dg6) S (QR Tryz.prog [(4, none)] (RF63 res)) [(6, vi a0), (5, vi a1), (1, vi x1), (0, v0)] ⟨0, []⟩ := by
 intro m
 induction m with
 | zero =>
  intro a1 a0 c4 b0 hres
  rw [qv] at hres
  refine bp (af (sR (mV rfl (mV rfl (ae (cg rfl (bq r0 Tryz.underlying28 _)) (bN cj rfl rfl (mV rfl ?_)))))))
  refine bw 3 (d := 16) (v := vb ((decide (a0 < (x0.length : Int))) && (decide (a1 < 100)))) ?_ ?_
  ·intro S Q r
   cases b2 : (decide (a0 < (x0.length : Int)))
   ·exact gN 2 rfl rfl rfl rfl rfl rfl
   ·intro k
    have a3 := b2
    try simp only [qa] at a3
    refine ak rfl rfl (aq rfl) (ak rfl rfl (ay rfl rfl cj) ?_)
    exact gK rfl rfl rfl rfl rfl k
  refine nS ?_
  refine bf rfl ?_ ?_ <;> intro c <;> try simp only [qa] at c
  ·omega
  refine db (dn (cq ?_))
  exact wP (c5  hres) rfl
 | succ m ih =>
  intro a1 a0 c4 b0 hres
  rw [qv] at hres
  refine bp (af (sR (mV rfl (mV rfl (ae (cg rfl (bq r0 Tryz.underlying28 _)) (bN cj rfl rfl (mV rfl ?_)))))))
  refine bw 3 (d := 16) (v := vb ((decide (a0 < (x0.length : Int))) && (decide (a1 < 100)))) ?_ ?_
  ·intro S Q r
   cases a9 : (decide (a0 < (x0.length : Int)))
   ·exact gN 2 rfl rfl rfl rfl rfl rfl
   ·intro k
    have a6 := a9
    try simp only [qa] at a6
    refine ak rfl rfl (aq rfl) (ak rfl rfl (ay rfl rfl cj) ?_)
    exact gK rfl rfl rfl rfl rfl k
  refine nS ?_
  refine cv hres rfl ?_ ?_ <;> clear hres <;> intro c hres <;> try simp only [qa] at c
  ·refine ax (ai (af (bc (af (sR (mV rfl (bN md rfl rfl (mV rfl ?_))))))))
   refine bw 8 (d := 29) (v := vb ((decide (x1 = 0)) || (decide (40 < (((ix x0 a0).Cond).length : Int))))) ?_ ?_
   ·intro S Q r
    cases b4 : (decide (x1 = 0))
    ·intro k
     have a5 := b4
     try simp only [qa] at a5
     refine ak rfl rfl (aq rfl) (ak rfl rfl (aq rfl) ?_)
     obtain ⟨d5, c1, b9⟩ := ct (i := a0) r0 (by omega) (by omega)
     refine ak rfl rfl (bg rfl rfl c1) ?_
     obtain ⟨c9, c0, a4⟩ := am.g_Cond b9
     refine ak rfl rfl (bz rfl c0) (ak rfl rfl (br rfl (TR.cnt (tSl eg.t) a4) (TR.agg (tSl eg.t) a4)) (ak rfl rfl (cg rfl (bq a4 Tryz.underlying163 _)) (ak rfl rfl (ay rfl rfl gh) ?_)))
     exact gK rfl rfl rfl rfl rfl k
    ·exact gN 7 rfl rfl rfl rfl rfl rfl
   refine nS ?_
   refine cv hres rfl ?_ ?_ <;> clear hres <;> intro c hres <;> try simp only [qa] at c
   ·refine sR (mI rfl (nS ?_))
    exact rR hres rfl rfl rfl
   ·refine ax (ai (ah (mV rfl (mV rfl (mV rfl ?_)))))
    obtain ⟨d0, b6, b8⟩ := ct (i := a0) r0 (by omega) (by omega)
    refine ae (bg rfl rfl b6) ?_
    obtain ⟨d3, c2, a2⟩ := am.g_Then b8
    refine fA rfl c2 (lD a2 rfl rfl rfl (mV rfl (bN vv rfl rfl ?_)))
    obtain ⟨c8, b3, hres⟩ := cw hres
    have b5 := ihR (z0 := (ix x0 a0).Then) (z1 := (wr (x1 - 1))) a2 (by ((rw [dg (by omega) (by omega)]; omega))) (by ((rw [dg (by omega) (by omega)]; omega))) (by (rw [dg (by omega) (by omega)]; omega))
    rw [b3] at b5
    refine cL b5 rfl rfl (aj (TR.clo (tSl am.t) a2) (aj rfl bb)) (bN dp rfl rfl (mV rfl (mV rfl ?_)))
    obtain ⟨c7, b7, c3⟩ := ct (i := a0) r0 (by omega) (by omega)
    refine ae (bg rfl rfl b7) (gL (am.g_Else c3) rfl rfl rfl fun d4 a7 => (mV rfl (bN vv rfl rfl ?_)))
    obtain ⟨d2, b1, hres⟩ := cw hres
    have a8 := ihR (z0 := (ix x0 a0).Else) (z1 := (wr (x1 - 1))) a7 (by ((rw [dg (by omega) (by omega)]; omega))) (by ((rw [dg (by omega) (by omega)]; omega))) (by (rw [dg (by omega) (by omega)]; omega))
    rw [b1] at a8
    refine cL a8 rfl rfl (aj (TR.clo (tSl am.t) a7) (aj rfl bb)) (bN dp rfl rfl (mV rfl (aw (da (ai (ah (mV rfl (bN dp rfl rfl ?_))))))))
    refine mV rfl (aw (cf ?_))
    have hbd := df r0
    have hinc : wr (a0 + 1) = a0 + 1 := dg (by omega) (by omega)
    erw [hinc]
    exact wC (ih   (by omega) (by omega) hres) rfl
  ·refine db (dn (cq ?_))
   exact wP (c5  hres) rfl

theorem dg9 {rec_ : (List am) → Int → Int} {mu_ : Nat} {x0 : List am} {x1 : Int} {v0 : PV} (r0 : (tSl am.t).R x0 v0) (hd : 0 ≤ x1) (a1 : x1 ≤ 100) (hmu : mu_ = x1.toNat) (ihR : ∀ {z0 : List am} {z1 : Int} {a2 : PV} (a3 : (tSl am.t).R z0 a2) (hd : 0 ≤ z1) (a1 : z1 ≤ 100), z1.toNat < mu_ → FnR Tryz.prog 63 [a2, vi z1] (vi (rec_ z0 z1))) : FnR Tryz.prog 63 [v0, vi x1] (vi (tj rec_ x0 x1)) := by
 refine fnS (R := RF63) ea8 (fun _ h => h) rfl fun res hres => ?_
 unfold tj at hres
 refine sR (mI rfl (nR (mV rfl (ae (cg rfl (bq r0 Tryz.underlying28 _)) (mV rfl (nS (af (sR ?_))))))))
 refine mI rfl (nS (bc ?_))
 refine wC (ab2 r0 hd a1 ihR hmu ?_  rfl (by omega) hres) rfl
 ·intro a0 hres
  refine dv (ai (sR (mV rfl (mV rfl (nS ?_)))))
  exact rR hres rfl rfl rfl
theorem ct4 : ∀ (n_ : Nat) {x0 : List am} {x1 : Int} {v0 : PV} (r0 : (tSl am.t).R x0 v0) (hd : 0 ≤ x1) (a0 : x1 ≤ 100), x1.toNat < n_ → FnR Tryz.prog 63 [v0, vi x1] (vi (pz n_ x0 x1)) := by
 intro n_
 induction n_ with
 | zero => intros; rename_i hlt; exact absurd hlt (Nat.not_lt_zero _)
 | succ n_ ihn =>
  intro x0 x1 v0 r0 hd a0 hlt
  have e_ : pz (n_ + 1) x0 x1 = tj (pz n_) x0 x1 := by rw [pz]
  rw [e_]
  exact dg9 r0 hd a0 rfl (fun {z0} {z1} {zv0} zr0 hd a0 hz => ihn zr0 hd a0 (by omega))
theorem dw5 {x0 : List am} {x1 : Int} {v0 : PV} (r0 : (tSl am.t).R x0 v0) (hd : 0 ≤ x1) (a0 : x1 ≤ 100) : FnR Tryz.prog 63 [v0, vi x1] (vi (qi x0 x1)) := ct4 _ r0 hd a0 (Nat.lt_succ_self _)

def RF64 (res : Bool) (r : PV) : Prop := r = vb res
theorem ac9 {S : List Fr} {res : Bool} {x0 : cy} {v0 : PV} (r0 : cy.t.R x0 v0) (a5 : ((decide (30 < (x0.Name.length : Int))) || (decide (20 < (x0.Fields.length : Int)))) = false) {K0 : Unit → Bool}
  (b2 : K0 () = res → PX Tryz.prog 0 S (QR Tryz.prog [(2, none)] (RF64 res)) [] ⟨0, []⟩) :
  ∀ {m : Nat} {a0 : Int} (b1 : m = Int.toNat ((x0.Fields.length : Int) - a0)) (a3 : 0 ≤ a0), qg x0 K0 m a0 = res → RC Tryz.prog (.loop cy0) S (QR Tryz.prog [(2, none)] (RF64 res)) [(3, vi a0), (1, .fp v0)] ⟨0, []⟩ := by
 have a2 := a5
 try simp only [qa] at a2
 intro m
 induction m with
 | zero =>
  intro a0 b1 a3 hres
  rw [qg] at hres
  refine bp (af (sR (mV rfl (gL (cy.g_Fields r0) rfl rfl rfl fun b4 a9 => (ae (cg rfl (bq a9 Tryz.underlying23 _)) (bN cj rfl rfl (nS ?_)))))))
  refine bf rfl ?_ ?_ <;> intro c <;> try simp only [qa] at c
  ·omega
  refine db (dn (cq ?_))
  exact wP (b2  hres) rfl
 | succ m ih =>
  intro a0 b1 a3 hres
  rw [qg] at hres
  refine bp (af (sR (mV rfl ?_)))
  obtain ⟨b6, b0, a1⟩ := cy.g_Fields r0
  refine fA rfl b0 (lD a1 rfl rfl rfl (ae (cg rfl (bq a1 Tryz.underlying23 _)) (bN cj rfl rfl (nS ?_))))
  refine bf rfl ?_ ?_ <;> intro c <;> try simp only [qa] at c
  rotate_left
  ·omega
  refine ax (ai (af (bc (sR ?_))))
  obtain ⟨b5, a8, a4⟩ := cy.g_Fields r0
  refine fA rfl a8 (lD a4 rfl rfl rfl (mV rfl ?_))
  obtain ⟨b3, a6, a7⟩ := ct (i := a0) a4 (by omega) (by omega)
  refine ae (bg rfl rfl a6) (fL rfl (ck.g_Name a7) rfl rfl (ae (cg rfl (qe Tryz.underlying9)) (bN gh rfl rfl (nS ?_))))
  refine cv hres rfl ?_ ?_ <;> clear hres <;> intro c hres <;> try simp only [qa] at c
  ·refine sR (mB rfl (nS ?_))
   exact rR hres rfl rfl rfl
  ·refine ax (da (ai (ah (mV rfl (bN dp rfl rfl (mV rfl (aw (cf ?_))))))))
   have hbd := df a1
   have hinc : wr (a0 + 1) = a0 + 1 := dg (by omega) (by omega)
   erw [hinc]
   exact wC (ih   (by omega) (by omega) hres) rfl

theorem do8 {x0 : cy} {v0 : PV} (r0 : cy.t.R x0 v0) : FnR Tryz.prog 64 [v0] (vb (yb x0)) := by
 refine fnS (R := RF64) dt0 (fun _ h => h) rfl fun res hres => ?_
 unfold yb at hres
 refine sR (ae (di rfl (TR.cnt cy.t r0)) (mB rfl (nS (af (sR (fL rfl (cy.g_Name r0) rfl rfl (ae (cg rfl (qe Tryz.underlying9)) (bN gh rfl rfl ?_))))))))
 refine mV rfl ?_
 refine bw 5 (d := 13) (v := vb ((decide (30 < (x0.Name.length : Int))) || (decide (20 < (x0.Fields.length : Int))))) ?_ ?_
 ·intro S Q r
  cases a4 : (decide (30 < (x0.Name.length : Int)))
  ·intro k
   have a2 := a4
   try simp only [qa] at a2
   obtain ⟨a6, a5, a1⟩ := cy.g_Fields r0
   refine ak rfl rfl (bz rfl a5) (ak rfl rfl (br rfl (TR.cnt (tSl ck.t) a1) (TR.agg (tSl ck.t) a1)) (ak rfl rfl (cg rfl (bq a1 Tryz.underlying23 _)) (ak rfl rfl (ay rfl rfl gh) ?_)))
   exact gK rfl rfl rfl rfl rfl k
  ·exact gN 4 rfl rfl rfl rfl rfl rfl
 refine nS ?_
 refine cv hres rfl ?_ ?_ <;> clear hres <;> intro a0 hres <;> have a3 := a0 <;> try simp only [qa] at a3
 ·refine sR (mB rfl (nS ?_))
  exact rR hres rfl rfl rfl
 ·refine ax (ai (af (sR (mI rfl (nS (bc ?_))))))
  refine wC (ac9 r0 a0 ?_  rfl (by omega) hres) rfl
  ·intro  hres
   refine dv (ai (sR (mB rfl (nS ?_))))
   exact rR hres rfl rfl rfl

def RF65 (res : Bool) (r : PV) : Prop := r = vb res
theorem wc {S : List Fr} {res : Bool} {x0 : dc} {v0 : PV} (r0 : dc.t.R x0 v0) (a7 : (((decide (8 < (x0.Params.length : Int))) || (decide (16 < (x0.Body.length : Int)))) || (decide (60 < (x0.Name.length : Int)))) = false) {K0 : Unit → Bool}
  (c1 : K0 () = res → PX Tryz.prog 0 S (QR Tryz.prog [(2, none)] (RF65 res)) [] ⟨0, []⟩) :
  ∀ {m : Nat} {a0 : Int} (b8 : m = Int.toNat ((x0.Body.length : Int) - a0)) (a5 : 0 ≤ a0), ly x0 K0 m a0 = res → RC Tryz.prog (.loop cs3) S (QR Tryz.prog [(2, none)] (RF65 res)) [(3, vi a0), (1, .fp v0)] ⟨0, []⟩ := by
 have a3 := a7
 try simp only [qa] at a3
 intro m
 induction m with
 | zero =>
  intro a0 b8 a5 hres
  rw [ly] at hres
  refine bp (af (sR (mV rfl (gL (dc.g_Body r0) rfl rfl rfl fun c7 b2 => (ae (cg rfl (bq b2 Tryz.underlying118 _)) (bN cj rfl rfl (nS ?_)))))))
  refine bf rfl ?_ ?_ <;> intro c <;> try simp only [qa] at c
  ·omega
  refine db (dn (cq ?_))
  exact wP (c1  hres) rfl
 | succ m ih =>
  intro a0 b8 a5 hres
  rw [ly] at hres
  refine bp (af (sR (mV rfl (gL (dc.g_Body r0) rfl rfl rfl fun c5 a6 => (ae (cg rfl (bq a6 Tryz.underlying118 _)) (bN cj rfl rfl (nS ?_)))))))
  refine bf rfl ?_ ?_ <;> intro c <;> try simp only [qa] at c
  rotate_left
  ·omega
  refine ax (ai (af (bc (sR (gL (dc.g_Body r0) rfl rfl rfl fun c6 b1 => (mV rfl ?_))))))
  obtain ⟨c0, b4, b6⟩ := ct (i := a0) b1 (by omega) (by omega)
  refine ae (bg rfl rfl b4) (gL (dq.g_Index b6) rfl rfl rfl fun b9 b7 => (ae (cg rfl (bq b7 Tryz.underlying163 _)) (bN gh rfl rfl (mV rfl ?_))))
  refine bw 9 (d := 44) (v := vb ((decide (40 < (((ix x0.Body a0).Index).length : Int))) || (decide (40 < (((ix x0.Body a0).Value).length : Int))))) ?_ ?_
  ·intro S Q r
   cases a8 : (decide (40 < (((ix x0.Body a0).Index).length : Int)))
   ·intro k
    have a1 := a8
    try simp only [qa] at a1
    obtain ⟨c2, b0, a4⟩ := dc.g_Body r0
    refine ak rfl rfl (bz rfl b0) (ak rfl rfl (br rfl (TR.cnt (tSl dq.t) a4) (TR.agg (tSl dq.t) a4)) (ak rfl rfl (aq rfl) ?_))
    obtain ⟨c4, b3, a9⟩ := ct (i := a0) a4 (by omega) (by omega)
    refine ak rfl rfl (bg rfl rfl b3) ?_
    obtain ⟨c3, b5, a2⟩ := dq.g_Value a9
    refine ak rfl rfl (bz rfl b5) (ak rfl rfl (br rfl (TR.cnt (tSl eg.t) a2) (TR.agg (tSl eg.t) a2)) (ak rfl rfl (cg rfl (bq a2 Tryz.underlying163 _)) (ak rfl rfl (ay rfl rfl gh) ?_)))
    exact gK rfl rfl rfl rfl rfl k
   ·exact gN 8 rfl rfl rfl rfl rfl rfl
  refine nS ?_
  refine cv hres rfl ?_ ?_ <;> clear hres <;> intro c hres <;> try simp only [qa] at c
  ·refine sR (mB rfl (nS ?_))
   exact rR hres rfl rfl rfl
  ·refine ax (da (ai (ah (mV rfl (bN dp rfl rfl (mV rfl (aw (cf ?_))))))))
   have hbd := df a6
   have hinc : wr (a0 + 1) = a0 + 1 := dg (by omega) (by omega)
   erw [hinc]
   exact wC (ih   (by omega) (by omega) hres) rfl

theorem dz3 {x0 : dc} {v0 : PV} (r0 : dc.t.R x0 v0) : FnR Tryz.prog 65 [v0] (vb (sg x0)) := by
 refine fnS (R := RF65) du1 (fun _ h => h) rfl fun res hres => ?_
 unfold sg at hres
 refine sR (ae (di rfl (TR.cnt dc.t r0)) (mB rfl (nS (af (sR ?_)))))
 obtain ⟨b0, a9, a5⟩ := dc.g_Params r0
 refine fA rfl a9 (lD a5 rfl rfl rfl (ae (cg rfl (bq a5 Tryz.underlying23 _)) (bN gh rfl rfl (mV rfl ?_))))
 refine bw 5 (d := 13) (v := vb ((decide (8 < (x0.Params.length : Int))) || (decide (16 < (x0.Body.length : Int))))) ?_ ?_
 ·intro S Q r
  cases a6 : (decide (8 < (x0.Params.length : Int)))
  ·intro k
   have a4 := a6
   try simp only [qa] at a4
   obtain ⟨b1, a8, a3⟩ := dc.g_Body r0
   refine ak rfl rfl (bz rfl a8) (ak rfl rfl (br rfl (TR.cnt (tSl dq.t) a3) (TR.agg (tSl dq.t) a3)) (ak rfl rfl (cg rfl (bq a3 Tryz.underlying118 _)) (ak rfl rfl (ay rfl rfl gh) ?_)))
   exact gK rfl rfl rfl rfl rfl k
  ·exact gN 4 rfl rfl rfl rfl rfl rfl
 refine mV rfl ?_
 refine bw 5 (d := 19) (v := vb (((decide (8 < (x0.Params.length : Int))) || (decide (16 < (x0.Body.length : Int)))) || (decide (60 < (x0.Name.length : Int))))) ?_ ?_
 ·intro S Q r
  cases a7 : ((decide (8 < (x0.Params.length : Int))) || (decide (16 < (x0.Body.length : Int))))
  ·intro k
   have a1 := a7
   try simp only [qa] at a1
   refine ak rfl rfl (bz rfl (dc.g_Name r0)) (ak rfl rfl (br rfl rfl rfl) (ak rfl rfl (cg rfl (qe Tryz.underlying9)) (ak rfl rfl (ay rfl rfl gh) ?_)))
   exact gK rfl rfl rfl rfl rfl k
  ·exact gN 4 rfl rfl rfl rfl rfl rfl
 refine nS ?_
 refine cv hres rfl ?_ ?_ <;> clear hres <;> intro a0 hres <;> have a2 := a0 <;> try simp only [qa] at a2
 ·refine sR (mB rfl (nS ?_))
  exact rR hres rfl rfl rfl
 ·refine ax (ai (af (sR (mI rfl (nS (bc ?_))))))
  refine wC (wc r0 a0 ?_  rfl (by omega) hres) rfl
  ·intro  hres
   refine dv (ai (sR (mB rfl (nS ?_))))
   exact rR hres rfl rfl rfl

def RF66 (res : Bool) (r : PV) : Prop := r = vb res
theorem dy8 {x0 : cz} {v0 : PV} (r0 : cz.t.R x0 v0) : FnR Tryz.prog 66 [v0] (vb (td x0)) := by
 refine fnS (R := RF66) dt5 (fun _ h => h) rfl fun res hres => ?_
 unfold td at hres
 refine sR (ae (di rfl (TR.cnt cz.t r0)) (mB rfl (nR (gL (cz.g_Extract r0) rfl rfl rfl fun a7 a6 => (ae (cg rfl (bq a6 Tryz.underlying29 _)) (bN gh rfl rfl (mV rfl ?_)))))))
 refine bw 5 (d := 12) (v := vb ((decide (8 < (x0.Extract.length : Int))) || (decide (12 < (x0.Cases.length : Int))))) ?_ ?_
 ·intro S Q r
  cases a3 : (decide (8 < (x0.Extract.length : Int)))
  ·intro k
   have a2 := a3
   try simp only [qa] at a2
   obtain ⟨a8, a5, a1⟩ := cz.g_Cases r0
   refine ak rfl rfl (bz rfl a5) (ak rfl rfl (br rfl (TR.cnt (tSl fb.t) a1) (TR.agg (tSl fb.t) a1)) (ak rfl rfl (cg rfl (bq a1 Tryz.underlying122 _)) (ak rfl rfl (ay rfl rfl gh) ?_)))
   exact gK rfl rfl rfl rfl rfl k
  ·exact gN 4 rfl rfl rfl rfl rfl rfl
 refine mV rfl ?_
 refine bw 5 (d := 18) (v := vb (((decide (8 < (x0.Extract.length : Int))) || (decide (12 < (x0.Cases.length : Int)))) || (decide (60 < (x0.Name.length : Int))))) ?_ ?_
 ·intro S Q r
  cases a4 : ((decide (8 < (x0.Extract.length : Int))) || (decide (12 < (x0.Cases.length : Int))))
  ·intro k
   have a0 := a4
   try simp only [qa] at a0
   refine ak rfl rfl (bz rfl (cz.g_Name r0)) (ak rfl rfl (br rfl rfl rfl) (ak rfl rfl (cg rfl (qe Tryz.underlying9)) (ak rfl rfl (ay rfl rfl gh) ?_)))
   exact gK rfl rfl rfl rfl rfl k
  ·exact gN 4 rfl rfl rfl rfl rfl rfl
 refine mV rfl (nS ?_)
 exact rR hres rfl rfl rfl

def RF27 (res : Bool) (r : PV) : Prop := r = vb res
theorem yt {S : List Fr} {res : Bool} {x0 : ab} {v0 : PV} (r0 : ab.t.R x0 v0) (a7 : (((((((((decide (60 < (x0.Name.length : Int))) || (decide (16 < (x0.Headers.length : Int)))) || (decide (20 < (x0.Metadata.length : Int)))) || (decide (8 < (x0.Registers.length : Int)))) || (decide (24 < (x0.Actions.length : Int)))) || (decide (16 < (x0.Tables.length : Int)))) || (decide (16 < (x0.States.length : Int)))) || (decide (16 < (x0.Deparser.length : Int)))) || (decide (60 < (qi x0.Control 10)))) = false) {K0 : Unit → Bool}
  (b6 : K0 () = res → PX Tryz.prog 0 S (QR Tryz.prog [(2, none)] (RF27 res)) [(1, .fp v0)] ⟨0, []⟩) :
  ∀ {m : Nat} {a0 : Int} (b1 : m = Int.toNat ((x0.Headers.length : Int) - a0)) (a5 : 0 ≤ a0), oa x0 K0 m a0 = res → RC Tryz.prog (.loop di8) S (QR Tryz.prog [(2, none)] (RF27 res)) [(3, vi a0), (1, .fp v0)] ⟨0, []⟩ := by
 have a1 := a7
 try simp only [qa] at a1
 intro m
 induction m with
 | zero =>
  intro a0 b1 a5 hres
  rw [oa] at hres
  refine bp (af (sR (mV rfl (gL (ab.g_Headers r0) rfl rfl rfl fun b3 a8 => (ae (cg rfl (bq a8 Tryz.underlying22 _)) (bN cj rfl rfl (nS ?_)))))))
  refine bf rfl ?_ ?_ <;> intro c <;> try simp only [qa] at c
  ·omega
  refine db (dn (cq ?_))
  exact wP (b6  hres) rfl
 | succ m ih =>
  intro a0 b1 a5 hres
  rw [oa] at hres
  refine bp (af (sR (mV rfl (gL (ab.g_Headers r0) rfl rfl rfl fun b2 a4 => (ae (cg rfl (bq a4 Tryz.underlying22 _)) (bN cj rfl rfl (nS ?_)))))))
  refine bf rfl ?_ ?_ <;> intro c <;> try simp only [qa] at c
  rotate_left
  ·omega
  refine ax (ai (af (bc (sR (gL (ab.g_Headers r0) rfl rfl rfl fun b7 a9 => (mV rfl ?_))))))
  obtain ⟨b4, b0, a2⟩ := ct (i := a0) a9 (by omega) (by omega)
  refine ae (bg rfl rfl b0) (lD a2 rfl rfl rfl ?_)
  obtain ⟨b5, a3, hres⟩ := cw hres
  have a6 := do8  a2 
  rw [a3] at a6
  refine cL a6 rfl rfl (aj (TR.clo cy.t a2) bb) (ae (gu rfl) (nS ?_))
  refine cv hres rfl ?_ ?_ <;> clear hres <;> intro c hres <;> try simp only [qa] at c
  ·refine sR (mB rfl (nS ?_))
   exact rR hres rfl rfl rfl
  ·refine ax (da (ai (ah (mV rfl (bN dp rfl rfl (mV rfl (aw (cf ?_))))))))
   have hbd := df a4
   have hinc : wr (a0 + 1) = a0 + 1 := dg (by omega) (by omega)
   erw [hinc]
   exact wC (ih   (by omega) (by omega) hres) rfl

theorem yj {S : List Fr} {res : Bool} {x0 : ab} {v0 : PV} (r0 : ab.t.R x0 v0) (a6 : (((((((((decide (60 < (x0.Name.length : Int))) || (decide (16 < (x0.Headers.length : Int)))) || (decide (20 < (x0.Metadata.length : Int)))) || (decide (8 < (x0.Registers.length : Int)))) || (decide (24 < (x0.Actions.length : Int)))) || (decide (16 < (x0.Tables.length : Int)))) || (decide (16 < (x0.States.length : Int)))) || (decide (16 < (x0.Deparser.length : Int)))) || (decide (60 < (qi x0.Control 10)))) = false) {K2 : Unit → Bool}
  (b3 : K2 () = res → PX Tryz.prog 2 S (QR Tryz.prog [(2, none)] (RF27 res)) [(1, .fp v0)] ⟨0, []⟩) :
  ∀ {m : Nat} {a0 : Int} (b1 : m = Int.toNat ((x0.Actions.length : Int) - a0)) (a3 : 0 ≤ a0), oh x0 K2 m a0 = res → RC Tryz.prog (.loop de5) S (QR Tryz.prog [(2, none)] (RF27 res)) [(4, vi a0), (1, .fp v0)] ⟨0, []⟩ := by
 have a1 := a6
 try simp only [qa] at a1
 intro m
 induction m with
 | zero =>
  intro a0 b1 a3 hres
  rw [oh] at hres
  refine bp (af (sR (mV rfl (gL (ab.g_Actions r0) rfl rfl rfl fun b4 a8 => (ae (cg rfl (bq a8 Tryz.underlying25 _)) (bN cj rfl rfl (nS ?_)))))))
  refine bf rfl ?_ ?_ <;> intro c <;> try simp only [qa] at c
  ·omega
  refine db (dn (cq ?_))
  exact wP (b3  hres) rfl
 | succ m ih =>
  intro a0 b1 a3 hres
  rw [oh] at hres
  refine bp (af (sR (mV rfl (gL (ab.g_Actions r0) rfl rfl rfl fun b2 a5 => (ae (cg rfl (bq a5 Tryz.underlying25 _)) (bN cj rfl rfl (nS ?_)))))))
  refine bf rfl ?_ ?_ <;> intro c <;> try simp only [qa] at c
  rotate_left
  ·omega
  refine ax (ai (af (bc (sR (gL (ab.g_Actions r0) rfl rfl rfl fun b7 b0 => (mV rfl ?_))))))
  obtain ⟨b6, a9, a2⟩ := ct (i := a0) b0 (by omega) (by omega)
  refine ae (bg rfl rfl a9) (lD a2 rfl rfl rfl ?_)
  obtain ⟨b5, a4, hres⟩ := cw hres
  have a7 := dz3  a2 
  rw [a4] at a7
  refine cL a7 rfl rfl (aj (TR.clo dc.t a2) bb) (nS ?_)
  refine cv hres rfl ?_ ?_ <;> clear hres <;> intro c hres <;> try simp only [qa] at c
  ·refine sR (mB rfl (nS ?_))
   exact rR hres rfl rfl rfl
  ·refine ax (da (ai (ah (mV rfl (bN dp rfl rfl (mV rfl (aw (cf ?_))))))))
   have hbd := df a5
   have hinc : wr (a0 + 1) = a0 + 1 := dg (by omega) (by omega)
   erw [hinc]
   exact wC (ih   (by omega) (by omega) hres) rfl

theorem xr {S : List Fr} {res : Bool} {x0 : ab} {v0 : PV} (r0 : ab.t.R x0 v0) (b5 : (((((((((decide (60 < (x0.Name.length : Int))) || (decide (16 < (x0.Headers.length : Int)))) || (decide (20 < (x0.Metadata.length : Int)))) || (decide (8 < (x0.Registers.length : Int)))) || (decide (24 < (x0.Actions.length : Int)))) || (decide (16 < (x0.Tables.length : Int)))) || (decide (16 < (x0.States.length : Int)))) || (decide (16 < (x0.Deparser.length : Int)))) || (decide (60 < (qi x0.Control 10)))) = false) {K4 : Unit → Bool}
  (e8 : K4 () = res → PX Tryz.prog 4 S (QR Tryz.prog [(2, none)] (RF27 res)) [(1, .fp v0)] ⟨0, []⟩) :
  ∀ {m : Nat} {a0 : Int} (d4 : m = Int.toNat ((x0.Tables.length : Int) - a0)) (b0 : 0 ≤ a0), nz x0 K4 m a0 = res → RC Tryz.prog (.loop cs9) S (QR Tryz.prog [(2, none)] (RF27 res)) [(5, vi a0), (1, .fp v0)] ⟨0, []⟩ := by
 have a1 := b5
 try simp only [qa] at a1
 intro m
 induction m with
 | zero =>
  intro a0 d4 b0 hres
  rw [nz] at hres
  refine bp (af (sR (mV rfl (gL (ab.g_Tables r0) rfl rfl rfl fun e4 c7 => (ae (cg rfl (bq c7 Tryz.underlying26 _)) (bN cj rfl rfl (nS ?_)))))))
  refine bf rfl ?_ ?_ <;> intro c <;> try simp only [qa] at c
  ·omega
  refine db (dn (cq ?_))
  exact wP (e8  hres) rfl
 | succ m ih =>
  intro a0 d4 b0 hres
  rw [nz] at hres
  refine bp (af (sR (mV rfl (gL (ab.g_Tables r0) rfl rfl rfl fun e1 b2 => (ae (cg rfl (bq b2 Tryz.underlying26 _)) (bN cj rfl rfl (nS ?_)))))))
  refine bf rfl ?_ ?_ <;> intro c <;> try simp only [qa] at c
  rotate_left
  ·omega
  refine ax (ai (af (bc (sR (gL (ab.g_Tables r0) rfl rfl rfl fun e5 b6 => (mV rfl ?_))))))
  obtain ⟨e9, c4, b7⟩ := ct (i := a0) b6 (by omega) (by omega)
  refine ae (bg rfl rfl c4) (gL (az.g_Keys b7) rfl rfl rfl fun d6 b9 => (ae (cg rfl (bq b9 Tryz.underlying85 _)) (bN gh rfl rfl (mV rfl ?_))))
  refine bw 9 (d := 110) (v := vb ((decide (10 < (((ix x0.Tables a0).Keys).length : Int))) || (decide (24 < (((ix x0.Tables a0).Actions).length : Int))))) ?_ ?_
  ·intro S Q r
   cases b1 : (decide (10 < (((ix x0.Tables a0).Keys).length : Int)))
   ·intro k
    have a9 := b1
    try simp only [qa] at a9
    obtain ⟨e3, c3, a6⟩ := ab.g_Tables r0
    refine ak rfl rfl (bz rfl c3) (ak rfl rfl (br rfl (TR.cnt (tSl az.t) a6) (TR.agg (tSl az.t) a6)) (ak rfl rfl (aq rfl) ?_))
    obtain ⟨d9, b8, c8⟩ := ct (i := a0) a6 (by omega) (by omega)
    refine ak rfl rfl (bg rfl rfl b8) ?_
    obtain ⟨e7, c0, a7⟩ := az.g_Actions c8
    refine ak rfl rfl (bz rfl c0) (ak rfl rfl (br rfl (TR.cnt (tSl tI) a7) (TR.agg (tSl tI) a7)) (ak rfl rfl (cg rfl (bq a7 Tryz.underlying29 _)) (ak rfl rfl (ay rfl rfl gh) ?_)))
    exact gK rfl rfl rfl rfl rfl k
   ·exact gN 8 rfl rfl rfl rfl rfl rfl
  refine mV rfl ?_
  refine bw 10 (d := 121) (v := vb (((decide (10 < (((ix x0.Tables a0).Keys).length : Int))) || (decide (24 < (((ix x0.Tables a0).Actions).length : Int)))) || (decide (8 < ((((ix x0.Tables a0).Default).Args).length : Int))))) ?_ ?_
  ·intro S Q r
   cases b4 : ((decide (10 < (((ix x0.Tables a0).Keys).length : Int))) || (decide (24 < (((ix x0.Tables a0).Actions).length : Int))))
   ·intro k
    have a3 := b4
    try simp only [qa] at a3
    obtain ⟨d7, c1, a8⟩ := ab.g_Tables r0
    refine ak rfl rfl (bz rfl c1) (ak rfl rfl (br rfl (TR.cnt (tSl az.t) a8) (TR.agg (tSl az.t) a8)) (ak rfl rfl (aq rfl) ?_))
    obtain ⟨d8, d2, c9⟩ := ct (i := a0) a8 (by omega) (by omega)
    refine ak rfl rfl (bg rfl rfl d2) ?_
    obtain ⟨d5, c2, c6⟩ := az.g_Default c9
    refine ak rfl rfl (bz rfl c2) ?_
    obtain ⟨e6, d0, a4⟩ := bh.g_Args c6
    refine ak rfl rfl (bz rfl d0) (ak rfl rfl (br rfl (TR.cnt (tSl ru) a4) (TR.agg (tSl ru) a4)) (ak rfl rfl (cg rfl (bq a4 Tryz.underlying33 _)) (ak rfl rfl (ay rfl rfl gh) ?_)))
    exact gK rfl rfl rfl rfl rfl k
   ·exact gN 9 rfl rfl rfl rfl rfl rfl
  refine mV rfl ?_
  refine bw 9 (d := 131) (v := vb ((((decide (10 < (((ix x0.Tables a0).Keys).length : Int))) || (decide (24 < (((ix x0.Tables a0).Actions).length : Int)))) || (decide (8 < ((((ix x0.Tables a0).Default).Args).length : Int)))) || (decide (60 < (((ix x0.Tables a0).Name).length : Int))))) ?_ ?_
  ·intro S Q r
   cases b3 : (((decide (10 < (((ix x0.Tables a0).Keys).length : Int))) || (decide (24 < (((ix x0.Tables a0).Actions).length : Int)))) || (decide (8 < ((((ix x0.Tables a0).Default).Args).length : Int))))
   ·intro k
    have a2 := b3
    try simp only [qa] at a2
    obtain ⟨e0, c5, a5⟩ := ab.g_Tables r0
    refine ak rfl rfl (bz rfl c5) (ak rfl rfl (br rfl (TR.cnt (tSl az.t) a5) (TR.agg (tSl az.t) a5)) (ak rfl rfl (aq rfl) ?_))
    obtain ⟨e2, d1, d3⟩ := ct (i := a0) a5 (by omega) (by omega)
    refine ak rfl rfl (bg rfl rfl d1) (ak rfl rfl (bz rfl (az.g_Name d3)) (ak rfl rfl (br rfl rfl rfl) (ak rfl rfl (cg rfl (qe Tryz.underlying9)) (ak rfl rfl (ay rfl rfl gh) ?_))))
    exact gK rfl rfl rfl rfl rfl k
   ·exact gN 8 rfl rfl rfl rfl rfl rfl
  refine nS ?_
  refine cv hres rfl ?_ ?_ <;> clear hres <;> intro c hres <;> try simp only [qa] at c
  ·refine sR (mB rfl (nS ?_))
   exact rR hres rfl rfl rfl
  ·refine ax (da (ai (ah (mV rfl (bN dp rfl rfl (mV rfl (aw (cf ?_))))))))
   have hbd := df b2
   have hinc : wr (a0 + 1) = a0 + 1 := dg (by omega) (by omega)
   erw [hinc]
   exact wC (ih   (by omega) (by omega) hres) rfl

theorem yh {S : List Fr} {res : Bool} {x0 : ab} {v0 : PV} (r0 : ab.t.R x0 v0) (a6 : (((((((((decide (60 < (x0.Name.length : Int))) || (decide (16 < (x0.Headers.length : Int)))) || (decide (20 < (x0.Metadata.length : Int)))) || (decide (8 < (x0.Registers.length : Int)))) || (decide (24 < (x0.Actions.length : Int)))) || (decide (16 < (x0.Tables.length : Int)))) || (decide (16 < (x0.States.length : Int)))) || (decide (16 < (x0.Deparser.length : Int)))) || (decide (60 < (qi x0.Control 10)))) = false) {K6 : Unit → Bool}
  (b4 : K6 () = res → PX Tryz.prog 6 S (QR Tryz.prog [(2, none)] (RF27 res)) [] ⟨0, []⟩) :
  ∀ {m : Nat} {a0 : Int} (b1 : m = Int.toNat ((x0.States.length : Int) - a0)) (a4 : 0 ≤ a0), oc x0 K6 m a0 = res → RC Tryz.prog (.loop dg0) S (QR Tryz.prog [(2, none)] (RF27 res)) [(6, vi a0), (1, .fp v0)] ⟨0, []⟩ := by
 have a1 := a6
 try simp only [qa] at a1
 intro m
 induction m with
 | zero =>
  intro a0 b1 a4 hres
  rw [oc] at hres
  refine bp (af (sR (mV rfl (gL (ab.g_States r0) rfl rfl rfl fun b3 b0 => (ae (cg rfl (bq b0 Tryz.underlying27 _)) (bN cj rfl rfl (nS ?_)))))))
  refine bf rfl ?_ ?_ <;> intro c <;> try simp only [qa] at c
  ·omega
  refine db (dn (cq ?_))
  exact wP (b4  hres) rfl
 | succ m ih =>
  intro a0 b1 a4 hres
  rw [oc] at hres
  refine bp (af (sR (mV rfl (gL (ab.g_States r0) rfl rfl rfl fun b6 a5 => (ae (cg rfl (bq a5 Tryz.underlying27 _)) (bN cj rfl rfl (nS ?_)))))))
  refine bf rfl ?_ ?_ <;> intro c <;> try simp only [qa] at c
  rotate_left
  ·omega
  refine ax (ai (af (bc (sR (gL (ab.g_States r0) rfl rfl rfl fun b5 a8 => (mV rfl ?_))))))
  obtain ⟨b2, a9, a2⟩ := ct (i := a0) a8 (by omega) (by omega)
  refine ae (bg rfl rfl a9) (lD a2 rfl rfl rfl ?_)
  obtain ⟨b7, a3, hres⟩ := cw hres
  have a7 := dy8  a2 
  rw [a3] at a7
  refine cL a7 rfl rfl (aj (TR.clo cz.t a2) bb) (nS ?_)
  refine cv hres rfl ?_ ?_ <;> clear hres <;> intro c hres <;> try simp only [qa] at c
  ·refine sR (mB rfl (nS ?_))
   exact rR hres rfl rfl rfl
  ·refine ax (da (ai (ah (mV rfl (bN dp rfl rfl (mV rfl (aw (cf ?_))))))))
   have hbd := df a5
   have hinc : wr (a0 + 1) = a0 + 1 := dg (by omega) (by omega)
   erw [hinc]
   exact wC (ih   (by omega) (by omega) hres) rfl

theorem ds9 {x0 : ab} {v0 : PV} (r0 : ab.t.R x0 v0) : FnR Tryz.prog 27 [v0] (vb (ou x0)) := by
 refine fnS (R := RF27) du6 (fun _ h => h) rfl fun res hres => ?_
 unfold ou at hres
 refine sR (ae (di rfl (TR.cnt ab.t r0)) (mB rfl (nS (af (sR (fL rfl (ab.g_Name r0) rfl rfl (ae (cg rfl (qe Tryz.underlying9)) (bN gh rfl rfl ?_))))))))
 refine mV rfl ?_
 refine bw 5 (d := 16) (v := vb ((decide (60 < (x0.Name.length : Int))) || (decide (16 < (x0.Headers.length : Int))))) ?_ ?_
 ·intro S Q r
  cases c2 : (decide (60 < (x0.Name.length : Int)))
  ·intro k
   have a7 := c2
   try simp only [qa] at a7
   obtain ⟨d5, d3, a3⟩ := ab.g_Headers r0
   refine ak rfl rfl (bz rfl d3) (ak rfl rfl (br rfl (TR.cnt (tSl cy.t) a3) (TR.agg (tSl cy.t) a3)) (ak rfl rfl (cg rfl (bq a3 Tryz.underlying22 _)) (ak rfl rfl (ay rfl rfl gh) ?_)))
   exact gK rfl rfl rfl rfl rfl k
  ·exact gN 4 rfl rfl rfl rfl rfl rfl
 refine mV rfl ?_
 refine bw 5 (d := 22) (v := vb (((decide (60 < (x0.Name.length : Int))) || (decide (16 < (x0.Headers.length : Int)))) || (decide (20 < (x0.Metadata.length : Int))))) ?_ ?_
 ·intro S Q r
  cases c0 : ((decide (60 < (x0.Name.length : Int))) || (decide (16 < (x0.Headers.length : Int))))
  ·intro k
   have b6 := c0
   try simp only [qa] at b6
   obtain ⟨d7, c7, b0⟩ := ab.g_Metadata r0
   refine ak rfl rfl (bz rfl c7) (ak rfl rfl (br rfl (TR.cnt (tSl ck.t) b0) (TR.agg (tSl ck.t) b0)) (ak rfl rfl (cg rfl (bq b0 Tryz.underlying23 _)) (ak rfl rfl (ay rfl rfl gh) ?_)))
   exact gK rfl rfl rfl rfl rfl k
  ·exact gN 4 rfl rfl rfl rfl rfl rfl
 refine mV rfl ?_
 refine bw 5 (d := 28) (v := vb ((((decide (60 < (x0.Name.length : Int))) || (decide (16 < (x0.Headers.length : Int)))) || (decide (20 < (x0.Metadata.length : Int)))) || (decide (8 < (x0.Registers.length : Int))))) ?_ ?_
 ·intro S Q r
  cases c3 : (((decide (60 < (x0.Name.length : Int))) || (decide (16 < (x0.Headers.length : Int)))) || (decide (20 < (x0.Metadata.length : Int))))
  ·intro k
   have b3 := c3
   try simp only [qa] at b3
   obtain ⟨e2, d1, a6⟩ := ab.g_Registers r0
   refine ak rfl rfl (bz rfl d1) (ak rfl rfl (br rfl (TR.cnt (tSl fd.t) a6) (TR.agg (tSl fd.t) a6)) (ak rfl rfl (cg rfl (bq a6 Tryz.underlying24 _)) (ak rfl rfl (ay rfl rfl gh) ?_)))
   exact gK rfl rfl rfl rfl rfl k
  ·exact gN 4 rfl rfl rfl rfl rfl rfl
 refine mV rfl ?_
 refine bw 5 (d := 34) (v := vb (((((decide (60 < (x0.Name.length : Int))) || (decide (16 < (x0.Headers.length : Int)))) || (decide (20 < (x0.Metadata.length : Int)))) || (decide (8 < (x0.Registers.length : Int)))) || (decide (24 < (x0.Actions.length : Int))))) ?_ ?_
 ·intro S Q r
  cases b8 : ((((decide (60 < (x0.Name.length : Int))) || (decide (16 < (x0.Headers.length : Int)))) || (decide (20 < (x0.Metadata.length : Int)))) || (decide (8 < (x0.Registers.length : Int))))
  ·intro k
   have b5 := b8
   try simp only [qa] at b5
   obtain ⟨e0, c9, b1⟩ := ab.g_Actions r0
   refine ak rfl rfl (bz rfl c9) (ak rfl rfl (br rfl (TR.cnt (tSl dc.t) b1) (TR.agg (tSl dc.t) b1)) (ak rfl rfl (cg rfl (bq b1 Tryz.underlying25 _)) (ak rfl rfl (ay rfl rfl gh) ?_)))
   exact gK rfl rfl rfl rfl rfl k
  ·exact gN 4 rfl rfl rfl rfl rfl rfl
 refine mV rfl ?_
 refine bw 5 (d := 40) (v := vb ((((((decide (60 < (x0.Name.length : Int))) || (decide (16 < (x0.Headers.length : Int)))) || (decide (20 < (x0.Metadata.length : Int)))) || (decide (8 < (x0.Registers.length : Int)))) || (decide (24 < (x0.Actions.length : Int)))) || (decide (16 < (x0.Tables.length : Int))))) ?_ ?_
 ·intro S Q r
  cases c1 : (((((decide (60 < (x0.Name.length : Int))) || (decide (16 < (x0.Headers.length : Int)))) || (decide (20 < (x0.Metadata.length : Int)))) || (decide (8 < (x0.Registers.length : Int)))) || (decide (24 < (x0.Actions.length : Int))))
  ·intro k
   have b4 := c1
   try simp only [qa] at b4
   obtain ⟨e1, d2, a5⟩ := ab.g_Tables r0
   refine ak rfl rfl (bz rfl d2) (ak rfl rfl (br rfl (TR.cnt (tSl az.t) a5) (TR.agg (tSl az.t) a5)) (ak rfl rfl (cg rfl (bq a5 Tryz.underlying26 _)) (ak rfl rfl (ay rfl rfl gh) ?_)))
   exact gK rfl rfl rfl rfl rfl k
  ·exact gN 4 rfl rfl rfl rfl rfl rfl
 refine mV rfl ?_
 refine bw 5 (d := 46) (v := vb (((((((decide (60 < (x0.Name.length : Int))) || (decide (16 < (x0.Headers.length : Int)))) || (decide (20 < (x0.Metadata.length : Int)))) || (decide (8 < (x0.Registers.length : Int)))) || (decide (24 < (x0.Actions.length : Int)))) || (decide (16 < (x0.Tables.length : Int)))) || (decide (16 < (x0.States.length : Int))))) ?_ ?_
 ·intro S Q r
  cases b9 : ((((((decide (60 < (x0.Name.length : Int))) || (decide (16 < (x0.Headers.length : Int)))) || (decide (20 < (x0.Metadata.length : Int)))) || (decide (8 < (x0.Registers.length : Int)))) || (decide (24 < (x0.Actions.length : Int)))) || (decide (16 < (x0.Tables.length : Int))))
  ·intro k
   have a8 := b9
   try simp only [qa] at a8
   obtain ⟨d6, c6, b7⟩ := ab.g_States r0
   refine ak rfl rfl (bz rfl c6) (ak rfl rfl (br rfl (TR.cnt (tSl cz.t) b7) (TR.agg (tSl cz.t) b7)) (ak rfl rfl (cg rfl (bq b7 Tryz.underlying27 _)) (ak rfl rfl (ay rfl rfl gh) ?_)))
   exact gK rfl rfl rfl rfl rfl k
  ·exact gN 4 rfl rfl rfl rfl rfl rfl
 refine mV rfl ?_
 refine bw 5 (d := 52) (v := vb ((((((((decide (60 < (x0.Name.length : Int))) || (decide (16 < (x0.Headers.length : Int)))) || (decide (20 < (x0.Metadata.length : Int)))) || (decide (8 < (x0.Registers.length : Int)))) || (decide (24 < (x0.Actions.length : Int)))) || (decide (16 < (x0.Tables.length : Int)))) || (decide (16 < (x0.States.length : Int)))) || (decide (16 < (x0.Deparser.length : Int))))) ?_ ?_
 ·intro S Q r
  cases c4 : (((((((decide (60 < (x0.Name.length : Int))) || (decide (16 < (x0.Headers.length : Int)))) || (decide (20 < (x0.Metadata.length : Int)))) || (decide (8 < (x0.Registers.length : Int)))) || (decide (24 < (x0.Actions.length : Int)))) || (decide (16 < (x0.Tables.length : Int)))) || (decide (16 < (x0.States.length : Int))))
  ·intro k
   have a4 := c4
   try simp only [qa] at a4
   obtain ⟨d8, c8, b2⟩ := ab.g_Deparser r0
   refine ak rfl rfl (bz rfl c8) (ak rfl rfl (br rfl (TR.cnt (tSl tI) b2) (TR.agg (tSl tI) b2)) (ak rfl rfl (cg rfl (bq b2 Tryz.underlying29 _)) (ak rfl rfl (ay rfl rfl gh) ?_)))
   exact gK rfl rfl rfl rfl rfl k
  ·exact gN 4 rfl rfl rfl rfl rfl rfl
 refine mV rfl ?_
 refine bw 5 (d := 58) (v := vb (((((((((decide (60 < (x0.Name.length : Int))) || (decide (16 < (x0.Headers.length : Int)))) || (decide (20 < (x0.Metadata.length : Int)))) || (decide (8 < (x0.Registers.length : Int)))) || (decide (24 < (x0.Actions.length : Int)))) || (decide (16 < (x0.Tables.length : Int)))) || (decide (16 < (x0.States.length : Int)))) || (decide (16 < (x0.Deparser.length : Int)))) || (decide (60 < (qi x0.Control 10))))) ?_ ?_
 ·intro S Q r
  cases c5 : ((((((((decide (60 < (x0.Name.length : Int))) || (decide (16 < (x0.Headers.length : Int)))) || (decide (20 < (x0.Metadata.length : Int)))) || (decide (8 < (x0.Registers.length : Int)))) || (decide (24 < (x0.Actions.length : Int)))) || (decide (16 < (x0.Tables.length : Int)))) || (decide (16 < (x0.States.length : Int)))) || (decide (16 < (x0.Deparser.length : Int))))
  ·intro k
   have a9 := c5
   try simp only [qa] at a9
   obtain ⟨d9, d0, a1⟩ := ab.g_Control r0
   refine ak rfl rfl (bz rfl d0) (ak rfl rfl (br rfl (TR.cnt (tSl am.t) a1) (TR.agg (tSl am.t) a1)) ?_)
   have d4 := dw5 (x1 := 10) a1 (by omega) (by omega)
   refine io rfl rfl (qt rfl rfl (aj (TR.clo (tSl am.t) a1) (aj rfl bb)) d4) (ak rfl rfl (ay rfl rfl gh) ?_)
   exact gK rfl rfl rfl rfl rfl k
  ·exact gN 4 rfl rfl rfl rfl rfl rfl
 refine nS ?_
 refine cv hres rfl ?_ ?_ <;> clear hres <;> intro a0 hres <;> have a2 := a0 <;> try simp only [qa] at a2
 ·refine sR (mB rfl (nS ?_))
  exact rR hres rfl rfl rfl
 ·refine ax (ai (af (sR (mI rfl (nS (bc ?_))))))
  refine wC (yt r0 a0 ?_  rfl (by omega) hres) rfl
  ·intro  hres
   refine dv (ai (af (sR (mI rfl (nS (bc ?_))))))
   refine wC (yj r0 a0 ?_  rfl (by omega) hres) rfl
   ·intro  hres
    refine dv (ai (af (sR (mI rfl (nS (bc ?_))))))
    refine wC (xr r0 a0 ?_  rfl (by omega) hres) rfl
    ·intro  hres
     refine dv (ai (af (sR (mI rfl (nS (bc ?_))))))
     refine wC (yh r0 a0 ?_  rfl (by omega) hres) rfl
     ·intro  hres
      refine dv (ai (sR (mB rfl (nS ?_))))
      exact rR hres rfl rfl rfl

end Go.Proofs.YthdnpgpnodgicaaGreat
