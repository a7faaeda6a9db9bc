/-
 The code of each function does what its plain program says.
-/
import Derived.Test.YthdnpgpnodgicaaGreatKDef
import Derived.Test.YthdnpgpnodgicaaGreatL7Text
import Derived.Test.YthdnpgpnodgicaaGreatPbV
import Derived.Test.YthdnpgpnodgicaaGreatPbV
import Derived.Test.YthdnpgpnodgicaaGreatKFoOr
import Derived.Test.YthdnpgpnodgicaaGreatKFzSp
import Derived.Test.YthdnpgpnodgicaaGreatKFzSp
import Derived.Test.YthdnpgpnodgicaaGreatKLy
import Derived.Test.YthdnpgpnodgicaaGreatKShSnSv
import Derived.Test.YthdnpgpnodgicaaGreatKShSnSv
import Derived.Test.YthdnpgpnodgicaaGreatL7Run
set_option linter.all false
set_option maxRecDepth 100000
namespace Go.Proofs.YthdnpgpnodgicaaGreat
open Go Go.Pb Go.RowKit
def RF63 (res : Int) (r : PV) : Prop := r = vi res
theorem ab2 {S : List Fr} {res : Int} {x0 : List aj} {x1 : Int} {rec_ : (List aj) → Int → Int} {mu_ : Nat} {v0 : PV} (r0 : (tSl aj.t).R x0 v0) (hd : 0 ≤ x1) (d4 : x1 ≤ 100) (ihR : ∀ {z0 : List aj} {z1 : Int} {c6 : PV} (d7 : (tSl aj.t).R z0 c6) (hd : 0 ≤ z1) (d4 : z1 ≤ 100), z1.toNat < mu_ → FnR Tryz.prog 63 [c6, vi z1] (vi (rec_ z0 z1))) (hmu : mu_ = x1.toNat) {K0 : Int → Int}
  (c5 : ∀ {a1 : Int}, K0 a1 = res → PX Tryz.prog 0 S (QR Tryz.prog [(4, none)] (RF63 res)) [(5, vi a1)] ⟨0, []⟩) :
  ∀ {m : Nat} {a1 a0 : Int} (c7 : m = Int.toNat ((x0.length : Int) - a0)) (b1 : 0 ≤ a0), py x0 x1 rec_ K0 m a1 a0 = res → RC Tryz.prog (.loop cu7) S (QR Tryz.prog [(4, none)] (RF63 res)) [(6, vi a0), (5, vi a1), (1, vi x1), (0, v0)] ⟨0, []⟩ := by
 intro m
 induction m with
 | zero =>
  intro a1 a0 c7 b1 hres
  rw [py] at hres
  refine bt (ah (sR (mV rfl (mV rfl (ab (cw rfl (cf r0 Tryz.underlying28 _)) (bN cy rfl rfl (mV rfl ?_)))))))
  refine cn 3 (d := 16) (v := vb ((decide (a0 < (x0.length : Int))) && (decide (a1 < 100)))) ?_ ?_
  ·intro S Q r
   cases a8 : (decide (a0 < (x0.length : Int)))
   ·exact gN 2 rfl rfl rfl rfl rfl rfl
   ·intro k
    have a6 := a8
    try simp only [qa] at a6
    refine am rfl rfl (au rfl) (am rfl rfl (ba rfl rfl cy) ?_)
    exact gK rfl rfl rfl rfl rfl k
  refine nS ?_
  refine bc rfl ?_ ?_ <;> intro c <;> try simp only [qa] at c
  ·omega
  refine dm (fb (df ?_))
  exact wP (c5  hres) rfl
 | succ m ih =>
  intro a1 a0 c7 b1 hres
  rw [py] at hres
  refine bt (ah (sR (mV rfl (mV rfl (ab (cw rfl (cf r0 Tryz.underlying28 _)) (bN cy rfl rfl (mV rfl ?_)))))))
  refine cn 3 (d := 16) (v := vb ((decide (a0 < (x0.length : Int))) && (decide (a1 < 100)))) ?_ ?_
  ·intro S Q r
   cases b4 : (decide (a0 < (x0.length : Int)))
   ·exact gN 2 rfl rfl rfl rfl rfl rfl
   ·intro k
    have a3 := b4
    try simp only [qa] at a3
    refine am rfl rfl (au rfl) (am rfl rfl (ba rfl rfl cy) ?_)
    exact gK rfl rfl rfl rfl rfl k
  refine nS ?_
  refine di hres rfl ?_ ?_ <;> clear hres <;> intro c hres <;> try simp only [qa] at c
  ·refine ay (ai (ah (bd (ah (sR (mV rfl (bN oe rfl rfl (mV rfl ?_))))))))
   refine cn 8 (d := 29) (v := vb ((decide (x1 = 0)) || (decide (40 < (((ix x0 a0).Cond).length : Int))))) ?_ ?_
   ·intro S Q r
    cases b3 : (decide (x1 = 0))
    ·intro k
     have a4 := b3
     try simp only [qa] at a4
     refine am rfl rfl (au rfl) (am rfl rfl (au rfl) ?_)
     obtain ⟨d1, c0, b9⟩ := dl (i := a0) r0 (by first | omega | (have hk := bn (by assumption) (by assumption); omega) | (have hk := tck (by assumption) (by assumption); omega) | (have hk := rtck (by assumption) (by assumption); omega) | (have hk := eck (by assumption) (by assumption) (by assumption); omega) | (have hk := tv (by assumption) (by assumption); omega) | (have hk := rtv (by assumption) (by assumption); omega)) (by first | omega | (have hk := bn (by assumption) (by assumption); omega) | (have hk := tck (by assumption) (by assumption); omega) | (have hk := rtck (by assumption) (by assumption); omega) | (have hk := eck (by assumption) (by assumption) (by assumption); omega) | (have hk := tv (by assumption) (by assumption); omega) | (have hk := rtv (by assumption) (by assumption); omega))
     refine am rfl rfl (bq rfl rfl c0) ?_
     obtain ⟨d6, b6, a5⟩ := aj.g_Cond b9
     refine am rfl rfl (bz rfl b6) (am rfl rfl (br rfl (TR.cnt (tSl en.t) a5) (TR.agg (tSl en.t) a5)) (am rfl rfl (cw rfl (cf a5 Tryz.underlying163 _)) (am rfl rfl (ba rfl rfl ij) ?_)))
     exact gK rfl rfl rfl rfl rfl k
    ·exact gN 7 rfl rfl rfl rfl rfl rfl
   refine nS ?_
   refine di hres rfl ?_ ?_ <;> clear hres <;> intro c hres <;> try simp only [qa] at c
   ·refine sR (mI rfl (nS ?_))
    exact rR hres rfl rfl rfl
   ·refine ay (ai (af (mV rfl (mV rfl (mV rfl ?_)))))
    obtain ⟨c8, b7, c3⟩ := dl (i := a0) r0 (by first | omega | (have hk := bn (by assumption) (by assumption); omega) | (have hk := tck (by assumption) (by assumption); omega) | (have hk := rtck (by assumption) (by assumption); omega) | (have hk := eck (by assumption) (by assumption) (by assumption); omega) | (have hk := tv (by assumption) (by assumption); omega) | (have hk := rtv (by assumption) (by assumption); omega)) (by first | omega | (have hk := bn (by assumption) (by assumption); omega) | (have hk := tck (by assumption) (by assumption); omega) | (have hk := rtck (by assumption) (by assumption); omega) | (have hk := eck (by assumption) (by assumption) (by assumption); omega) | (have hk := tv (by assumption) (by assumption); omega) | (have hk := rtv (by assumption) (by assumption); omega))
    refine ab (bq rfl rfl b7) ?_
    obtain ⟨d0, c1, a2⟩ := aj.g_Then c3
    refine fA rfl c1 (lD a2 rfl rfl rfl (mV rfl (bN af9 rfl rfl ?_)))
    obtain ⟨d3, b0, hres⟩ := dq hres
    have a9 := ihR (z0 := (ix x0 a0).Then) (z1 := (wr (x1 - 1))) a2 (by first | assumption | omega | (have := rv (by assumption) (by assumption); omega) | (rw [du (by omega) (by omega)]; omega) | (simp only [List.length_cons, List.length_nil]; omega)) (by first | assumption | omega | (have := rv (by assumption) (by assumption); omega) | (rw [du (by omega) (by omega)]; omega) | (simp only [List.length_cons, List.length_nil]; omega)) (by (rw [du (by omega) (by omega)]; omega))
    rw [b0] at a9
    refine cL a9 rfl rfl (aq (TR.clo (tSl aj.t) a2) (aq rfl bg)) (bN ep rfl rfl (mV rfl (mV rfl ?_)))
    obtain ⟨c9, c4, b8⟩ := dl (i := a0) r0 (by first | omega | (have hk := bn (by assumption) (by assumption); omega) | (have hk := tck (by assumption) (by assumption); omega) | (have hk := rtck (by assumption) (by assumption); omega) | (have hk := eck (by assumption) (by assumption) (by assumption); omega) | (have hk := tv (by assumption) (by assumption); omega) | (have hk := rtv (by assumption) (by assumption); omega)) (by first | omega | (have hk := bn (by assumption) (by assumption); omega) | (have hk := tck (by assumption) (by assumption); omega) | (have hk := rtck (by assumption) (by assumption); omega) | (have hk := eck (by assumption) (by assumption) (by assumption); omega) | (have hk := tv (by assumption) (by assumption); omega) | (have hk := rtv (by assumption) (by assumption); omega))
    refine ab (bq rfl rfl c4) (gL (aj.g_Else b8) rfl rfl rfl fun d2 b2 => (mV rfl (bN af9 rfl rfl ?_)))
    obtain ⟨d5, b5, hres⟩ := dq hres
    have a7 := ihR (z0 := (ix x0 a0).Else) (z1 := (wr (x1 - 1))) b2 (by first | assumption | omega | (have := rv (by assumption) (by assumption); omega) | (rw [du (by omega) (by omega)]; omega) | (simp only [List.length_cons, List.length_nil]; omega)) (by first | assumption | omega | (have := rv (by assumption) (by assumption); omega) | (rw [du (by omega) (by omega)]; omega) | (simp only [List.length_cons, List.length_nil]; omega)) (by (rw [du (by omega) (by omega)]; omega))
    rw [b5] at a7
    refine cL a7 rfl rfl (aq (TR.clo (tSl aj.t) b2) (aq rfl bg)) (bN ep rfl rfl (mV rfl (aw (dj (ai (af (mV rfl (bN ep rfl rfl ?_))))))))
    refine mV rfl (aw (cx ?_))
    have hbd := dv r0
    have hinc : wr (a0 + 1) = a0 + 1 := du (by omega) (by omega)
    erw [hinc]
    exact wC (ih   (by omega) (by omega) hres) rfl
  ·refine dm (fb (df ?_))
   exact wP (c5  hres) rfl

theorem dc3 {rec_ : (List aj) → Int → Int} {mu_ : Nat} {x0 : List aj} {x1 : Int} {v0 : PV} (r0 : (tSl aj.t).R x0 v0) (hd : 0 ≤ x1) (a2 : x1 ≤ 100) (hmu : mu_ = x1.toNat) (ihR : ∀ {z0 : List aj} {z1 : Int} {a1 : PV} (a3 : (tSl aj.t).R z0 a1) (hd : 0 ≤ z1) (a2 : z1 ≤ 100), z1.toNat < mu_ → FnR Tryz.prog 63 [a1, vi z1] (vi (rec_ z0 z1))) : FnR Tryz.prog 63 [v0, vi x1] (vi (sy rec_ x0 x1)) := by
 refine fnS (R := RF63) dx1 (fun _ h => h) rfl fun res hres => ?_
 unfold sy at hres
 refine sR (mI rfl (nR (mV rfl (ab (cw rfl (cf r0 Tryz.underlying28 _)) (mV rfl (nS (ah (sR ?_))))))))
 refine mI rfl (nS (bd ?_))
 refine wC (ab2 r0 hd a2 ihR hmu ?_  rfl (by omega) hres) rfl
 ·intro a0 hres
  refine fe (ai (sR (mV rfl (mV rfl (nS ?_)))))
  exact rR hres rfl rfl rfl
theorem de2 : ∀ (n_ : Nat) {x0 : List aj} {x1 : Int} {v0 : PV} (r0 : (tSl aj.t).R x0 v0) (hd : 0 ≤ x1) (a0 : x1 ≤ 100), x1.toNat < n_ → FnR Tryz.prog 63 [v0, vi x1] (vi (pj n_ x0 x1)) := by
 intro n_
 induction n_ with
 | zero => intros; rename_i hlt; exact absurd hlt (Nat.not_lt_zero _)
 | succ n_ ihn =>
  intro x0 x1 v0 r0 hd a0 hlt
  have e_ : pj (n_ + 1) x0 x1 = sy (pj n_) x0 x1 := by rw [pj]
  rw [e_]
  exact dc3 r0 hd a0 rfl (fun {z0} {z1} {zv0} zr0 hd a0 hz => ihn zr0 hd a0 (by omega))
theorem dt1 {x0 : List aj} {x1 : Int} {v0 : PV} (r0 : (tSl aj.t).R x0 v0) (hd : 0 ≤ x1) (a0 : x1 ≤ 100) : FnR Tryz.prog 63 [v0, vi x1] (vi (pw x0 x1)) := de2 _ r0 hd a0 (Nat.lt_succ_self _)

def RF64 (res : Bool) (r : PV) : Prop := r = vb res
theorem aa9 {S : List Fr} {res : Bool} {x0 : cv} {v0 : PV} (r0 : cv.t.R x0 v0) (a3 : ((decide (30 < (x0.Name.length : Int))) || (decide (20 < (x0.Fields.length : Int)))) = false) {K0 : Unit → Bool}
  (b6 : K0 () = res → PX Tryz.prog 0 S (QR Tryz.prog [(2, none)] (RF64 res)) [] ⟨0, []⟩) :
  ∀ {m : Nat} {a0 : Int} (b1 : m = Int.toNat ((x0.Fields.length : Int) - a0)) (a5 : 0 ≤ a0), pv x0 K0 m a0 = res → RC Tryz.prog (.loop ct3) S (QR Tryz.prog [(2, none)] (RF64 res)) [(3, vi a0), (1, .fp v0)] ⟨0, []⟩ := by
 have a1 := a3
 try simp only [qa] at a1
 intro m
 induction m with
 | zero =>
  intro a0 b1 a5 hres
  rw [pv] at hres
  refine bt (ah (sR (mV rfl (gL (cv.g_Fields r0) rfl rfl rfl fun b5 b0 => (ab (cw rfl (cf b0 Tryz.underlying23 _)) (bN cy rfl rfl (nS ?_)))))))
  refine bc rfl ?_ ?_ <;> intro c <;> try simp only [qa] at c
  ·omega
  refine dm (fb (df ?_))
  exact wP (b6  hres) rfl
 | succ m ih =>
  intro a0 b1 a5 hres
  rw [pv] at hres
  refine bt (ah (sR (mV rfl ?_)))
  obtain ⟨b4, a8, a2⟩ := cv.g_Fields r0
  refine fA rfl a8 (lD a2 rfl rfl rfl (ab (cw rfl (cf a2 Tryz.underlying23 _)) (bN cy rfl rfl (nS ?_))))
  refine bc rfl ?_ ?_ <;> intro c <;> try simp only [qa] at c
  rotate_left
  ·omega
  refine ay (ai (ah (bd (sR ?_))))
  obtain ⟨b3, a6, a4⟩ := cv.g_Fields r0
  refine fA rfl a6 (lD a4 rfl rfl rfl (mV rfl ?_))
  obtain ⟨b2, a7, a9⟩ := dl (i := a0) a4 (by first | omega | (have hk := bn (by assumption) (by assumption); omega) | (have hk := tck (by assumption) (by assumption); omega) | (have hk := rtck (by assumption) (by assumption); omega) | (have hk := eck (by assumption) (by assumption) (by assumption); omega) | (have hk := tv (by assumption) (by assumption); omega) | (have hk := rtv (by assumption) (by assumption); omega)) (by first | omega | (have hk := bn (by assumption) (by assumption); omega) | (have hk := tck (by assumption) (by assumption); omega) | (have hk := rtck (by assumption) (by assumption); omega) | (have hk := eck (by assumption) (by assumption) (by assumption); omega) | (have hk := tv (by assumption) (by assumption); omega) | (have hk := rtv (by assumption) (by assumption); omega))
  refine ab (bq rfl rfl a7) (fL rfl (cd.g_Name a9) rfl rfl (ab (cw rfl (pp Tryz.underlying9)) (bN ij rfl rfl (nS ?_))))
  refine di hres rfl ?_ ?_ <;> clear hres <;> intro c hres <;> try simp only [qa] at c
  ·refine sR (mB rfl (nS ?_))
   exact rR hres rfl rfl rfl
  ·refine ay (dj (ai (af (mV rfl (bN ep rfl rfl (mV rfl (aw (cx ?_))))))))
   have hbd := dv a2
   have hinc : wr (a0 + 1) = a0 + 1 := du (by omega) (by omega)
   erw [hinc]
   exact wC (ih   (by omega) (by omega) hres) rfl

theorem dw5 {x0 : cv} {v0 : PV} (r0 : cv.t.R x0 v0) : FnR Tryz.prog 64 [v0] (vb (yi x0)) := by
 refine fnS (R := RF64) dt5 (fun _ h => h) rfl fun res hres => ?_
 unfold yi at hres
 refine sR (ab (dt rfl (TR.cnt cv.t r0)) (mB rfl (nS (ah (sR (fL rfl (cv.g_Name r0) rfl rfl (ab (cw rfl (pp Tryz.underlying9)) (bN ij rfl rfl ?_))))))))
 refine mV rfl ?_
 refine cn 5 (d := 13) (v := vb ((decide (30 < (x0.Name.length : Int))) || (decide (20 < (x0.Fields.length : Int))))) ?_ ?_
 ·intro S Q r
  cases a4 : (decide (30 < (x0.Name.length : Int)))
  ·intro k
   have a3 := a4
   try simp only [qa] at a3
   obtain ⟨a6, a5, a2⟩ := cv.g_Fields r0
   refine am rfl rfl (bz rfl a5) (am rfl rfl (br rfl (TR.cnt (tSl cd.t) a2) (TR.agg (tSl cd.t) a2)) (am rfl rfl (cw rfl (cf a2 Tryz.underlying23 _)) (am rfl rfl (ba rfl rfl ij) ?_)))
   exact gK rfl rfl rfl rfl rfl k
  ·exact gN 4 rfl rfl rfl rfl rfl rfl
 refine nS ?_
 refine di hres rfl ?_ ?_ <;> clear hres <;> intro a0 hres <;> have a1 := a0 <;> try simp only [qa] at a1
 ·refine sR (mB rfl (nS ?_))
  exact rR hres rfl rfl rfl
 ·refine ay (ai (ah (sR (mI rfl (nS (bd ?_))))))
  refine wC (aa9 r0 a0 ?_  rfl (by omega) hres) rfl
  ·intro  hres
   refine fe (ai (sR (mB rfl (nS ?_))))
   exact rR hres rfl rfl rfl

def RF65 (res : Bool) (r : PV) : Prop := r = vb res
theorem wj {S : List Fr} {res : Bool} {x0 : cz} {v0 : PV} (r0 : cz.t.R x0 v0) (a5 : (((decide (8 < (x0.Params.length : Int))) || (decide (16 < (x0.Body.length : Int)))) || (decide (60 < (x0.Name.length : Int)))) = false) {K0 : Unit → Bool}
  (c7 : K0 () = res → PX Tryz.prog 0 S (QR Tryz.prog [(2, none)] (RF65 res)) [] ⟨0, []⟩) :
  ∀ {m : Nat} {a0 : Int} (b8 : m = Int.toNat ((x0.Body.length : Int) - a0)) (a8 : 0 ≤ a0), ld x0 K0 m a0 = res → RC Tryz.prog (.loop df0) S (QR Tryz.prog [(2, none)] (RF65 res)) [(3, vi a0), (1, .fp v0)] ⟨0, []⟩ := by
 have a1 := a5
 try simp only [qa] at a1
 intro m
 induction m with
 | zero =>
  intro a0 b8 a8 hres
  rw [ld] at hres
  refine bt (ah (sR (mV rfl (gL (cz.g_Body r0) rfl rfl rfl fun c6 b6 => (ab (cw rfl (cf b6 Tryz.underlying118 _)) (bN cy rfl rfl (nS ?_)))))))
  refine bc rfl ?_ ?_ <;> intro c <;> try simp only [qa] at c
  ·omega
  refine dm (fb (df ?_))
  exact wP (c7  hres) rfl
 | succ m ih =>
  intro a0 b8 a8 hres
  rw [ld] at hres
  refine bt (ah (sR (mV rfl (gL (cz.g_Body r0) rfl rfl rfl fun c0 a6 => (ab (cw rfl (cf a6 Tryz.underlying118 _)) (bN cy rfl rfl (nS ?_)))))))
  refine bc rfl ?_ ?_ <;> intro c <;> try simp only [qa] at c
  rotate_left
  ·omega
  refine ay (ai (ah (bd (sR (gL (cz.g_Body r0) rfl rfl rfl fun c4 a9 => (mV rfl ?_))))))
  obtain ⟨c5, b0, b7⟩ := dl (i := a0) a9 (by first | omega | (have hk := bn (by assumption) (by assumption); omega) | (have hk := tck (by assumption) (by assumption); omega) | (have hk := rtck (by assumption) (by assumption); omega) | (have hk := eck (by assumption) (by assumption) (by assumption); omega) | (have hk := tv (by assumption) (by assumption); omega) | (have hk := rtv (by assumption) (by assumption); omega)) (by first | omega | (have hk := bn (by assumption) (by assumption); omega) | (have hk := tck (by assumption) (by assumption); omega) | (have hk := rtck (by assumption) (by assumption); omega) | (have hk := eck (by assumption) (by assumption) (by assumption); omega) | (have hk := tv (by assumption) (by assumption); omega) | (have hk := rtv (by assumption) (by assumption); omega))
  refine ab (bq rfl rfl b0) (gL (dn.g_Index b7) rfl rfl rfl fun c1 b5 => (ab (cw rfl (cf b5 Tryz.underlying163 _)) (bN ij rfl rfl (mV rfl ?_))))
  refine cn 9 (d := 44) (v := vb ((decide (40 < (((ix x0.Body a0).Index).length : Int))) || (decide (40 < (((ix x0.Body a0).Value).length : Int))))) ?_ ?_
  ·intro S Q r
   cases a7 : (decide (40 < (((ix x0.Body a0).Index).length : Int)))
   ·intro k
    have a4 := a7
    try simp only [qa] at a4
    obtain ⟨c8, b4, a2⟩ := cz.g_Body r0
    refine am rfl rfl (bz rfl b4) (am rfl rfl (br rfl (TR.cnt (tSl dn.t) a2) (TR.agg (tSl dn.t) a2)) (am rfl rfl (au rfl) ?_))
    obtain ⟨c3, b1, b2⟩ := dl (i := a0) a2 (by first | omega | (have hk := bn (by assumption) (by assumption); omega) | (have hk := tck (by assumption) (by assumption); omega) | (have hk := rtck (by assumption) (by assumption); omega) | (have hk := eck (by assumption) (by assumption) (by assumption); omega) | (have hk := tv (by assumption) (by assumption); omega) | (have hk := rtv (by assumption) (by assumption); omega)) (by first | omega | (have hk := bn (by assumption) (by assumption); omega) | (have hk := tck (by assumption) (by assumption); omega) | (have hk := rtck (by assumption) (by assumption); omega) | (have hk := eck (by assumption) (by assumption) (by assumption); omega) | (have hk := tv (by assumption) (by assumption); omega) | (have hk := rtv (by assumption) (by assumption); omega))
    refine am rfl rfl (bq rfl rfl b1) ?_
    obtain ⟨b9, b3, a3⟩ := dn.g_Value b2
    refine am rfl rfl (bz rfl b3) (am rfl rfl (br rfl (TR.cnt (tSl en.t) a3) (TR.agg (tSl en.t) a3)) (am rfl rfl (cw rfl (cf a3 Tryz.underlying163 _)) (am rfl rfl (ba rfl rfl ij) ?_)))
    exact gK rfl rfl rfl rfl rfl k
   ·exact gN 8 rfl rfl rfl rfl rfl rfl
  refine nS ?_
  refine di hres rfl ?_ ?_ <;> clear hres <;> intro c hres <;> try simp only [qa] at c
  ·refine sR (mB rfl (nS ?_))
   exact rR hres rfl rfl rfl
  ·refine ay (dj (ai (af (mV rfl (bN ep rfl rfl (mV rfl (aw (cx ?_))))))))
   have hbd := dv a6
   have hinc : wr (a0 + 1) = a0 + 1 := du (by omega) (by omega)
   erw [hinc]
   exact wC (ih   (by omega) (by omega) hres) rfl

theorem dj9 {x0 : cz} {v0 : PV} (r0 : cz.t.R x0 v0) : FnR Tryz.prog 65 [v0] (vb (rz x0)) := by
 refine fnS (R := RF65) dy0 (fun _ h => h) rfl fun res hres => ?_
 unfold rz at hres
 refine sR (ab (dt rfl (TR.cnt cz.t r0)) (mB rfl (nS (ah (sR ?_)))))
 obtain ⟨b0, a9, a7⟩ := cz.g_Params r0
 refine fA rfl a9 (lD a7 rfl rfl rfl (ab (cw rfl (cf a7 Tryz.underlying23 _)) (bN ij rfl rfl (mV rfl ?_))))
 refine cn 5 (d := 13) (v := vb ((decide (8 < (x0.Params.length : Int))) || (decide (16 < (x0.Body.length : Int))))) ?_ ?_
 ·intro S Q r
  cases a5 : (decide (8 < (x0.Params.length : Int)))
  ·intro k
   have a3 := a5
   try simp only [qa] at a3
   obtain ⟨b1, a8, a2⟩ := cz.g_Body r0
   refine am rfl rfl (bz rfl a8) (am rfl rfl (br rfl (TR.cnt (tSl dn.t) a2) (TR.agg (tSl dn.t) a2)) (am rfl rfl (cw rfl (cf a2 Tryz.underlying118 _)) (am rfl rfl (ba rfl rfl ij) ?_)))
   exact gK rfl rfl rfl rfl rfl k
  ·exact gN 4 rfl rfl rfl rfl rfl rfl
 refine mV rfl ?_
 refine cn 5 (d := 19) (v := vb (((decide (8 < (x0.Params.length : Int))) || (decide (16 < (x0.Body.length : Int)))) || (decide (60 < (x0.Name.length : Int))))) ?_ ?_
 ·intro S Q r
  cases a6 : ((decide (8 < (x0.Params.length : Int))) || (decide (16 < (x0.Body.length : Int))))
  ·intro k
   have a4 := a6
   try simp only [qa] at a4
   refine am rfl rfl (bz rfl (cz.g_Name r0)) (am rfl rfl (br rfl rfl rfl) (am rfl rfl (cw rfl (pp Tryz.underlying9)) (am rfl rfl (ba rfl rfl ij) ?_)))
   exact gK rfl rfl rfl rfl rfl k
  ·exact gN 4 rfl rfl rfl rfl rfl rfl
 refine nS ?_
 refine di hres rfl ?_ ?_ <;> clear hres <;> intro a0 hres <;> have a1 := a0 <;> try simp only [qa] at a1
 ·refine sR (mB rfl (nS ?_))
  exact rR hres rfl rfl rfl
 ·refine ay (ai (ah (sR (mI rfl (nS (bd ?_))))))
  refine wC (wj r0 a0 ?_  rfl (by omega) hres) rfl
  ·intro  hres
   refine fe (ai (sR (mB rfl (nS ?_))))
   exact rR hres rfl rfl rfl

def RF66 (res : Bool) (r : PV) : Prop := r = vb res
theorem dp1 {x0 : ct} {v0 : PV} (r0 : ct.t.R x0 v0) : FnR Tryz.prog 66 [v0] (vb (sw x0)) := by
 refine fnS (R := RF66) dn8 (fun _ h => h) rfl fun res hres => ?_
 unfold sw at hres
 refine sR (ab (dt rfl (TR.cnt ct.t r0)) (mB rfl (nR (gL (ct.g_Extract r0) rfl rfl rfl fun a7 a6 => (ab (cw rfl (cf a6 Tryz.underlying29 _)) (bN ij rfl rfl (mV rfl ?_)))))))
 refine cn 5 (d := 12) (v := vb ((decide (8 < (x0.Extract.length : Int))) || (decide (12 < (x0.Cases.length : Int))))) ?_ ?_
 ·intro S Q r
  cases a3 : (decide (8 < (x0.Extract.length : Int)))
  ·intro k
   have a1 := a3
   try simp only [qa] at a1
   obtain ⟨a8, a5, a0⟩ := ct.g_Cases r0
   refine am rfl rfl (bz rfl a5) (am rfl rfl (br rfl (TR.cnt (tSl fg.t) a0) (TR.agg (tSl fg.t) a0)) (am rfl rfl (cw rfl (cf a0 Tryz.underlying122 _)) (am rfl rfl (ba rfl rfl ij) ?_)))
   exact gK rfl rfl rfl rfl rfl k
  ·exact gN 4 rfl rfl rfl rfl rfl rfl
 refine mV rfl ?_
 refine cn 5 (d := 18) (v := vb (((decide (8 < (x0.Extract.length : Int))) || (decide (12 < (x0.Cases.length : Int)))) || (decide (60 < (x0.Name.length : Int))))) ?_ ?_
 ·intro S Q r
  cases a4 : ((decide (8 < (x0.Extract.length : Int))) || (decide (12 < (x0.Cases.length : Int))))
  ·intro k
   have a2 := a4
   try simp only [qa] at a2
   refine am rfl rfl (bz rfl (ct.g_Name r0)) (am rfl rfl (br rfl rfl rfl) (am rfl rfl (cw rfl (pp Tryz.underlying9)) (am rfl rfl (ba rfl rfl ij) ?_)))
   exact gK rfl rfl rfl rfl rfl k
  ·exact gN 4 rfl rfl rfl rfl rfl rfl
 refine mV rfl (nS ?_)
 exact rR hres rfl rfl rfl

def RF27 (res : Bool) (r : PV) : Prop := r = vb res
theorem xz {S : List Fr} {res : Bool} {x0 : aa} {v0 : PV} (r0 : aa.t.R x0 v0) (a5 : (((((((((decide (60 < (x0.Name.length : Int))) || (decide (16 < (x0.Headers.length : Int)))) || (decide (20 < (x0.Metadata.length : Int)))) || (decide (8 < (x0.Registers.length : Int)))) || (decide (24 < (x0.Actions.length : Int)))) || (decide (16 < (x0.Tables.length : Int)))) || (decide (16 < (x0.States.length : Int)))) || (decide (16 < (x0.Deparser.length : Int)))) || (decide (60 < (pw x0.Control 10)))) = false) {K0 : Unit → Bool}
  (b5 : K0 () = res → PX Tryz.prog 0 S (QR Tryz.prog [(2, none)] (RF27 res)) [(1, .fp v0)] ⟨0, []⟩) :
  ∀ {m : Nat} {a0 : Int} (b1 : m = Int.toNat ((x0.Headers.length : Int) - a0)) (a4 : 0 ≤ a0), nj x0 K0 m a0 = res → RC Tryz.prog (.loop df2) S (QR Tryz.prog [(2, none)] (RF27 res)) [(3, vi a0), (1, .fp v0)] ⟨0, []⟩ := by
 have a1 := a5
 try simp only [qa] at a1
 intro m
 induction m with
 | zero =>
  intro a0 b1 a4 hres
  rw [nj] at hres
  refine bt (ah (sR (mV rfl (gL (aa.g_Headers r0) rfl rfl rfl fun b2 b0 => (ab (cw rfl (cf b0 Tryz.underlying22 _)) (bN cy rfl rfl (nS ?_)))))))
  refine bc rfl ?_ ?_ <;> intro c <;> try simp only [qa] at c
  ·omega
  refine dm (fb (df ?_))
  exact wP (b5  hres) rfl
 | succ m ih =>
  intro a0 b1 a4 hres
  rw [nj] at hres
  refine bt (ah (sR (mV rfl (gL (aa.g_Headers r0) rfl rfl rfl fun b6 a7 => (ab (cw rfl (cf a7 Tryz.underlying22 _)) (bN cy rfl rfl (nS ?_)))))))
  refine bc rfl ?_ ?_ <;> intro c <;> try simp only [qa] at c
  rotate_left
  ·omega
  refine ay (ai (ah (bd (sR (gL (aa.g_Headers r0) rfl rfl rfl fun b4 a9 => (mV rfl ?_))))))
  obtain ⟨b3, a8, a2⟩ := dl (i := a0) a9 (by first | omega | (have hk := bn (by assumption) (by assumption); omega) | (have hk := tck (by assumption) (by assumption); omega) | (have hk := rtck (by assumption) (by assumption); omega) | (have hk := eck (by assumption) (by assumption) (by assumption); omega) | (have hk := tv (by assumption) (by assumption); omega) | (have hk := rtv (by assumption) (by assumption); omega)) (by first | omega | (have hk := bn (by assumption) (by assumption); omega) | (have hk := tck (by assumption) (by assumption); omega) | (have hk := rtck (by assumption) (by assumption); omega) | (have hk := eck (by assumption) (by assumption) (by assumption); omega) | (have hk := tv (by assumption) (by assumption); omega) | (have hk := rtv (by assumption) (by assumption); omega))
  refine ab (bq rfl rfl a8) (lD a2 rfl rfl rfl ?_)
  obtain ⟨b7, a6, hres⟩ := dq hres
  have a3 := dw5  a2 
  rw [a6] at a3
  refine cL a3 rfl rfl (aq (TR.clo cv.t a2) bg) (ab (io rfl) (nS ?_))
  refine di hres rfl ?_ ?_ <;> clear hres <;> intro c hres <;> try simp only [qa] at c
  ·refine sR (mB rfl (nS ?_))
   exact rR hres rfl rfl rfl
  ·refine ay (dj (ai (af (mV rfl (bN ep rfl rfl (mV rfl (aw (cx ?_))))))))
   have hbd := dv a7
   have hinc : wr (a0 + 1) = a0 + 1 := du (by omega) (by omega)
   erw [hinc]
   exact wC (ih   (by omega) (by omega) hres) rfl

theorem yo {S : List Fr} {res : Bool} {x0 : aa} {v0 : PV} (r0 : aa.t.R x0 v0) (a4 : (((((((((decide (60 < (x0.Name.length : Int))) || (decide (16 < (x0.Headers.length : Int)))) || (decide (20 < (x0.Metadata.length : Int)))) || (decide (8 < (x0.Registers.length : Int)))) || (decide (24 < (x0.Actions.length : Int)))) || (decide (16 < (x0.Tables.length : Int)))) || (decide (16 < (x0.States.length : Int)))) || (decide (16 < (x0.Deparser.length : Int)))) || (decide (60 < (pw x0.Control 10)))) = false) {K2 : Unit → Bool}
  (b4 : K2 () = res → PX Tryz.prog 2 S (QR Tryz.prog [(2, none)] (RF27 res)) [(1, .fp v0)] ⟨0, []⟩) :
  ∀ {m : Nat} {a0 : Int} (b1 : m = Int.toNat ((x0.Actions.length : Int) - a0)) (a5 : 0 ≤ a0), nh x0 K2 m a0 = res → RC Tryz.prog (.loop cx5) S (QR Tryz.prog [(2, none)] (RF27 res)) [(4, vi a0), (1, .fp v0)] ⟨0, []⟩ := by
 have a1 := a4
 try simp only [qa] at a1
 intro m
 induction m with
 | zero =>
  intro a0 b1 a5 hres
  rw [nh] at hres
  refine bt (ah (sR (mV rfl (gL (aa.g_Actions r0) rfl rfl rfl fun b6 a9 => (ab (cw rfl (cf a9 Tryz.underlying25 _)) (bN cy rfl rfl (nS ?_)))))))
  refine bc rfl ?_ ?_ <;> intro c <;> try simp only [qa] at c
  ·omega
  refine dm (fb (df ?_))
  exact wP (b4  hres) rfl
 | succ m ih =>
  intro a0 b1 a5 hres
  rw [nh] at hres
  refine bt (ah (sR (mV rfl (gL (aa.g_Actions r0) rfl rfl rfl fun b7 a6 => (ab (cw rfl (cf a6 Tryz.underlying25 _)) (bN cy rfl rfl (nS ?_)))))))
  refine bc rfl ?_ ?_ <;> intro c <;> try simp only [qa] at c
  rotate_left
  ·omega
  refine ay (ai (ah (bd (sR (gL (aa.g_Actions r0) rfl rfl rfl fun b2 b0 => (mV rfl ?_))))))
  obtain ⟨b5, a8, a2⟩ := dl (i := a0) b0 (by first | omega | (have hk := bn (by assumption) (by assumption); omega) | (have hk := tck (by assumption) (by assumption); omega) | (have hk := rtck (by assumption) (by assumption); omega) | (have hk := eck (by assumption) (by assumption) (by assumption); omega) | (have hk := tv (by assumption) (by assumption); omega) | (have hk := rtv (by assumption) (by assumption); omega)) (by first | omega | (have hk := bn (by assumption) (by assumption); omega) | (have hk := tck (by assumption) (by assumption); omega) | (have hk := rtck (by assumption) (by assumption); omega) | (have hk := eck (by assumption) (by assumption) (by assumption); omega) | (have hk := tv (by assumption) (by assumption); omega) | (have hk := rtv (by assumption) (by assumption); omega))
  refine ab (bq rfl rfl a8) (lD a2 rfl rfl rfl ?_)
  obtain ⟨b3, a7, hres⟩ := dq hres
  have a3 := dj9  a2 
  rw [a7] at a3
  refine cL a3 rfl rfl (aq (TR.clo cz.t a2) bg) (nS ?_)
  refine di hres rfl ?_ ?_ <;> clear hres <;> intro c hres <;> try simp only [qa] at c
  ·refine sR (mB rfl (nS ?_))
   exact rR hres rfl rfl rfl
  ·refine ay (dj (ai (af (mV rfl (bN ep rfl rfl (mV rfl (aw (cx ?_))))))))
   have hbd := dv a6
   have hinc : wr (a0 + 1) = a0 + 1 := du (by omega) (by omega)
   erw [hinc]
   exact wC (ih   (by omega) (by omega) hres) rfl

theorem xy {S : List Fr} {res : Bool} {x0 : aa} {v0 : PV} (r0 : aa.t.R x0 v0) (b2 : (((((((((decide (60 < (x0.Name.length : Int))) || (decide (16 < (x0.Headers.length : Int)))) || (decide (20 < (x0.Metadata.length : Int)))) || (decide (8 < (x0.Registers.length : Int)))) || (decide (24 < (x0.Actions.length : Int)))) || (decide (16 < (x0.Tables.length : Int)))) || (decide (16 < (x0.States.length : Int)))) || (decide (16 < (x0.Deparser.length : Int)))) || (decide (60 < (pw x0.Control 10)))) = false) {K4 : Unit → Bool}
  (e3 : K4 () = res → PX Tryz.prog 4 S (QR Tryz.prog [(2, none)] (RF27 res)) [(1, .fp v0)] ⟨0, []⟩) :
  ∀ {m : Nat} {a0 : Int} (d5 : m = Int.toNat ((x0.Tables.length : Int) - a0)) (b3 : 0 ≤ a0), nf x0 K4 m a0 = res → RC Tryz.prog (.loop ct2) S (QR Tryz.prog [(2, none)] (RF27 res)) [(5, vi a0), (1, .fp v0)] ⟨0, []⟩ := by
 have a4 := b2
 try simp only [qa] at a4
 intro m
 induction m with
 | zero =>
  intro a0 d5 b3 hres
  rw [nf] at hres
  refine bt (ah (sR (mV rfl (gL (aa.g_Tables r0) rfl rfl rfl fun e9 c3 => (ab (cw rfl (cf c3 Tryz.underlying26 _)) (bN cy rfl rfl (nS ?_)))))))
  refine bc rfl ?_ ?_ <;> intro c <;> try simp only [qa] at c
  ·omega
  refine dm (fb (df ?_))
  exact wP (e3  hres) rfl
 | succ m ih =>
  intro a0 d5 b3 hres
  rw [nf] at hres
  refine bt (ah (sR (mV rfl (gL (aa.g_Tables r0) rfl rfl rfl fun d9 b0 => (ab (cw rfl (cf b0 Tryz.underlying26 _)) (bN cy rfl rfl (nS ?_)))))))
  refine bc rfl ?_ ?_ <;> intro c <;> try simp only [qa] at c
  rotate_left
  ·omega
  refine ay (ai (ah (bd (sR (gL (aa.g_Tables r0) rfl rfl rfl fun e5 d0 => (mV rfl ?_))))))
  obtain ⟨f0, c5, c9⟩ := dl (i := a0) d0 (by first | omega | (have hk := bn (by assumption) (by assumption); omega) | (have hk := tck (by assumption) (by assumption); omega) | (have hk := rtck (by assumption) (by assumption); omega) | (have hk := eck (by assumption) (by assumption) (by assumption); omega) | (have hk := tv (by assumption) (by assumption); omega) | (have hk := rtv (by assumption) (by assumption); omega)) (by first | omega | (have hk := bn (by assumption) (by assumption); omega) | (have hk := tck (by assumption) (by assumption); omega) | (have hk := rtck (by assumption) (by assumption); omega) | (have hk := eck (by assumption) (by assumption) (by assumption); omega) | (have hk := tv (by assumption) (by assumption); omega) | (have hk := rtv (by assumption) (by assumption); omega))
  refine ab (bq rfl rfl c5) (gL (az.g_Keys c9) rfl rfl rfl fun d8 c7 => (ab (cw rfl (cf c7 Tryz.underlying85 _)) (bN ij rfl rfl (mV rfl ?_))))
  refine cn 9 (d := 110) (v := vb ((decide (10 < (((ix x0.Tables a0).Keys).length : Int))) || (decide (24 < (((ix x0.Tables a0).Actions).length : Int))))) ?_ ?_
  ·intro S Q r
   cases b1 : (decide (10 < (((ix x0.Tables a0).Keys).length : Int)))
   ·intro k
    have a3 := b1
    try simp only [qa] at a3
    obtain ⟨e1, b8, a7⟩ := aa.g_Tables r0
    refine am rfl rfl (bz rfl b8) (am rfl rfl (br rfl (TR.cnt (tSl az.t) a7) (TR.agg (tSl az.t) a7)) (am rfl rfl (au rfl) ?_))
    obtain ⟨e2, d4, d3⟩ := dl (i := a0) a7 (by first | omega | (have hk := bn (by assumption) (by assumption); omega) | (have hk := tck (by assumption) (by assumption); omega) | (have hk := rtck (by assumption) (by assumption); omega) | (have hk := eck (by assumption) (by assumption) (by assumption); omega) | (have hk := tv (by assumption) (by assumption); omega) | (have hk := rtv (by assumption) (by assumption); omega)) (by first | omega | (have hk := bn (by assumption) (by assumption); omega) | (have hk := tck (by assumption) (by assumption); omega) | (have hk := rtck (by assumption) (by assumption); omega) | (have hk := eck (by assumption) (by assumption) (by assumption); omega) | (have hk := tv (by assumption) (by assumption); omega) | (have hk := rtv (by assumption) (by assumption); omega))
    refine am rfl rfl (bq rfl rfl d4) ?_
    obtain ⟨e0, b6, a9⟩ := az.g_Actions d3
    refine am rfl rfl (bz rfl b6) (am rfl rfl (br rfl (TR.cnt (tSl tI) a9) (TR.agg (tSl tI) a9)) (am rfl rfl (cw rfl (cf a9 Tryz.underlying29 _)) (am rfl rfl (ba rfl rfl ij) ?_)))
    exact gK rfl rfl rfl rfl rfl k
   ·exact gN 8 rfl rfl rfl rfl rfl rfl
  refine mV rfl ?_
  refine cn 10 (d := 121) (v := vb (((decide (10 < (((ix x0.Tables a0).Keys).length : Int))) || (decide (24 < (((ix x0.Tables a0).Actions).length : Int)))) || (decide (8 < ((((ix x0.Tables a0).Default).Args).length : Int))))) ?_ ?_
  ·intro S Q r
   cases b5 : ((decide (10 < (((ix x0.Tables a0).Keys).length : Int))) || (decide (24 < (((ix x0.Tables a0).Actions).length : Int))))
   ·intro k
    have a2 := b5
    try simp only [qa] at a2
    obtain ⟨e8, d1, a5⟩ := aa.g_Tables r0
    refine am rfl rfl (bz rfl d1) (am rfl rfl (br rfl (TR.cnt (tSl az.t) a5) (TR.agg (tSl az.t) a5)) (am rfl rfl (au rfl) ?_))
    obtain ⟨d7, b7, c6⟩ := dl (i := a0) a5 (by first | omega | (have hk := bn (by assumption) (by assumption); omega) | (have hk := tck (by assumption) (by assumption); omega) | (have hk := rtck (by assumption) (by assumption); omega) | (have hk := eck (by assumption) (by assumption) (by assumption); omega) | (have hk := tv (by assumption) (by assumption); omega) | (have hk := rtv (by assumption) (by assumption); omega)) (by first | omega | (have hk := bn (by assumption) (by assumption); omega) | (have hk := tck (by assumption) (by assumption); omega) | (have hk := rtck (by assumption) (by assumption); omega) | (have hk := eck (by assumption) (by assumption) (by assumption); omega) | (have hk := tv (by assumption) (by assumption); omega) | (have hk := rtv (by assumption) (by assumption); omega))
    refine am rfl rfl (bq rfl rfl b7) ?_
    obtain ⟨e7, c4, c8⟩ := az.g_Default c6
    refine am rfl rfl (bz rfl c4) ?_
    obtain ⟨e6, d2, a1⟩ := ax.g_Args c8
    refine am rfl rfl (bz rfl d2) (am rfl rfl (br rfl (TR.cnt (tSl lr) a1) (TR.agg (tSl lr) a1)) (am rfl rfl (cw rfl (cf a1 Tryz.underlying33 _)) (am rfl rfl (ba rfl rfl ij) ?_)))
    exact gK rfl rfl rfl rfl rfl k
   ·exact gN 9 rfl rfl rfl rfl rfl rfl
  refine mV rfl ?_
  refine cn 9 (d := 131) (v := vb ((((decide (10 < (((ix x0.Tables a0).Keys).length : Int))) || (decide (24 < (((ix x0.Tables a0).Actions).length : Int)))) || (decide (8 < ((((ix x0.Tables a0).Default).Args).length : Int)))) || (decide (60 < (((ix x0.Tables a0).Name).length : Int))))) ?_ ?_
  ·intro S Q r
   cases b4 : (((decide (10 < (((ix x0.Tables a0).Keys).length : Int))) || (decide (24 < (((ix x0.Tables a0).Actions).length : Int)))) || (decide (8 < ((((ix x0.Tables a0).Default).Args).length : Int))))
   ·intro k
    have a8 := b4
    try simp only [qa] at a8
    obtain ⟨e4, c0, a6⟩ := aa.g_Tables r0
    refine am rfl rfl (bz rfl c0) (am rfl rfl (br rfl (TR.cnt (tSl az.t) a6) (TR.agg (tSl az.t) a6)) (am rfl rfl (au rfl) ?_))
    obtain ⟨d6, b9, c1⟩ := dl (i := a0) a6 (by first | omega | (have hk := bn (by assumption) (by assumption); omega) | (have hk := tck (by assumption) (by assumption); omega) | (have hk := rtck (by assumption) (by assumption); omega) | (have hk := eck (by assumption) (by assumption) (by assumption); omega) | (have hk := tv (by assumption) (by assumption); omega) | (have hk := rtv (by assumption) (by assumption); omega)) (by first | omega | (have hk := bn (by assumption) (by assumption); omega) | (have hk := tck (by assumption) (by assumption); omega) | (have hk := rtck (by assumption) (by assumption); omega) | (have hk := eck (by assumption) (by assumption) (by assumption); omega) | (have hk := tv (by assumption) (by assumption); omega) | (have hk := rtv (by assumption) (by assumption); omega))
    refine am rfl rfl (bq rfl rfl b9) (am rfl rfl (bz rfl (az.g_Name c1)) (am rfl rfl (br rfl rfl rfl) (am rfl rfl (cw rfl (pp Tryz.underlying9)) (am rfl rfl (ba rfl rfl ij) ?_))))
    exact gK rfl rfl rfl rfl rfl k
   ·exact gN 8 rfl rfl rfl rfl rfl rfl
  refine nS ?_
  refine di hres rfl ?_ ?_ <;> clear hres <;> intro c hres <;> try simp only [qa] at c
  ·refine sR (mB rfl (nS ?_))
   exact rR hres rfl rfl rfl
  ·refine ay (dj (ai (af (mV rfl (bN ep rfl rfl (mV rfl (aw (cx ?_))))))))
   have hbd := dv b0
   have hinc : wr (a0 + 1) = a0 + 1 := du (by omega) (by omega)
   erw [hinc]
   exact wC (ih   (by omega) (by omega) hres) rfl

theorem yb {S : List Fr} {res : Bool} {x0 : aa} {v0 : PV} (r0 : aa.t.R x0 v0) (a5 : (((((((((decide (60 < (x0.Name.length : Int))) || (decide (16 < (x0.Headers.length : Int)))) || (decide (20 < (x0.Metadata.length : Int)))) || (decide (8 < (x0.Registers.length : Int)))) || (decide (24 < (x0.Actions.length : Int)))) || (decide (16 < (x0.Tables.length : Int)))) || (decide (16 < (x0.States.length : Int)))) || (decide (16 < (x0.Deparser.length : Int)))) || (decide (60 < (pw x0.Control 10)))) = false) {K6 : Unit → Bool}
  (b2 : K6 () = res → PX Tryz.prog 6 S (QR Tryz.prog [(2, none)] (RF27 res)) [] ⟨0, []⟩) :
  ∀ {m : Nat} {a0 : Int} (b1 : m = Int.toNat ((x0.States.length : Int) - a0)) (a4 : 0 ≤ a0), ni x0 K6 m a0 = res → RC Tryz.prog (.loop dd0) S (QR Tryz.prog [(2, none)] (RF27 res)) [(6, vi a0), (1, .fp v0)] ⟨0, []⟩ := by
 have a1 := a5
 try simp only [qa] at a1
 intro m
 induction m with
 | zero =>
  intro a0 b1 a4 hres
  rw [ni] at hres
  refine bt (ah (sR (mV rfl (gL (aa.g_States r0) rfl rfl rfl fun b5 a8 => (ab (cw rfl (cf a8 Tryz.underlying27 _)) (bN cy rfl rfl (nS ?_)))))))
  refine bc rfl ?_ ?_ <;> intro c <;> try simp only [qa] at c
  ·omega
  refine dm (fb (df ?_))
  exact wP (b2  hres) rfl
 | succ m ih =>
  intro a0 b1 a4 hres
  rw [ni] at hres
  refine bt (ah (sR (mV rfl (gL (aa.g_States r0) rfl rfl rfl fun b6 a3 => (ab (cw rfl (cf a3 Tryz.underlying27 _)) (bN cy rfl rfl (nS ?_)))))))
  refine bc rfl ?_ ?_ <;> intro c <;> try simp only [qa] at c
  rotate_left
  ·omega
  refine ay (ai (ah (bd (sR (gL (aa.g_States r0) rfl rfl rfl fun b4 a9 => (mV rfl ?_))))))
  obtain ⟨b3, b0, a2⟩ := dl (i := a0) a9 (by first | omega | (have hk := bn (by assumption) (by assumption); omega) | (have hk := tck (by assumption) (by assumption); omega) | (have hk := rtck (by assumption) (by assumption); omega) | (have hk := eck (by assumption) (by assumption) (by assumption); omega) | (have hk := tv (by assumption) (by assumption); omega) | (have hk := rtv (by assumption) (by assumption); omega)) (by first | omega | (have hk := bn (by assumption) (by assumption); omega) | (have hk := tck (by assumption) (by assumption); omega) | (have hk := rtck (by assumption) (by assumption); omega) | (have hk := eck (by assumption) (by assumption) (by assumption); omega) | (have hk := tv (by assumption) (by assumption); omega) | (have hk := rtv (by assumption) (by assumption); omega))
  refine ab (bq rfl rfl b0) (lD a2 rfl rfl rfl ?_)
  obtain ⟨b7, a7, hres⟩ := dq hres
  have a6 := dp1  a2 
  rw [a7] at a6
  refine cL a6 rfl rfl (aq (TR.clo ct.t a2) bg) (nS ?_)
  refine di hres rfl ?_ ?_ <;> clear hres <;> intro c hres <;> try simp only [qa] at c
  ·refine sR (mB rfl (nS ?_))
   exact rR hres rfl rfl rfl
  ·refine ay (dj (ai (af (mV rfl (bN ep rfl rfl (mV rfl (aw (cx ?_))))))))
   have hbd := dv a3
   have hinc : wr (a0 + 1) = a0 + 1 := du (by omega) (by omega)
   erw [hinc]
   exact wC (ih   (by omega) (by omega) hres) rfl

theorem dq4 {x0 : aa} {v0 : PV} (r0 : aa.t.R x0 v0) : FnR Tryz.prog 27 [v0] (vb (nz x0)) := by
 refine fnS (R := RF27) dm6 (fun _ h => h) rfl fun res hres => ?_
 unfold nz at hres
 refine sR (ab (dt rfl (TR.cnt aa.t r0)) (mB rfl (nS (ah (sR (fL rfl (aa.g_Name r0) rfl rfl (ab (cw rfl (pp Tryz.underlying9)) (bN ij rfl rfl ?_))))))))
 refine mV rfl ?_
 refine cn 5 (d := 16) (v := vb ((decide (60 < (x0.Name.length : Int))) || (decide (16 < (x0.Headers.length : Int))))) ?_ ?_
 ·intro S Q r
  cases b8 : (decide (60 < (x0.Name.length : Int)))
  ·intro k
   have b6 := b8
   try simp only [qa] at b6
   obtain ⟨e0, d2, a6⟩ := aa.g_Headers r0
   refine am rfl rfl (bz rfl d2) (am rfl rfl (br rfl (TR.cnt (tSl cv.t) a6) (TR.agg (tSl cv.t) a6)) (am rfl rfl (cw rfl (cf a6 Tryz.underlying22 _)) (am rfl rfl (ba rfl rfl ij) ?_)))
   exact gK rfl rfl rfl rfl rfl k
  ·exact gN 4 rfl rfl rfl rfl rfl rfl
 refine mV rfl ?_
 refine cn 5 (d := 22) (v := vb (((decide (60 < (x0.Name.length : Int))) || (decide (16 < (x0.Headers.length : Int)))) || (decide (20 < (x0.Metadata.length : Int))))) ?_ ?_
 ·intro S Q r
  cases c5 : ((decide (60 < (x0.Name.length : Int))) || (decide (16 < (x0.Headers.length : Int))))
  ·intro k
   have a3 := c5
   try simp only [qa] at a3
   obtain ⟨e2, d3, b4⟩ := aa.g_Metadata r0
   refine am rfl rfl (bz rfl d3) (am rfl rfl (br rfl (TR.cnt (tSl cd.t) b4) (TR.agg (tSl cd.t) b4)) (am rfl rfl (cw rfl (cf b4 Tryz.underlying23 _)) (am rfl rfl (ba rfl rfl ij) ?_)))
   exact gK rfl rfl rfl rfl rfl k
  ·exact gN 4 rfl rfl rfl rfl rfl rfl
 refine mV rfl ?_
 refine cn 5 (d := 28) (v := vb ((((decide (60 < (x0.Name.length : Int))) || (decide (16 < (x0.Headers.length : Int)))) || (decide (20 < (x0.Metadata.length : Int)))) || (decide (8 < (x0.Registers.length : Int))))) ?_ ?_
 ·intro S Q r
  cases c4 : (((decide (60 < (x0.Name.length : Int))) || (decide (16 < (x0.Headers.length : Int)))) || (decide (20 < (x0.Metadata.length : Int))))
  ·intro k
   have a9 := c4
   try simp only [qa] at a9
   obtain ⟨e1, d4, b1⟩ := aa.g_Registers r0
   refine am rfl rfl (bz rfl d4) (am rfl rfl (br rfl (TR.cnt (tSl fm.t) b1) (TR.agg (tSl fm.t) b1)) (am rfl rfl (cw rfl (cf b1 Tryz.underlying24 _)) (am rfl rfl (ba rfl rfl ij) ?_)))
   exact gK rfl rfl rfl rfl rfl k
  ·exact gN 4 rfl rfl rfl rfl rfl rfl
 refine mV rfl ?_
 refine cn 5 (d := 34) (v := vb (((((decide (60 < (x0.Name.length : Int))) || (decide (16 < (x0.Headers.length : Int)))) || (decide (20 < (x0.Metadata.length : Int)))) || (decide (8 < (x0.Registers.length : Int)))) || (decide (24 < (x0.Actions.length : Int))))) ?_ ?_
 ·intro S Q r
  cases c6 : ((((decide (60 < (x0.Name.length : Int))) || (decide (16 < (x0.Headers.length : Int)))) || (decide (20 < (x0.Metadata.length : Int)))) || (decide (8 < (x0.Registers.length : Int))))
  ·intro k
   have b7 := c6
   try simp only [qa] at b7
   obtain ⟨d7, c8, a5⟩ := aa.g_Actions r0
   refine am rfl rfl (bz rfl c8) (am rfl rfl (br rfl (TR.cnt (tSl cz.t) a5) (TR.agg (tSl cz.t) a5)) (am rfl rfl (cw rfl (cf a5 Tryz.underlying25 _)) (am rfl rfl (ba rfl rfl ij) ?_)))
   exact gK rfl rfl rfl rfl rfl k
  ·exact gN 4 rfl rfl rfl rfl rfl rfl
 refine mV rfl ?_
 refine cn 5 (d := 40) (v := vb ((((((decide (60 < (x0.Name.length : Int))) || (decide (16 < (x0.Headers.length : Int)))) || (decide (20 < (x0.Metadata.length : Int)))) || (decide (8 < (x0.Registers.length : Int)))) || (decide (24 < (x0.Actions.length : Int)))) || (decide (16 < (x0.Tables.length : Int))))) ?_ ?_
 ·intro S Q r
  cases c0 : (((((decide (60 < (x0.Name.length : Int))) || (decide (16 < (x0.Headers.length : Int)))) || (decide (20 < (x0.Metadata.length : Int)))) || (decide (8 < (x0.Registers.length : Int)))) || (decide (24 < (x0.Actions.length : Int))))
  ·intro k
   have b5 := c0
   try simp only [qa] at b5
   obtain ⟨d9, d5, a2⟩ := aa.g_Tables r0
   refine am rfl rfl (bz rfl d5) (am rfl rfl (br rfl (TR.cnt (tSl az.t) a2) (TR.agg (tSl az.t) a2)) (am rfl rfl (cw rfl (cf a2 Tryz.underlying26 _)) (am rfl rfl (ba rfl rfl ij) ?_)))
   exact gK rfl rfl rfl rfl rfl k
  ·exact gN 4 rfl rfl rfl rfl rfl rfl
 refine mV rfl ?_
 refine cn 5 (d := 46) (v := vb (((((((decide (60 < (x0.Name.length : Int))) || (decide (16 < (x0.Headers.length : Int)))) || (decide (20 < (x0.Metadata.length : Int)))) || (decide (8 < (x0.Registers.length : Int)))) || (decide (24 < (x0.Actions.length : Int)))) || (decide (16 < (x0.Tables.length : Int)))) || (decide (16 < (x0.States.length : Int))))) ?_ ?_
 ·intro S Q r
  cases c3 : ((((((decide (60 < (x0.Name.length : Int))) || (decide (16 < (x0.Headers.length : Int)))) || (decide (20 < (x0.Metadata.length : Int)))) || (decide (8 < (x0.Registers.length : Int)))) || (decide (24 < (x0.Actions.length : Int)))) || (decide (16 < (x0.Tables.length : Int))))
  ·intro k
   have a4 := c3
   try simp only [qa] at a4
   obtain ⟨d8, d1, b0⟩ := aa.g_States r0
   refine am rfl rfl (bz rfl d1) (am rfl rfl (br rfl (TR.cnt (tSl ct.t) b0) (TR.agg (tSl ct.t) b0)) (am rfl rfl (cw rfl (cf b0 Tryz.underlying27 _)) (am rfl rfl (ba rfl rfl ij) ?_)))
   exact gK rfl rfl rfl rfl rfl k
  ·exact gN 4 rfl rfl rfl rfl rfl rfl
 refine mV rfl ?_
 refine cn 5 (d := 52) (v := vb ((((((((decide (60 < (x0.Name.length : Int))) || (decide (16 < (x0.Headers.length : Int)))) || (decide (20 < (x0.Metadata.length : Int)))) || (decide (8 < (x0.Registers.length : Int)))) || (decide (24 < (x0.Actions.length : Int)))) || (decide (16 < (x0.Tables.length : Int)))) || (decide (16 < (x0.States.length : Int)))) || (decide (16 < (x0.Deparser.length : Int))))) ?_ ?_
 ·intro S Q r
  cases c1 : (((((((decide (60 < (x0.Name.length : Int))) || (decide (16 < (x0.Headers.length : Int)))) || (decide (20 < (x0.Metadata.length : Int)))) || (decide (8 < (x0.Registers.length : Int)))) || (decide (24 < (x0.Actions.length : Int)))) || (decide (16 < (x0.Tables.length : Int)))) || (decide (16 < (x0.States.length : Int))))
  ·intro k
   have b2 := c1
   try simp only [qa] at b2
   obtain ⟨e3, d0, a8⟩ := aa.g_Deparser r0
   refine am rfl rfl (bz rfl d0) (am rfl rfl (br rfl (TR.cnt (tSl tI) a8) (TR.agg (tSl tI) a8)) (am rfl rfl (cw rfl (cf a8 Tryz.underlying29 _)) (am rfl rfl (ba rfl rfl ij) ?_)))
   exact gK rfl rfl rfl rfl rfl k
  ·exact gN 4 rfl rfl rfl rfl rfl rfl
 refine mV rfl ?_
 refine cn 5 (d := 58) (v := vb (((((((((decide (60 < (x0.Name.length : Int))) || (decide (16 < (x0.Headers.length : Int)))) || (decide (20 < (x0.Metadata.length : Int)))) || (decide (8 < (x0.Registers.length : Int)))) || (decide (24 < (x0.Actions.length : Int)))) || (decide (16 < (x0.Tables.length : Int)))) || (decide (16 < (x0.States.length : Int)))) || (decide (16 < (x0.Deparser.length : Int)))) || (decide (60 < (pw x0.Control 10))))) ?_ ?_
 ·intro S Q r
  cases b9 : ((((((((decide (60 < (x0.Name.length : Int))) || (decide (16 < (x0.Headers.length : Int)))) || (decide (20 < (x0.Metadata.length : Int)))) || (decide (8 < (x0.Registers.length : Int)))) || (decide (24 < (x0.Actions.length : Int)))) || (decide (16 < (x0.Tables.length : Int)))) || (decide (16 < (x0.States.length : Int)))) || (decide (16 < (x0.Deparser.length : Int))))
  ·intro k
   have b3 := b9
   try simp only [qa] at b3
   obtain ⟨d6, c9, a1⟩ := aa.g_Control r0
   refine am rfl rfl (bz rfl c9) (am rfl rfl (br rfl (TR.cnt (tSl aj.t) a1) (TR.agg (tSl aj.t) a1)) ?_)
   have c7 := dt1 (x1 := 10) a1 (by first | assumption | omega | (have := rv (by assumption) (by assumption); omega) | (rw [du (by omega) (by omega)]; omega) | (simp only [List.length_cons, List.length_nil]; omega)) (by first | assumption | omega | (have := rv (by assumption) (by assumption); omega) | (rw [du (by omega) (by omega)]; omega) | (simp only [List.length_cons, List.length_nil]; omega))
   refine kp rfl rfl (sj rfl rfl (aq (TR.clo (tSl aj.t) a1) (aq rfl bg)) c7) (am rfl rfl (ba rfl rfl ij) ?_)
   exact gK rfl rfl rfl rfl rfl k
  ·exact gN 4 rfl rfl rfl rfl rfl rfl
 refine nS ?_
 refine di hres rfl ?_ ?_ <;> clear hres <;> intro a0 hres <;> have a7 := a0 <;> try simp only [qa] at a7
 ·refine sR (mB rfl (nS ?_))
  exact rR hres rfl rfl rfl
 ·refine ay (ai (ah (sR (mI rfl (nS (bd ?_))))))
  refine wC (xz r0 a0 ?_  rfl (by omega) hres) rfl
  ·intro  hres
   refine fe (ai (ah (sR (mI rfl (nS (bd ?_))))))
   refine wC (yo r0 a0 ?_  rfl (by omega) hres) rfl
   ·intro  hres
    refine fe (ai (ah (sR (mI rfl (nS (bd ?_))))))
    refine wC (xy r0 a0 ?_  rfl (by omega) hres) rfl
    ·intro  hres
     refine fe (ai (ah (sR (mI rfl (nS (bd ?_))))))
     refine wC (yb r0 a0 ?_  rfl (by omega) hres) rfl
     ·intro  hres
      refine fe (ai (sR (mB rfl (nS ?_))))
      exact rR hres rfl rfl rfl

end Go.Proofs.YthdnpgpnodgicaaGreat
