/-
 The code of each function does what its plain program says.
-/
import Derived.Test.YthdnpgpnodgicaaGreatKDef
import Derived.Test.YthdnpgpnodgicaaGreatL8Text
import Derived.Test.YthdnpgpnodgicaaGreatPbV
import Derived.Test.YthdnpgpnodgicaaGreatPbV
import Derived.Test.YthdnpgpnodgicaaGreatKFmFnFoOr
import Derived.Test.YthdnpgpnodgicaaGreatKFzSp
import Derived.Test.YthdnpgpnodgicaaGreatKFzSp
import Derived.Test.YthdnpgpnodgicaaGreatKLy
import Derived.Test.YthdnpgpnodgicaaGreatKSnSv
import Derived.Test.YthdnpgpnodgicaaGreatKSnSv
import Derived.Test.YthdnpgpnodgicaaGreatKSh
import Derived.Test.YthdnpgpnodgicaaGreatL8Run
set_option linter.unusedVariables false
set_option linter.unusedSimpArgs false
set_option maxRecDepth 100000
namespace Go.Proofs.YthdnpgpnodgicaaGreat
open Go Go.Pb Go.RowKit
def RF63 (res : Int) (r : PV) : Prop := r = vi res
theorem ad3 {S : List Fr} {res : Int} {x0 : List aj} {x1 : Int} {rec_ : (List aj) → Int → Int} {mu_ : Nat} {v0 : PV} (r0 : (tSl aj.t).R x0 v0) (hd : 0 ≤ x1) (c9 : x1 ≤ 100) (ihR : ∀ {z0 : List aj} {z1 : Int} {c5 : PV} (d7 : (tSl aj.t).R z0 c5) (hd : 0 ≤ z1) (c9 : z1 ≤ 100), z1.toNat < mu_ → FnR Tryz.prog 63 [c5, vi z1] (vi (rec_ z0 z1))) (hmu : mu_ = x1.toNat) {K0 : Int → Int}
  (c6 : ∀ {a1 : Int}, K0 a1 = res → PX Tryz.prog 0 S (QR Tryz.prog [(4, none)] (RF63 res)) [(5, vi a1)] ⟨0, []⟩) :
  ∀ {m : Nat} {a1 a0 : Int} (c7 : m = Int.toNat ((x0.length : Int) - a0)) (b0 : 0 ≤ a0), pg x0 x1 rec_ K0 m a1 a0 = res → RC Tryz.prog (.loop ct0) S (QR Tryz.prog [(4, none)] (RF63 res)) [(6, vi a0), (5, vi a1), (1, vi x1), (0, v0)] ⟨0, []⟩ := by
 intro m
 induction m with
 | zero =>
  intro a1 a0 c7 b0 hres
  rw [pg] at hres
  refine bw (ah (sR (mV rfl (mV rfl (ab (cw rfl (cg r0 Tryz.underlying28 _)) (bN cy rfl rfl (mV rfl ?_)))))))
  refine cp 3 (d := 16) (v := vb ((decide (a0 < (x0.length : Int))) && (decide (a1 < 100)))) ?_ ?_
  ·intro S Q r
   cases b1 : (decide (a0 < (x0.length : Int)))
   ·exact gN 2 rfl rfl rfl rfl rfl rfl
   ·intro k
    have a4 := b1
    try simp only [qa] at a4
    refine ak rfl rfl (au rfl) (ak rfl rfl (az rfl rfl cy) ?_)
    exact gK rfl rfl rfl rfl rfl k
  refine nS ?_
  refine bc rfl ?_ ?_ <;> intro c <;> try simp only [qa] at c
  ·omega
  refine dt (fj (df ?_))
  exact wP (c6  hres) rfl
 | succ m ih =>
  intro a1 a0 c7 b0 hres
  rw [pg] at hres
  refine bw (ah (sR (mV rfl (mV rfl (ab (cw rfl (cg r0 Tryz.underlying28 _)) (bN cy rfl rfl (mV rfl ?_)))))))
  refine cp 3 (d := 16) (v := vb ((decide (a0 < (x0.length : Int))) && (decide (a1 < 100)))) ?_ ?_
  ·intro S Q r
   cases b5 : (decide (a0 < (x0.length : Int)))
   ·exact gN 2 rfl rfl rfl rfl rfl rfl
   ·intro k
    have a2 := b5
    try simp only [qa] at a2
    refine ak rfl rfl (au rfl) (ak rfl rfl (az rfl rfl cy) ?_)
    exact gK rfl rfl rfl rfl rfl k
  refine nS ?_
  refine dg hres rfl ?_ ?_ <;> clear hres <;> intro c hres <;> try simp only [qa] at c
  ·refine ay (ai (ah (bf (ah (sR (mV rfl (bN nd rfl rfl (mV rfl ?_))))))))
   refine cp 8 (d := 29) (v := vb ((decide (x1 = 0)) || (decide (40 < (((ix x0 a0).Cond).length : Int))))) ?_ ?_
   ·intro S Q r
    cases a8 : (decide (x1 = 0))
    ·intro k
     have a6 := a8
     try simp only [qa] at a6
     refine ak rfl rfl (au rfl) (ak rfl rfl (au rfl) ?_)
     obtain ⟨d0, b9, c4⟩ := dk (i := a0) r0 (by first | omega | (have hk := bn (by assumption) (by assumption); omega) | (have hk := tck (by assumption) (by assumption); omega) | (have hk := rtck (by assumption) (by assumption); omega) | (have hk := eck (by assumption) (by assumption) (by assumption); omega) | (have hk := tv (by assumption) (by assumption); omega) | (have hk := rtv (by assumption) (by assumption); omega)) (by first | omega | (have hk := bn (by assumption) (by assumption); omega) | (have hk := tck (by assumption) (by assumption); omega) | (have hk := rtck (by assumption) (by assumption); omega) | (have hk := eck (by assumption) (by assumption) (by assumption); omega) | (have hk := tv (by assumption) (by assumption); omega) | (have hk := rtv (by assumption) (by assumption); omega))
     refine ak rfl rfl (bp rfl rfl b9) ?_
     obtain ⟨d2, c3, a3⟩ := aj.g_Cond c4
     refine ak rfl rfl (ck rfl c3) (ak rfl rfl (bt rfl (TR.cnt (tSl ep.t) a3) (TR.agg (tSl ep.t) a3)) (ak rfl rfl (cw rfl (cg a3 Tryz.underlying163 _)) (ak rfl rfl (az rfl rfl ig) ?_)))
     exact gK rfl rfl rfl rfl rfl k
    ·exact gN 7 rfl rfl rfl rfl rfl rfl
   refine nS ?_
   refine dg hres rfl ?_ ?_ <;> clear hres <;> intro c hres <;> try simp only [qa] at c
   ·refine sR (mI rfl (nS ?_))
    exact rR hres rfl rfl rfl
   ·refine ay (ai (af (mV rfl (mV rfl (mV rfl ?_)))))
    obtain ⟨d6, b6, b8⟩ := dk (i := a0) r0 (by first | omega | (have hk := bn (by assumption) (by assumption); omega) | (have hk := tck (by assumption) (by assumption); omega) | (have hk := rtck (by assumption) (by assumption); omega) | (have hk := eck (by assumption) (by assumption) (by assumption); omega) | (have hk := tv (by assumption) (by assumption); omega) | (have hk := rtv (by assumption) (by assumption); omega)) (by first | omega | (have hk := bn (by assumption) (by assumption); omega) | (have hk := tck (by assumption) (by assumption); omega) | (have hk := rtck (by assumption) (by assumption); omega) | (have hk := eck (by assumption) (by assumption) (by assumption); omega) | (have hk := tv (by assumption) (by assumption); omega) | (have hk := rtv (by assumption) (by assumption); omega))
    refine ab (bp rfl rfl b6) ?_
    obtain ⟨d5, b7, a5⟩ := aj.g_Then b8
    refine fA rfl b7 (lD a5 rfl rfl rfl (mV rfl (bN af6 rfl rfl ?_)))
    obtain ⟨d1, b2, hres⟩ := dl hres
    have a7 := ihR (z0 := (ix x0 a0).Then) (z1 := (wr (x1 - 1))) a5 (by first | assumption | omega | (have := rv (by assumption) (by assumption); omega) | (rw [dm (by omega) (by omega)]; omega) | (simp only [List.length_cons, List.length_nil]; omega)) (by first | assumption | omega | (have := rv (by assumption) (by assumption); omega) | (rw [dm (by omega) (by omega)]; omega) | (simp only [List.length_cons, List.length_nil]; omega)) (by (rw [dm (by omega) (by omega)]; omega))
    rw [b2] at a7
    refine cL a7 rfl rfl (aq (TR.clo (tSl aj.t) a5) (aq rfl bh)) (bN fa rfl rfl (mV rfl (mV rfl ?_)))
    obtain ⟨c8, c1, c0⟩ := dk (i := a0) r0 (by first | omega | (have hk := bn (by assumption) (by assumption); omega) | (have hk := tck (by assumption) (by assumption); omega) | (have hk := rtck (by assumption) (by assumption); omega) | (have hk := eck (by assumption) (by assumption) (by assumption); omega) | (have hk := tv (by assumption) (by assumption); omega) | (have hk := rtv (by assumption) (by assumption); omega)) (by first | omega | (have hk := bn (by assumption) (by assumption); omega) | (have hk := tck (by assumption) (by assumption); omega) | (have hk := rtck (by assumption) (by assumption); omega) | (have hk := eck (by assumption) (by assumption) (by assumption); omega) | (have hk := tv (by assumption) (by assumption); omega) | (have hk := rtv (by assumption) (by assumption); omega))
    refine ab (bp rfl rfl c1) (gL (aj.g_Else c0) rfl rfl rfl fun d3 b3 => (mV rfl (bN af6 rfl rfl ?_)))
    obtain ⟨d4, a9, hres⟩ := dl hres
    have b4 := ihR (z0 := (ix x0 a0).Else) (z1 := (wr (x1 - 1))) b3 (by first | assumption | omega | (have := rv (by assumption) (by assumption); omega) | (rw [dm (by omega) (by omega)]; omega) | (simp only [List.length_cons, List.length_nil]; omega)) (by first | assumption | omega | (have := rv (by assumption) (by assumption); omega) | (rw [dm (by omega) (by omega)]; omega) | (simp only [List.length_cons, List.length_nil]; omega)) (by (rw [dm (by omega) (by omega)]; omega))
    rw [a9] at b4
    refine cL b4 rfl rfl (aq (TR.clo (tSl aj.t) b3) (aq rfl bh)) (bN fa rfl rfl (mV rfl (av (dh (ai (af (mV rfl (bN fa rfl rfl ?_))))))))
    refine mV rfl (av (cx ?_))
    have hbd := ee r0
    have hinc : wr (a0 + 1) = a0 + 1 := dm (by omega) (by omega)
    erw [hinc]
    exact wC (ih   (by omega) (by omega) hres) rfl
  ·refine dt (fj (df ?_))
   exact wP (c6  hres) rfl

theorem db6 {rec_ : (List aj) → Int → Int} {mu_ : Nat} {x0 : List aj} {x1 : Int} {v0 : PV} (r0 : (tSl aj.t).R x0 v0) (hd : 0 ≤ x1) (a2 : x1 ≤ 100) (hmu : mu_ = x1.toNat) (ihR : ∀ {z0 : List aj} {z1 : Int} {a1 : PV} (a3 : (tSl aj.t).R z0 a1) (hd : 0 ≤ z1) (a2 : z1 ≤ 100), z1.toNat < mu_ → FnR Tryz.prog 63 [a1, vi z1] (vi (rec_ z0 z1))) : FnR Tryz.prog 63 [v0, vi x1] (vi (sj rec_ x0 x1)) := by
 refine fnS (R := RF63) du3 (fun _ h => h) rfl fun res hres => ?_
 unfold sj at hres
 refine sR (mI rfl (nR (mV rfl (ab (cw rfl (cg r0 Tryz.underlying28 _)) (mV rfl (nS (ah (sR ?_))))))))
 refine mI rfl (nS (bf ?_))
 refine wC (ad3 r0 hd a2 ihR hmu ?_  rfl (by omega) hres) rfl
 ·intro a0 hres
  refine ft (ai (sR (mV rfl (mV rfl (nS ?_)))))
  exact rR hres rfl rfl rfl
theorem cz6 : ∀ (n_ : Nat) {x0 : List aj} {x1 : Int} {v0 : PV} (r0 : (tSl aj.t).R x0 v0) (hd : 0 ≤ x1) (a0 : x1 ≤ 100), x1.toNat < n_ → FnR Tryz.prog 63 [v0, vi x1] (vi (ou n_ x0 x1)) := by
 intro n_
 induction n_ with
 | zero => intros; rename_i hlt; exact absurd hlt (Nat.not_lt_zero _)
 | succ n_ ihn =>
  intro x0 x1 v0 r0 hd a0 hlt
  have e_ : ou (n_ + 1) x0 x1 = sj (ou n_) x0 x1 := by rw [ou]
  rw [e_]
  exact db6 r0 hd a0 rfl (fun {z0} {z1} {zv0} zr0 hd a0 hz => ihn zr0 hd a0 (by omega))
theorem dw0 {x0 : List aj} {x1 : Int} {v0 : PV} (r0 : (tSl aj.t).R x0 v0) (hd : 0 ≤ x1) (a0 : x1 ≤ 100) : FnR Tryz.prog 63 [v0, vi x1] (vi (pv x0 x1)) := cz6 _ r0 hd a0 (Nat.lt_succ_self _)

def RF64 (res : Bool) (r : PV) : Prop := r = vb res
theorem aa7 {S : List Fr} {res : Bool} {x0 : ct} {v0 : PV} (r0 : ct.t.R x0 v0) (a4 : ((decide (30 < (x0.Name.length : Int))) || (decide (20 < (x0.Fields.length : Int)))) = false) {K0 : Unit → Bool}
  (b5 : K0 () = res → PX Tryz.prog 0 S (QR Tryz.prog [(2, none)] (RF64 res)) [] ⟨0, []⟩) :
  ∀ {m : Nat} {a0 : Int} (b1 : m = Int.toNat ((x0.Fields.length : Int) - a0)) (a5 : 0 ≤ a0), pq x0 K0 m a0 = res → RC Tryz.prog (.loop cy4) S (QR Tryz.prog [(2, none)] (RF64 res)) [(3, vi a0), (1, .fp v0)] ⟨0, []⟩ := by
 have a1 := a4
 try simp only [qa] at a1
 intro m
 induction m with
 | zero =>
  intro a0 b1 a5 hres
  rw [pq] at hres
  refine bw (ah (sR (mV rfl (gL (ct.g_Fields r0) rfl rfl rfl fun b4 a6 => (ab (cw rfl (cg a6 Tryz.underlying23 _)) (bN cy rfl rfl (nS ?_)))))))
  refine bc rfl ?_ ?_ <;> intro c <;> try simp only [qa] at c
  ·omega
  refine dt (fj (df ?_))
  exact wP (b5  hres) rfl
 | succ m ih =>
  intro a0 b1 a5 hres
  rw [pq] at hres
  refine bw (ah (sR (mV rfl ?_)))
  obtain ⟨b3, b0, a2⟩ := ct.g_Fields r0
  refine fA rfl b0 (lD a2 rfl rfl rfl (ab (cw rfl (cg a2 Tryz.underlying23 _)) (bN cy rfl rfl (nS ?_))))
  refine bc rfl ?_ ?_ <;> intro c <;> try simp only [qa] at c
  rotate_left
  ·omega
  refine ay (ai (ah (bf (sR ?_))))
  obtain ⟨b2, a8, a3⟩ := ct.g_Fields r0
  refine fA rfl a8 (lD a3 rfl rfl rfl (mV rfl ?_))
  obtain ⟨b6, a7, a9⟩ := dk (i := a0) a3 (by first | omega | (have hk := bn (by assumption) (by assumption); omega) | (have hk := tck (by assumption) (by assumption); omega) | (have hk := rtck (by assumption) (by assumption); omega) | (have hk := eck (by assumption) (by assumption) (by assumption); omega) | (have hk := tv (by assumption) (by assumption); omega) | (have hk := rtv (by assumption) (by assumption); omega)) (by first | omega | (have hk := bn (by assumption) (by assumption); omega) | (have hk := tck (by assumption) (by assumption); omega) | (have hk := rtck (by assumption) (by assumption); omega) | (have hk := eck (by assumption) (by assumption) (by assumption); omega) | (have hk := tv (by assumption) (by assumption); omega) | (have hk := rtv (by assumption) (by assumption); omega))
  refine ab (bp rfl rfl a7) (fL rfl (bz.g_Name a9) rfl rfl (ab (cw rfl (pf Tryz.underlying9)) (bN ig rfl rfl (nS ?_))))
  refine dg hres rfl ?_ ?_ <;> clear hres <;> intro c hres <;> try simp only [qa] at c
  ·refine sR (mB rfl (nS ?_))
   exact rR hres rfl rfl rfl
  ·refine ay (dh (ai (af (mV rfl (bN fa rfl rfl (mV rfl (av (cx ?_))))))))
   have hbd := ee a2
   have hinc : wr (a0 + 1) = a0 + 1 := dm (by omega) (by omega)
   erw [hinc]
   exact wC (ih   (by omega) (by omega) hres) rfl

theorem dt6 {x0 : ct} {v0 : PV} (r0 : ct.t.R x0 v0) : FnR Tryz.prog 64 [v0] (vb (ya x0)) := by
 refine fnS (R := RF64) dp1 (fun _ h => h) rfl fun res hres => ?_
 unfold ya at hres
 refine sR (ab (dz rfl (TR.cnt ct.t r0)) (mB rfl (nS (ah (sR (fL rfl (ct.g_Name r0) rfl rfl (ab (cw rfl (pf Tryz.underlying9)) (bN ig rfl rfl ?_))))))))
 refine mV rfl ?_
 refine cp 5 (d := 13) (v := vb ((decide (30 < (x0.Name.length : Int))) || (decide (20 < (x0.Fields.length : Int))))) ?_ ?_
 ·intro S Q r
  cases a4 : (decide (30 < (x0.Name.length : Int)))
  ·intro k
   have a1 := a4
   try simp only [qa] at a1
   obtain ⟨a6, a5, a2⟩ := ct.g_Fields r0
   refine ak rfl rfl (ck rfl a5) (ak rfl rfl (bt rfl (TR.cnt (tSl bz.t) a2) (TR.agg (tSl bz.t) a2)) (ak rfl rfl (cw rfl (cg a2 Tryz.underlying23 _)) (ak rfl rfl (az rfl rfl ig) ?_)))
   exact gK rfl rfl rfl rfl rfl k
  ·exact gN 4 rfl rfl rfl rfl rfl rfl
 refine nS ?_
 refine dg hres rfl ?_ ?_ <;> clear hres <;> intro a0 hres <;> have a3 := a0 <;> try simp only [qa] at a3
 ·refine sR (mB rfl (nS ?_))
  exact rR hres rfl rfl rfl
 ·refine ay (ai (ah (sR (mI rfl (nS (bf ?_))))))
  refine wC (aa7 r0 a0 ?_  rfl (by omega) hres) rfl
  ·intro  hres
   refine ft (ai (sR (mB rfl (nS ?_))))
   exact rR hres rfl rfl rfl

def RF65 (res : Bool) (r : PV) : Prop := r = vb res
theorem vy {S : List Fr} {res : Bool} {x0 : cz} {v0 : PV} (r0 : cz.t.R x0 v0) (a6 : (((decide (8 < (x0.Params.length : Int))) || (decide (16 < (x0.Body.length : Int)))) || (decide (60 < (x0.Name.length : Int)))) = false) {K0 : Unit → Bool}
  (c6 : K0 () = res → PX Tryz.prog 0 S (QR Tryz.prog [(2, none)] (RF65 res)) [] ⟨0, []⟩) :
  ∀ {m : Nat} {a0 : Int} (b8 : m = Int.toNat ((x0.Body.length : Int) - a0)) (a7 : 0 ≤ a0), kx x0 K0 m a0 = res → RC Tryz.prog (.loop de3) S (QR Tryz.prog [(2, none)] (RF65 res)) [(3, vi a0), (1, .fp v0)] ⟨0, []⟩ := by
 have a4 := a6
 try simp only [qa] at a4
 intro m
 induction m with
 | zero =>
  intro a0 b8 a7 hres
  rw [kx] at hres
  refine bw (ah (sR (mV rfl (gL (cz.g_Body r0) rfl rfl rfl fun c3 b6 => (ab (cw rfl (cg b6 Tryz.underlying118 _)) (bN cy rfl rfl (nS ?_)))))))
  refine bc rfl ?_ ?_ <;> intro c <;> try simp only [qa] at c
  ·omega
  refine dt (fj (df ?_))
  exact wP (c6  hres) rfl
 | succ m ih =>
  intro a0 b8 a7 hres
  rw [kx] at hres
  refine bw (ah (sR (mV rfl (gL (cz.g_Body r0) rfl rfl rfl fun b9 a5 => (ab (cw rfl (cg a5 Tryz.underlying118 _)) (bN cy rfl rfl (nS ?_)))))))
  refine bc rfl ?_ ?_ <;> intro c <;> try simp only [qa] at c
  rotate_left
  ·omega
  refine ay (ai (ah (bf (sR (gL (cz.g_Body r0) rfl rfl rfl fun c5 b2 => (mV rfl ?_))))))
  obtain ⟨c1, b4, b1⟩ := dk (i := a0) b2 (by first | omega | (have hk := bn (by assumption) (by assumption); omega) | (have hk := tck (by assumption) (by assumption); omega) | (have hk := rtck (by assumption) (by assumption); omega) | (have hk := eck (by assumption) (by assumption) (by assumption); omega) | (have hk := tv (by assumption) (by assumption); omega) | (have hk := rtv (by assumption) (by assumption); omega)) (by first | omega | (have hk := bn (by assumption) (by assumption); omega) | (have hk := tck (by assumption) (by assumption); omega) | (have hk := rtck (by assumption) (by assumption); omega) | (have hk := eck (by assumption) (by assumption) (by assumption); omega) | (have hk := tv (by assumption) (by assumption); omega) | (have hk := rtv (by assumption) (by assumption); omega))
  refine ab (bp rfl rfl b4) (gL (dj.g_Index b1) rfl rfl rfl fun c0 b7 => (ab (cw rfl (cg b7 Tryz.underlying163 _)) (bN ig rfl rfl (mV rfl ?_))))
  refine cp 9 (d := 44) (v := vb ((decide (40 < (((ix x0.Body a0).Index).length : Int))) || (decide (40 < (((ix x0.Body a0).Value).length : Int))))) ?_ ?_
  ·intro S Q r
   cases a8 : (decide (40 < (((ix x0.Body a0).Index).length : Int)))
   ·intro k
    have a3 := a8
    try simp only [qa] at a3
    obtain ⟨c7, a9, a1⟩ := cz.g_Body r0
    refine ak rfl rfl (ck rfl a9) (ak rfl rfl (bt rfl (TR.cnt (tSl dj.t) a1) (TR.agg (tSl dj.t) a1)) (ak rfl rfl (au rfl) ?_))
    obtain ⟨c4, b3, b0⟩ := dk (i := a0) a1 (by first | omega | (have hk := bn (by assumption) (by assumption); omega) | (have hk := tck (by assumption) (by assumption); omega) | (have hk := rtck (by assumption) (by assumption); omega) | (have hk := eck (by assumption) (by assumption) (by assumption); omega) | (have hk := tv (by assumption) (by assumption); omega) | (have hk := rtv (by assumption) (by assumption); omega)) (by first | omega | (have hk := bn (by assumption) (by assumption); omega) | (have hk := tck (by assumption) (by assumption); omega) | (have hk := rtck (by assumption) (by assumption); omega) | (have hk := eck (by assumption) (by assumption) (by assumption); omega) | (have hk := tv (by assumption) (by assumption); omega) | (have hk := rtv (by assumption) (by assumption); omega))
    refine ak rfl rfl (bp rfl rfl b3) ?_
    obtain ⟨c8, b5, a2⟩ := dj.g_Value b0
    refine ak rfl rfl (ck rfl b5) (ak rfl rfl (bt rfl (TR.cnt (tSl ep.t) a2) (TR.agg (tSl ep.t) a2)) (ak rfl rfl (cw rfl (cg a2 Tryz.underlying163 _)) (ak rfl rfl (az rfl rfl ig) ?_)))
    exact gK rfl rfl rfl rfl rfl k
   ·exact gN 8 rfl rfl rfl rfl rfl rfl
  refine nS ?_
  refine dg hres rfl ?_ ?_ <;> clear hres <;> intro c hres <;> try simp only [qa] at c
  ·refine sR (mB rfl (nS ?_))
   exact rR hres rfl rfl rfl
  ·refine ay (dh (ai (af (mV rfl (bN fa rfl rfl (mV rfl (av (cx ?_))))))))
   have hbd := ee a5
   have hinc : wr (a0 + 1) = a0 + 1 := dm (by omega) (by omega)
   erw [hinc]
   exact wC (ih   (by omega) (by omega) hres) rfl

theorem ds0 {x0 : cz} {v0 : PV} (r0 : cz.t.R x0 v0) : FnR Tryz.prog 65 [v0] (vb (qy x0)) := by
 refine fnS (R := RF65) ds2 (fun _ h => h) rfl fun res hres => ?_
 unfold qy at hres
 refine sR (ab (dz rfl (TR.cnt cz.t r0)) (mB rfl (nS (ah (sR ?_)))))
 obtain ⟨b1, a9, a7⟩ := cz.g_Params r0
 refine fA rfl a9 (lD a7 rfl rfl rfl (ab (cw rfl (cg a7 Tryz.underlying23 _)) (bN ig rfl rfl (mV rfl ?_))))
 refine cp 5 (d := 13) (v := vb ((decide (8 < (x0.Params.length : Int))) || (decide (16 < (x0.Body.length : Int))))) ?_ ?_
 ·intro S Q r
  cases a5 : (decide (8 < (x0.Params.length : Int)))
  ·intro k
   have a2 := a5
   try simp only [qa] at a2
   obtain ⟨b0, a8, a3⟩ := cz.g_Body r0
   refine ak rfl rfl (ck rfl a8) (ak rfl rfl (bt rfl (TR.cnt (tSl dj.t) a3) (TR.agg (tSl dj.t) a3)) (ak rfl rfl (cw rfl (cg a3 Tryz.underlying118 _)) (ak rfl rfl (az rfl rfl ig) ?_)))
   exact gK rfl rfl rfl rfl rfl k
  ·exact gN 4 rfl rfl rfl rfl rfl rfl
 refine mV rfl ?_
 refine cp 5 (d := 19) (v := vb (((decide (8 < (x0.Params.length : Int))) || (decide (16 < (x0.Body.length : Int)))) || (decide (60 < (x0.Name.length : Int))))) ?_ ?_
 ·intro S Q r
  cases a6 : ((decide (8 < (x0.Params.length : Int))) || (decide (16 < (x0.Body.length : Int))))
  ·intro k
   have a1 := a6
   try simp only [qa] at a1
   refine ak rfl rfl (ck rfl (cz.g_Name r0)) (ak rfl rfl (bt rfl rfl rfl) (ak rfl rfl (cw rfl (pf Tryz.underlying9)) (ak rfl rfl (az rfl rfl ig) ?_)))
   exact gK rfl rfl rfl rfl rfl k
  ·exact gN 4 rfl rfl rfl rfl rfl rfl
 refine nS ?_
 refine dg hres rfl ?_ ?_ <;> clear hres <;> intro a0 hres <;> have a4 := a0 <;> try simp only [qa] at a4
 ·refine sR (mB rfl (nS ?_))
  exact rR hres rfl rfl rfl
 ·refine ay (ai (ah (sR (mI rfl (nS (bf ?_))))))
  refine wC (vy r0 a0 ?_  rfl (by omega) hres) rfl
  ·intro  hres
   refine ft (ai (sR (mB rfl (nS ?_))))
   exact rR hres rfl rfl rfl

def RF66 (res : Bool) (r : PV) : Prop := r = vb res
theorem dp7 {x0 : cv} {v0 : PV} (r0 : cv.t.R x0 v0) : FnR Tryz.prog 66 [v0] (vb (sh x0)) := by
 refine fnS (R := RF66) dq6 (fun _ h => h) rfl fun res hres => ?_
 unfold sh at hres
 refine sR (ab (dz rfl (TR.cnt cv.t r0)) (mB rfl (nR (gL (cv.g_Extract r0) rfl rfl rfl fun a8 a6 => (ab (cw rfl (cg a6 Tryz.underlying29 _)) (bN ig rfl rfl (mV rfl ?_)))))))
 refine cp 5 (d := 12) (v := vb ((decide (8 < (x0.Extract.length : Int))) || (decide (12 < (x0.Cases.length : Int))))) ?_ ?_
 ·intro S Q r
  cases a3 : (decide (8 < (x0.Extract.length : Int)))
  ·intro k
   have a1 := a3
   try simp only [qa] at a1
   obtain ⟨a7, a5, a2⟩ := cv.g_Cases r0
   refine ak rfl rfl (ck rfl a5) (ak rfl rfl (bt rfl (TR.cnt (tSl fh.t) a2) (TR.agg (tSl fh.t) a2)) (ak rfl rfl (cw rfl (cg a2 Tryz.underlying122 _)) (ak rfl rfl (az rfl rfl ig) ?_)))
   exact gK rfl rfl rfl rfl rfl k
  ·exact gN 4 rfl rfl rfl rfl rfl rfl
 refine mV rfl ?_
 refine cp 5 (d := 18) (v := vb (((decide (8 < (x0.Extract.length : Int))) || (decide (12 < (x0.Cases.length : Int)))) || (decide (60 < (x0.Name.length : Int))))) ?_ ?_
 ·intro S Q r
  cases a4 : ((decide (8 < (x0.Extract.length : Int))) || (decide (12 < (x0.Cases.length : Int))))
  ·intro k
   have a0 := a4
   try simp only [qa] at a0
   refine ak rfl rfl (ck rfl (cv.g_Name r0)) (ak rfl rfl (bt rfl rfl rfl) (ak rfl rfl (cw rfl (pf Tryz.underlying9)) (ak rfl rfl (az rfl rfl ig) ?_)))
   exact gK rfl rfl rfl rfl rfl k
  ·exact gN 4 rfl rfl rfl rfl rfl rfl
 refine mV rfl (nS ?_)
 exact rR hres rfl rfl rfl

def RF27 (res : Bool) (r : PV) : Prop := r = vb res
theorem xv {S : List Fr} {res : Bool} {x0 : aa} {v0 : PV} (r0 : aa.t.R x0 v0) (a5 : (((((((((decide (60 < (x0.Name.length : Int))) || (decide (16 < (x0.Headers.length : Int)))) || (decide (20 < (x0.Metadata.length : Int)))) || (decide (8 < (x0.Registers.length : Int)))) || (decide (24 < (x0.Actions.length : Int)))) || (decide (16 < (x0.Tables.length : Int)))) || (decide (16 < (x0.States.length : Int)))) || (decide (16 < (x0.Deparser.length : Int)))) || (decide (60 < (pv x0.Control 10)))) = false) {K0 : Unit → Bool}
  (b6 : K0 () = res → PX Tryz.prog 0 S (QR Tryz.prog [(2, none)] (RF27 res)) [(1, .fp v0)] ⟨0, []⟩) :
  ∀ {m : Nat} {a0 : Int} (b1 : m = Int.toNat ((x0.Headers.length : Int) - a0)) (a6 : 0 ≤ a0), mn x0 K0 m a0 = res → RC Tryz.prog (.loop cr3) S (QR Tryz.prog [(2, none)] (RF27 res)) [(3, vi a0), (1, .fp v0)] ⟨0, []⟩ := by
 have a1 := a5
 try simp only [qa] at a1
 intro m
 induction m with
 | zero =>
  intro a0 b1 a6 hres
  rw [mn] at hres
  refine bw (ah (sR (mV rfl (gL (aa.g_Headers r0) rfl rfl rfl fun b7 a9 => (ab (cw rfl (cg a9 Tryz.underlying22 _)) (bN cy rfl rfl (nS ?_)))))))
  refine bc rfl ?_ ?_ <;> intro c <;> try simp only [qa] at c
  ·omega
  refine dt (fj (df ?_))
  exact wP (b6  hres) rfl
 | succ m ih =>
  intro a0 b1 a6 hres
  rw [mn] at hres
  refine bw (ah (sR (mV rfl (gL (aa.g_Headers r0) rfl rfl rfl fun b5 a3 => (ab (cw rfl (cg a3 Tryz.underlying22 _)) (bN cy rfl rfl (nS ?_)))))))
  refine bc rfl ?_ ?_ <;> intro c <;> try simp only [qa] at c
  rotate_left
  ·omega
  refine ay (ai (ah (bf (sR (gL (aa.g_Headers r0) rfl rfl rfl fun b3 b0 => (mV rfl ?_))))))
  obtain ⟨b2, a8, a2⟩ := dk (i := a0) b0 (by first | omega | (have hk := bn (by assumption) (by assumption); omega) | (have hk := tck (by assumption) (by assumption); omega) | (have hk := rtck (by assumption) (by assumption); omega) | (have hk := eck (by assumption) (by assumption) (by assumption); omega) | (have hk := tv (by assumption) (by assumption); omega) | (have hk := rtv (by assumption) (by assumption); omega)) (by first | omega | (have hk := bn (by assumption) (by assumption); omega) | (have hk := tck (by assumption) (by assumption); omega) | (have hk := rtck (by assumption) (by assumption); omega) | (have hk := eck (by assumption) (by assumption) (by assumption); omega) | (have hk := tv (by assumption) (by assumption); omega) | (have hk := rtv (by assumption) (by assumption); omega))
  refine ab (bp rfl rfl a8) (lD a2 rfl rfl rfl ?_)
  obtain ⟨b4, a4, hres⟩ := dl hres
  have a7 := dt6  a2 
  rw [a4] at a7
  refine cL a7 rfl rfl (aq (TR.clo ct.t a2) bh) (ab (jy rfl) (nS ?_))
  refine dg hres rfl ?_ ?_ <;> clear hres <;> intro c hres <;> try simp only [qa] at c
  ·refine sR (mB rfl (nS ?_))
   exact rR hres rfl rfl rfl
  ·refine ay (dh (ai (af (mV rfl (bN fa rfl rfl (mV rfl (av (cx ?_))))))))
   have hbd := ee a3
   have hinc : wr (a0 + 1) = a0 + 1 := dm (by omega) (by omega)
   erw [hinc]
   exact wC (ih   (by omega) (by omega) hres) rfl

theorem yf {S : List Fr} {res : Bool} {x0 : aa} {v0 : PV} (r0 : aa.t.R x0 v0) (a5 : (((((((((decide (60 < (x0.Name.length : Int))) || (decide (16 < (x0.Headers.length : Int)))) || (decide (20 < (x0.Metadata.length : Int)))) || (decide (8 < (x0.Registers.length : Int)))) || (decide (24 < (x0.Actions.length : Int)))) || (decide (16 < (x0.Tables.length : Int)))) || (decide (16 < (x0.States.length : Int)))) || (decide (16 < (x0.Deparser.length : Int)))) || (decide (60 < (pv x0.Control 10)))) = false) {K2 : Unit → Bool}
  (b4 : K2 () = res → PX Tryz.prog 2 S (QR Tryz.prog [(2, none)] (RF27 res)) [(1, .fp v0)] ⟨0, []⟩) :
  ∀ {m : Nat} {a0 : Int} (b1 : m = Int.toNat ((x0.Actions.length : Int) - a0)) (a4 : 0 ≤ a0), mz x0 K2 m a0 = res → RC Tryz.prog (.loop da4) S (QR Tryz.prog [(2, none)] (RF27 res)) [(4, vi a0), (1, .fp v0)] ⟨0, []⟩ := by
 have a1 := a5
 try simp only [qa] at a1
 intro m
 induction m with
 | zero =>
  intro a0 b1 a4 hres
  rw [mz] at hres
  refine bw (ah (sR (mV rfl (gL (aa.g_Actions r0) rfl rfl rfl fun b2 a8 => (ab (cw rfl (cg a8 Tryz.underlying25 _)) (bN cy rfl rfl (nS ?_)))))))
  refine bc rfl ?_ ?_ <;> intro c <;> try simp only [qa] at c
  ·omega
  refine dt (fj (df ?_))
  exact wP (b4  hres) rfl
 | succ m ih =>
  intro a0 b1 a4 hres
  rw [mz] at hres
  refine bw (ah (sR (mV rfl (gL (aa.g_Actions r0) rfl rfl rfl fun b6 a6 => (ab (cw rfl (cg a6 Tryz.underlying25 _)) (bN cy rfl rfl (nS ?_)))))))
  refine bc rfl ?_ ?_ <;> intro c <;> try simp only [qa] at c
  rotate_left
  ·omega
  refine ay (ai (ah (bf (sR (gL (aa.g_Actions r0) rfl rfl rfl fun b7 a9 => (mV rfl ?_))))))
  obtain ⟨b5, b0, a2⟩ := dk (i := a0) a9 (by first | omega | (have hk := bn (by assumption) (by assumption); omega) | (have hk := tck (by assumption) (by assumption); omega) | (have hk := rtck (by assumption) (by assumption); omega) | (have hk := eck (by assumption) (by assumption) (by assumption); omega) | (have hk := tv (by assumption) (by assumption); omega) | (have hk := rtv (by assumption) (by assumption); omega)) (by first | omega | (have hk := bn (by assumption) (by assumption); omega) | (have hk := tck (by assumption) (by assumption); omega) | (have hk := rtck (by assumption) (by assumption); omega) | (have hk := eck (by assumption) (by assumption) (by assumption); omega) | (have hk := tv (by assumption) (by assumption); omega) | (have hk := rtv (by assumption) (by assumption); omega))
  refine ab (bp rfl rfl b0) (lD a2 rfl rfl rfl ?_)
  obtain ⟨b3, a7, hres⟩ := dl hres
  have a3 := ds0  a2 
  rw [a7] at a3
  refine cL a3 rfl rfl (aq (TR.clo cz.t a2) bh) (nS ?_)
  refine dg hres rfl ?_ ?_ <;> clear hres <;> intro c hres <;> try simp only [qa] at c
  ·refine sR (mB rfl (nS ?_))
   exact rR hres rfl rfl rfl
  ·refine ay (dh (ai (af (mV rfl (bN fa rfl rfl (mV rfl (av (cx ?_))))))))
   have hbd := ee a6
   have hinc : wr (a0 + 1) = a0 + 1 := dm (by omega) (by omega)
   erw [hinc]
   exact wC (ih   (by omega) (by omega) hres) rfl

theorem yl {S : List Fr} {res : Bool} {x0 : aa} {v0 : PV} (r0 : aa.t.R x0 v0) (b0 : (((((((((decide (60 < (x0.Name.length : Int))) || (decide (16 < (x0.Headers.length : Int)))) || (decide (20 < (x0.Metadata.length : Int)))) || (decide (8 < (x0.Registers.length : Int)))) || (decide (24 < (x0.Actions.length : Int)))) || (decide (16 < (x0.Tables.length : Int)))) || (decide (16 < (x0.States.length : Int)))) || (decide (16 < (x0.Deparser.length : Int)))) || (decide (60 < (pv x0.Control 10)))) = false) {K4 : Unit → Bool}
  (d9 : K4 () = res → PX Tryz.prog 4 S (QR Tryz.prog [(2, none)] (RF27 res)) [(1, .fp v0)] ⟨0, []⟩) :
  ∀ {m : Nat} {a0 : Int} (d5 : m = Int.toNat ((x0.Tables.length : Int) - a0)) (b3 : 0 ≤ a0), my x0 K4 m a0 = res → RC Tryz.prog (.loop cv1) S (QR Tryz.prog [(2, none)] (RF27 res)) [(5, vi a0), (1, .fp v0)] ⟨0, []⟩ := by
 have a2 := b0
 try simp only [qa] at a2
 intro m
 induction m with
 | zero =>
  intro a0 d5 b3 hres
  rw [my] at hres
  refine bw (ah (sR (mV rfl (gL (aa.g_Tables r0) rfl rfl rfl fun e8 c7 => (ab (cw rfl (cg c7 Tryz.underlying26 _)) (bN cy rfl rfl (nS ?_)))))))
  refine bc rfl ?_ ?_ <;> intro c <;> try simp only [qa] at c
  ·omega
  refine dt (fj (df ?_))
  exact wP (d9  hres) rfl
 | succ m ih =>
  intro a0 d5 b3 hres
  rw [my] at hres
  refine bw (ah (sR (mV rfl (gL (aa.g_Tables r0) rfl rfl rfl fun e3 b5 => (ab (cw rfl (cg b5 Tryz.underlying26 _)) (bN cy rfl rfl (nS ?_)))))))
  refine bc rfl ?_ ?_ <;> intro c <;> try simp only [qa] at c
  rotate_left
  ·omega
  refine ay (ai (ah (bf (sR (gL (aa.g_Tables r0) rfl rfl rfl fun e5 c3 => (mV rfl ?_))))))
  obtain ⟨e4, c1, d2⟩ := dk (i := a0) c3 (by first | omega | (have hk := bn (by assumption) (by assumption); omega) | (have hk := tck (by assumption) (by assumption); omega) | (have hk := rtck (by assumption) (by assumption); omega) | (have hk := eck (by assumption) (by assumption) (by assumption); omega) | (have hk := tv (by assumption) (by assumption); omega) | (have hk := rtv (by assumption) (by assumption); omega)) (by first | omega | (have hk := bn (by assumption) (by assumption); omega) | (have hk := tck (by assumption) (by assumption); omega) | (have hk := rtck (by assumption) (by assumption); omega) | (have hk := eck (by assumption) (by assumption) (by assumption); omega) | (have hk := tv (by assumption) (by assumption); omega) | (have hk := rtv (by assumption) (by assumption); omega))
  refine ab (bp rfl rfl c1) (gL (ax.g_Keys d2) rfl rfl rfl fun d6 c9 => (ab (cw rfl (cg c9 Tryz.underlying85 _)) (bN ig rfl rfl (mV rfl ?_))))
  refine cp 9 (d := 110) (v := vb ((decide (10 < (((ix x0.Tables a0).Keys).length : Int))) || (decide (24 < (((ix x0.Tables a0).Actions).length : Int))))) ?_ ?_
  ·intro S Q r
   cases b1 : (decide (10 < (((ix x0.Tables a0).Keys).length : Int)))
   ·intro k
    have a9 := b1
    try simp only [qa] at a9
    obtain ⟨d7, d1, a5⟩ := aa.g_Tables r0
    refine ak rfl rfl (ck rfl d1) (ak rfl rfl (bt rfl (TR.cnt (tSl ax.t) a5) (TR.agg (tSl ax.t) a5)) (ak rfl rfl (au rfl) ?_))
    obtain ⟨e1, d0, c5⟩ := dk (i := a0) a5 (by first | omega | (have hk := bn (by assumption) (by assumption); omega) | (have hk := tck (by assumption) (by assumption); omega) | (have hk := rtck (by assumption) (by assumption); omega) | (have hk := eck (by assumption) (by assumption) (by assumption); omega) | (have hk := tv (by assumption) (by assumption); omega) | (have hk := rtv (by assumption) (by assumption); omega)) (by first | omega | (have hk := bn (by assumption) (by assumption); omega) | (have hk := tck (by assumption) (by assumption); omega) | (have hk := rtck (by assumption) (by assumption); omega) | (have hk := eck (by assumption) (by assumption) (by assumption); omega) | (have hk := tv (by assumption) (by assumption); omega) | (have hk := rtv (by assumption) (by assumption); omega))
    refine ak rfl rfl (bp rfl rfl d0) ?_
    obtain ⟨e6, c8, a1⟩ := ax.g_Actions c5
    refine ak rfl rfl (ck rfl c8) (ak rfl rfl (bt rfl (TR.cnt (tSl tI) a1) (TR.agg (tSl tI) a1)) (ak rfl rfl (cw rfl (cg a1 Tryz.underlying29 _)) (ak rfl rfl (az rfl rfl ig) ?_)))
    exact gK rfl rfl rfl rfl rfl k
   ·exact gN 8 rfl rfl rfl rfl rfl rfl
  refine mV rfl ?_
  refine cp 10 (d := 121) (v := vb (((decide (10 < (((ix x0.Tables a0).Keys).length : Int))) || (decide (24 < (((ix x0.Tables a0).Actions).length : Int)))) || (decide (8 < ((((ix x0.Tables a0).Default).Args).length : Int))))) ?_ ?_
  ·intro S Q r
   cases b2 : ((decide (10 < (((ix x0.Tables a0).Keys).length : Int))) || (decide (24 < (((ix x0.Tables a0).Actions).length : Int))))
   ·intro k
    have a4 := b2
    try simp only [qa] at a4
    obtain ⟨f0, c6, a3⟩ := aa.g_Tables r0
    refine ak rfl rfl (ck rfl c6) (ak rfl rfl (bt rfl (TR.cnt (tSl ax.t) a3) (TR.agg (tSl ax.t) a3)) (ak rfl rfl (au rfl) ?_))
    obtain ⟨e9, b8, b7⟩ := dk (i := a0) a3 (by first | omega | (have hk := bn (by assumption) (by assumption); omega) | (have hk := tck (by assumption) (by assumption); omega) | (have hk := rtck (by assumption) (by assumption); omega) | (have hk := eck (by assumption) (by assumption) (by assumption); omega) | (have hk := tv (by assumption) (by assumption); omega) | (have hk := rtv (by assumption) (by assumption); omega)) (by first | omega | (have hk := bn (by assumption) (by assumption); omega) | (have hk := tck (by assumption) (by assumption); omega) | (have hk := rtck (by assumption) (by assumption); omega) | (have hk := eck (by assumption) (by assumption) (by assumption); omega) | (have hk := tv (by assumption) (by assumption); omega) | (have hk := rtv (by assumption) (by assumption); omega))
    refine ak rfl rfl (bp rfl rfl b8) ?_
    obtain ⟨d8, c4, c0⟩ := ax.g_Default b7
    refine ak rfl rfl (ck rfl c4) ?_
    obtain ⟨e7, b9, a7⟩ := bb.g_Args c0
    refine ak rfl rfl (ck rfl b9) (ak rfl rfl (bt rfl (TR.cnt (tSl nq) a7) (TR.agg (tSl nq) a7)) (ak rfl rfl (cw rfl (cg a7 Tryz.underlying33 _)) (ak rfl rfl (az rfl rfl ig) ?_)))
    exact gK rfl rfl rfl rfl rfl k
   ·exact gN 9 rfl rfl rfl rfl rfl rfl
  refine mV rfl ?_
  refine cp 9 (d := 131) (v := vb ((((decide (10 < (((ix x0.Tables a0).Keys).length : Int))) || (decide (24 < (((ix x0.Tables a0).Actions).length : Int)))) || (decide (8 < ((((ix x0.Tables a0).Default).Args).length : Int)))) || (decide (60 < (((ix x0.Tables a0).Name).length : Int))))) ?_ ?_
  ·intro S Q r
   cases b4 : (((decide (10 < (((ix x0.Tables a0).Keys).length : Int))) || (decide (24 < (((ix x0.Tables a0).Actions).length : Int)))) || (decide (8 < ((((ix x0.Tables a0).Default).Args).length : Int))))
   ·intro k
    have a8 := b4
    try simp only [qa] at a8
    obtain ⟨e2, b6, a6⟩ := aa.g_Tables r0
    refine ak rfl rfl (ck rfl b6) (ak rfl rfl (bt rfl (TR.cnt (tSl ax.t) a6) (TR.agg (tSl ax.t) a6)) (ak rfl rfl (au rfl) ?_))
    obtain ⟨e0, d4, d3⟩ := dk (i := a0) a6 (by first | omega | (have hk := bn (by assumption) (by assumption); omega) | (have hk := tck (by assumption) (by assumption); omega) | (have hk := rtck (by assumption) (by assumption); omega) | (have hk := eck (by assumption) (by assumption) (by assumption); omega) | (have hk := tv (by assumption) (by assumption); omega) | (have hk := rtv (by assumption) (by assumption); omega)) (by first | omega | (have hk := bn (by assumption) (by assumption); omega) | (have hk := tck (by assumption) (by assumption); omega) | (have hk := rtck (by assumption) (by assumption); omega) | (have hk := eck (by assumption) (by assumption) (by assumption); omega) | (have hk := tv (by assumption) (by assumption); omega) | (have hk := rtv (by assumption) (by assumption); omega))
    refine ak rfl rfl (bp rfl rfl d4) (ak rfl rfl (ck rfl (ax.g_Name d3)) (ak rfl rfl (bt rfl rfl rfl) (ak rfl rfl (cw rfl (pf Tryz.underlying9)) (ak rfl rfl (az rfl rfl ig) ?_))))
    exact gK rfl rfl rfl rfl rfl k
   ·exact gN 8 rfl rfl rfl rfl rfl rfl
  refine nS ?_
  refine dg hres rfl ?_ ?_ <;> clear hres <;> intro c hres <;> try simp only [qa] at c
  ·refine sR (mB rfl (nS ?_))
   exact rR hres rfl rfl rfl
  ·refine ay (dh (ai (af (mV rfl (bN fa rfl rfl (mV rfl (av (cx ?_))))))))
   have hbd := ee b5
   have hinc : wr (a0 + 1) = a0 + 1 := dm (by omega) (by omega)
   erw [hinc]
   exact wC (ih   (by omega) (by omega) hres) rfl

theorem yc {S : List Fr} {res : Bool} {x0 : aa} {v0 : PV} (r0 : aa.t.R x0 v0) (a5 : (((((((((decide (60 < (x0.Name.length : Int))) || (decide (16 < (x0.Headers.length : Int)))) || (decide (20 < (x0.Metadata.length : Int)))) || (decide (8 < (x0.Registers.length : Int)))) || (decide (24 < (x0.Actions.length : Int)))) || (decide (16 < (x0.Tables.length : Int)))) || (decide (16 < (x0.States.length : Int)))) || (decide (16 < (x0.Deparser.length : Int)))) || (decide (60 < (pv x0.Control 10)))) = false) {K6 : Unit → Bool}
  (b5 : K6 () = res → PX Tryz.prog 6 S (QR Tryz.prog [(2, none)] (RF27 res)) [] ⟨0, []⟩) :
  ∀ {m : Nat} {a0 : Int} (b1 : m = Int.toNat ((x0.States.length : Int) - a0)) (a7 : 0 ≤ a0), mw x0 K6 m a0 = res → RC Tryz.prog (.loop cw3) S (QR Tryz.prog [(2, none)] (RF27 res)) [(6, vi a0), (1, .fp v0)] ⟨0, []⟩ := by
 have a1 := a5
 try simp only [qa] at a1
 intro m
 induction m with
 | zero =>
  intro a0 b1 a7 hres
  rw [mw] at hres
  refine bw (ah (sR (mV rfl (gL (aa.g_States r0) rfl rfl rfl fun b4 a9 => (ab (cw rfl (cg a9 Tryz.underlying27 _)) (bN cy rfl rfl (nS ?_)))))))
  refine bc rfl ?_ ?_ <;> intro c <;> try simp only [qa] at c
  ·omega
  refine dt (fj (df ?_))
  exact wP (b5  hres) rfl
 | succ m ih =>
  intro a0 b1 a7 hres
  rw [mw] at hres
  refine bw (ah (sR (mV rfl (gL (aa.g_States r0) rfl rfl rfl fun b7 a4 => (ab (cw rfl (cg a4 Tryz.underlying27 _)) (bN cy rfl rfl (nS ?_)))))))
  refine bc rfl ?_ ?_ <;> intro c <;> try simp only [qa] at c
  rotate_left
  ·omega
  refine ay (ai (ah (bf (sR (gL (aa.g_States r0) rfl rfl rfl fun b3 b0 => (mV rfl ?_))))))
  obtain ⟨b2, a8, a2⟩ := dk (i := a0) b0 (by first | omega | (have hk := bn (by assumption) (by assumption); omega) | (have hk := tck (by assumption) (by assumption); omega) | (have hk := rtck (by assumption) (by assumption); omega) | (have hk := eck (by assumption) (by assumption) (by assumption); omega) | (have hk := tv (by assumption) (by assumption); omega) | (have hk := rtv (by assumption) (by assumption); omega)) (by first | omega | (have hk := bn (by assumption) (by assumption); omega) | (have hk := tck (by assumption) (by assumption); omega) | (have hk := rtck (by assumption) (by assumption); omega) | (have hk := eck (by assumption) (by assumption) (by assumption); omega) | (have hk := tv (by assumption) (by assumption); omega) | (have hk := rtv (by assumption) (by assumption); omega))
  refine ab (bp rfl rfl a8) (lD a2 rfl rfl rfl ?_)
  obtain ⟨b6, a6, hres⟩ := dl hres
  have a3 := dp7  a2 
  rw [a6] at a3
  refine cL a3 rfl rfl (aq (TR.clo cv.t a2) bh) (nS ?_)
  refine dg hres rfl ?_ ?_ <;> clear hres <;> intro c hres <;> try simp only [qa] at c
  ·refine sR (mB rfl (nS ?_))
   exact rR hres rfl rfl rfl
  ·refine ay (dh (ai (af (mV rfl (bN fa rfl rfl (mV rfl (av (cx ?_))))))))
   have hbd := ee a4
   have hinc : wr (a0 + 1) = a0 + 1 := dm (by omega) (by omega)
   erw [hinc]
   exact wC (ih   (by omega) (by omega) hres) rfl

theorem dq0 {x0 : aa} {v0 : PV} (r0 : aa.t.R x0 v0) : FnR Tryz.prog 27 [v0] (vb (nj x0)) := by
 refine fnS (R := RF27) dw7 (fun _ h => h) rfl fun res hres => ?_
 unfold nj at hres
 refine sR (ab (dz rfl (TR.cnt aa.t r0)) (mB rfl (nS (ah (sR (fL rfl (aa.g_Name r0) rfl rfl (ab (cw rfl (pf Tryz.underlying9)) (bN ig rfl rfl ?_))))))))
 refine mV rfl ?_
 refine cp 5 (d := 16) (v := vb ((decide (60 < (x0.Name.length : Int))) || (decide (16 < (x0.Headers.length : Int))))) ?_ ?_
 ·intro S Q r
  cases c3 : (decide (60 < (x0.Name.length : Int)))
  ·intro k
   have a7 := c3
   try simp only [qa] at a7
   obtain ⟨d7, d4, a6⟩ := aa.g_Headers r0
   refine ak rfl rfl (ck rfl d4) (ak rfl rfl (bt rfl (TR.cnt (tSl ct.t) a6) (TR.agg (tSl ct.t) a6)) (ak rfl rfl (cw rfl (cg a6 Tryz.underlying22 _)) (ak rfl rfl (az rfl rfl ig) ?_)))
   exact gK rfl rfl rfl rfl rfl k
  ·exact gN 4 rfl rfl rfl rfl rfl rfl
 refine mV rfl ?_
 refine cp 5 (d := 22) (v := vb (((decide (60 < (x0.Name.length : Int))) || (decide (16 < (x0.Headers.length : Int)))) || (decide (20 < (x0.Metadata.length : Int))))) ?_ ?_
 ·intro S Q r
  cases c6 : ((decide (60 < (x0.Name.length : Int))) || (decide (16 < (x0.Headers.length : Int))))
  ·intro k
   have a4 := c6
   try simp only [qa] at a4
   obtain ⟨e1, d1, a5⟩ := aa.g_Metadata r0
   refine ak rfl rfl (ck rfl d1) (ak rfl rfl (bt rfl (TR.cnt (tSl bz.t) a5) (TR.agg (tSl bz.t) a5)) (ak rfl rfl (cw rfl (cg a5 Tryz.underlying23 _)) (ak rfl rfl (az rfl rfl ig) ?_)))
   exact gK rfl rfl rfl rfl rfl k
  ·exact gN 4 rfl rfl rfl rfl rfl rfl
 refine mV rfl ?_
 refine cp 5 (d := 28) (v := vb ((((decide (60 < (x0.Name.length : Int))) || (decide (16 < (x0.Headers.length : Int)))) || (decide (20 < (x0.Metadata.length : Int)))) || (decide (8 < (x0.Registers.length : Int))))) ?_ ?_
 ·intro S Q r
  cases c0 : (((decide (60 < (x0.Name.length : Int))) || (decide (16 < (x0.Headers.length : Int)))) || (decide (20 < (x0.Metadata.length : Int))))
  ·intro k
   have b3 := c0
   try simp only [qa] at b3
   obtain ⟨e0, d2, b6⟩ := aa.g_Registers r0
   refine ak rfl rfl (ck rfl d2) (ak rfl rfl (bt rfl (TR.cnt (tSl fq.t) b6) (TR.agg (tSl fq.t) b6)) (ak rfl rfl (cw rfl (cg b6 Tryz.underlying24 _)) (ak rfl rfl (az rfl rfl ig) ?_)))
   exact gK rfl rfl rfl rfl rfl k
  ·exact gN 4 rfl rfl rfl rfl rfl rfl
 refine mV rfl ?_
 refine cp 5 (d := 34) (v := vb (((((decide (60 < (x0.Name.length : Int))) || (decide (16 < (x0.Headers.length : Int)))) || (decide (20 < (x0.Metadata.length : Int)))) || (decide (8 < (x0.Registers.length : Int)))) || (decide (24 < (x0.Actions.length : Int))))) ?_ ?_
 ·intro S Q r
  cases b8 : ((((decide (60 < (x0.Name.length : Int))) || (decide (16 < (x0.Headers.length : Int)))) || (decide (20 < (x0.Metadata.length : Int)))) || (decide (8 < (x0.Registers.length : Int))))
  ·intro k
   have b5 := b8
   try simp only [qa] at b5
   obtain ⟨d6, c9, a3⟩ := aa.g_Actions r0
   refine ak rfl rfl (ck rfl c9) (ak rfl rfl (bt rfl (TR.cnt (tSl cz.t) a3) (TR.agg (tSl cz.t) a3)) (ak rfl rfl (cw rfl (cg a3 Tryz.underlying25 _)) (ak rfl rfl (az rfl rfl ig) ?_)))
   exact gK rfl rfl rfl rfl rfl k
  ·exact gN 4 rfl rfl rfl rfl rfl rfl
 refine mV rfl ?_
 refine cp 5 (d := 40) (v := vb ((((((decide (60 < (x0.Name.length : Int))) || (decide (16 < (x0.Headers.length : Int)))) || (decide (20 < (x0.Metadata.length : Int)))) || (decide (8 < (x0.Registers.length : Int)))) || (decide (24 < (x0.Actions.length : Int)))) || (decide (16 < (x0.Tables.length : Int))))) ?_ ?_
 ·intro S Q r
  cases b9 : (((((decide (60 < (x0.Name.length : Int))) || (decide (16 < (x0.Headers.length : Int)))) || (decide (20 < (x0.Metadata.length : Int)))) || (decide (8 < (x0.Registers.length : Int)))) || (decide (24 < (x0.Actions.length : Int))))
  ·intro k
   have b2 := b9
   try simp only [qa] at b2
   obtain ⟨e2, d0, a9⟩ := aa.g_Tables r0
   refine ak rfl rfl (ck rfl d0) (ak rfl rfl (bt rfl (TR.cnt (tSl ax.t) a9) (TR.agg (tSl ax.t) a9)) (ak rfl rfl (cw rfl (cg a9 Tryz.underlying26 _)) (ak rfl rfl (az rfl rfl ig) ?_)))
   exact gK rfl rfl rfl rfl rfl k
  ·exact gN 4 rfl rfl rfl rfl rfl rfl
 refine mV rfl ?_
 refine cp 5 (d := 46) (v := vb (((((((decide (60 < (x0.Name.length : Int))) || (decide (16 < (x0.Headers.length : Int)))) || (decide (20 < (x0.Metadata.length : Int)))) || (decide (8 < (x0.Registers.length : Int)))) || (decide (24 < (x0.Actions.length : Int)))) || (decide (16 < (x0.Tables.length : Int)))) || (decide (16 < (x0.States.length : Int))))) ?_ ?_
 ·intro S Q r
  cases c1 : ((((((decide (60 < (x0.Name.length : Int))) || (decide (16 < (x0.Headers.length : Int)))) || (decide (20 < (x0.Metadata.length : Int)))) || (decide (8 < (x0.Registers.length : Int)))) || (decide (24 < (x0.Actions.length : Int)))) || (decide (16 < (x0.Tables.length : Int))))
  ·intro k
   have b7 := c1
   try simp only [qa] at b7
   obtain ⟨d8, d3, b0⟩ := aa.g_States r0
   refine ak rfl rfl (ck rfl d3) (ak rfl rfl (bt rfl (TR.cnt (tSl cv.t) b0) (TR.agg (tSl cv.t) b0)) (ak rfl rfl (cw rfl (cg b0 Tryz.underlying27 _)) (ak rfl rfl (az rfl rfl ig) ?_)))
   exact gK rfl rfl rfl rfl rfl k
  ·exact gN 4 rfl rfl rfl rfl rfl rfl
 refine mV rfl ?_
 refine cp 5 (d := 52) (v := vb ((((((((decide (60 < (x0.Name.length : Int))) || (decide (16 < (x0.Headers.length : Int)))) || (decide (20 < (x0.Metadata.length : Int)))) || (decide (8 < (x0.Registers.length : Int)))) || (decide (24 < (x0.Actions.length : Int)))) || (decide (16 < (x0.Tables.length : Int)))) || (decide (16 < (x0.States.length : Int)))) || (decide (16 < (x0.Deparser.length : Int))))) ?_ ?_
 ·intro S Q r
  cases c5 : (((((((decide (60 < (x0.Name.length : Int))) || (decide (16 < (x0.Headers.length : Int)))) || (decide (20 < (x0.Metadata.length : Int)))) || (decide (8 < (x0.Registers.length : Int)))) || (decide (24 < (x0.Actions.length : Int)))) || (decide (16 < (x0.Tables.length : Int)))) || (decide (16 < (x0.States.length : Int))))
  ·intro k
   have b1 := c5
   try simp only [qa] at b1
   obtain ⟨e3, c8, a8⟩ := aa.g_Deparser r0
   refine ak rfl rfl (ck rfl c8) (ak rfl rfl (bt rfl (TR.cnt (tSl tI) a8) (TR.agg (tSl tI) a8)) (ak rfl rfl (cw rfl (cg a8 Tryz.underlying29 _)) (ak rfl rfl (az rfl rfl ig) ?_)))
   exact gK rfl rfl rfl rfl rfl k
  ·exact gN 4 rfl rfl rfl rfl rfl rfl
 refine mV rfl ?_
 refine cp 5 (d := 58) (v := vb (((((((((decide (60 < (x0.Name.length : Int))) || (decide (16 < (x0.Headers.length : Int)))) || (decide (20 < (x0.Metadata.length : Int)))) || (decide (8 < (x0.Registers.length : Int)))) || (decide (24 < (x0.Actions.length : Int)))) || (decide (16 < (x0.Tables.length : Int)))) || (decide (16 < (x0.States.length : Int)))) || (decide (16 < (x0.Deparser.length : Int)))) || (decide (60 < (pv x0.Control 10))))) ?_ ?_
 ·intro S Q r
  cases c4 : ((((((((decide (60 < (x0.Name.length : Int))) || (decide (16 < (x0.Headers.length : Int)))) || (decide (20 < (x0.Metadata.length : Int)))) || (decide (8 < (x0.Registers.length : Int)))) || (decide (24 < (x0.Actions.length : Int)))) || (decide (16 < (x0.Tables.length : Int)))) || (decide (16 < (x0.States.length : Int)))) || (decide (16 < (x0.Deparser.length : Int))))
  ·intro k
   have b4 := c4
   try simp only [qa] at b4
   obtain ⟨d9, d5, a1⟩ := aa.g_Control r0
   refine ak rfl rfl (ck rfl d5) (ak rfl rfl (bt rfl (TR.cnt (tSl aj.t) a1) (TR.agg (tSl aj.t) a1)) ?_)
   have c7 := dw0 (x1 := 10) a1 (by first | assumption | omega | (have := rv (by assumption) (by assumption); omega) | (rw [dm (by omega) (by omega)]; omega) | (simp only [List.length_cons, List.length_nil]; omega)) (by first | assumption | omega | (have := rv (by assumption) (by assumption); omega) | (rw [dm (by omega) (by omega)]; omega) | (simp only [List.length_cons, List.length_nil]; omega))
   refine mq rfl rfl (vd rfl rfl (aq (TR.clo (tSl aj.t) a1) (aq rfl bh)) c7) (ak rfl rfl (az rfl rfl ig) ?_)
   exact gK rfl rfl rfl rfl rfl k
  ·exact gN 4 rfl rfl rfl rfl rfl rfl
 refine nS ?_
 refine dg hres rfl ?_ ?_ <;> clear hres <;> intro a0 hres <;> have a2 := a0 <;> try simp only [qa] at a2
 ·refine sR (mB rfl (nS ?_))
  exact rR hres rfl rfl rfl
 ·refine ay (ai (ah (sR (mI rfl (nS (bf ?_))))))
  refine wC (xv r0 a0 ?_  rfl (by omega) hres) rfl
  ·intro  hres
   refine ft (ai (ah (sR (mI rfl (nS (bf ?_))))))
   refine wC (yf r0 a0 ?_  rfl (by omega) hres) rfl
   ·intro  hres
    refine ft (ai (ah (sR (mI rfl (nS (bf ?_))))))
    refine wC (yl r0 a0 ?_  rfl (by omega) hres) rfl
    ·intro  hres
     refine ft (ai (ah (sR (mI rfl (nS (bf ?_))))))
     refine wC (yc r0 a0 ?_  rfl (by omega) hres) rfl
     ·intro  hres
      refine ft (ai (sR (mB rfl (nS ?_))))
      exact rR hres rfl rfl rfl

end Go.Proofs.YthdnpgpnodgicaaGreat
