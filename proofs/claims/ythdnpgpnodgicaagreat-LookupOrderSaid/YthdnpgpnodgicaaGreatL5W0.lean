/-
 The code of each function does what its plain program says.
-/
import Derived.Test.YthdnpgpnodgicaaGreatKDef
import Derived.Test.YthdnpgpnodgicaaGreatL5Text
import Derived.Test.YthdnpgpnodgicaaGreatPbV
import Derived.Test.YthdnpgpnodgicaaGreatKFoOrOx
import Derived.Test.YthdnpgpnodgicaaGreatL5Run
set_option linter.unusedVariables false
set_option linter.unusedSimpArgs false
set_option maxRecDepth 100000
namespace Go.Proofs.YthdnpgpnodgicaaGreat
open Go Go.Pb Go.RowKit
def RF63 (res : Int) (r : PV) : Prop := r = vi res
theorem yf {S : List Fr} {res : Int} {x0 : List ak} {x1 : Int} {rec_ : (List ak) → Int → Int} {mu_ : Nat} {v0 : PV} (r0 : (tSl ak.t).R x0 v0) (hd : 0 ≤ x1) (d2 : x1 ≤ 100) (ihR : ∀ {z0 : List ak} {z1 : Int} {c6 : PV} (d7 : (tSl ak.t).R z0 c6) (hd : 0 ≤ z1) (d2 : z1 ≤ 100), z1.toNat < mu_ → FnR Tryz.prog 63 [c6, vi z1] (vi (rec_ z0 z1))) (hmu : mu_ = x1.toNat) {K0 : Int → Int}
  (c5 : ∀ {a1 : Int}, K0 a1 = res → PX Tryz.prog 0 S (QR Tryz.prog [(4, none)] (RF63 res)) [(5, vi a1)] ⟨0, []⟩) :
  ∀ {m : Nat} {a1 a0 : Int} (c7 : m = Int.toNat ((x0.length : Int) - a0)) (a8 : 0 ≤ a0), nl x0 x1 rec_ K0 m a1 a0 = res → RC Tryz.prog (.loop cj5) S (QR Tryz.prog [(4, none)] (RF63 res)) [(6, vi a0), (5, vi a1), (1, vi x1), (0, v0)] ⟨0, []⟩ := by
 intro m
 induction m with
 | zero =>
  intro a1 a0 c7 a8 hres
  rw [nl] at hres
  refine bq (ae (sR (mV rfl (mV rfl (ab (cd rfl (br r0 Tryz.underlying28 _)) (bN co rfl rfl (mV rfl ?_)))))))
  refine bv 3 (d := 16) (v := vb ((decide (a0 < (x0.length : Int))) && (decide (a1 < 100)))) ?_ ?_
  ·intro S Q r
   cases b2 : (decide (a0 < (x0.length : Int)))
   ·exact gN 2 rfl rfl rfl rfl rfl rfl
   ·intro k
    have a2 := b2
    try simp only [qa] at a2
    refine ai rfl rfl (am rfl) (ai rfl rfl (bd rfl rfl co) ?_)
    exact gK rfl rfl rfl rfl rfl k
  refine nS ?_
  refine bg rfl ?_ ?_ <;> intro c <;> try simp only [qa] at c
  ·omega
  refine dm (dx (cy ?_))
  exact wP (c5  hres) rfl
 | succ m ih =>
  intro a1 a0 c7 a8 hres
  rw [nl] at hres
  refine bq (ae (sR (mV rfl (mV rfl (ab (cd rfl (br r0 Tryz.underlying28 _)) (bN co rfl rfl (mV rfl ?_)))))))
  refine bv 3 (d := 16) (v := vb ((decide (a0 < (x0.length : Int))) && (decide (a1 < 100)))) ?_ ?_
  ·intro S Q r
   cases b5 : (decide (a0 < (x0.length : Int)))
   ·exact gN 2 rfl rfl rfl rfl rfl rfl
   ·intro k
    have a4 := b5
    try simp only [qa] at a4
    refine ai rfl rfl (am rfl) (ai rfl rfl (bd rfl rfl co) ?_)
    exact gK rfl rfl rfl rfl rfl k
  refine nS ?_
  refine cq hres rfl ?_ ?_ <;> clear hres <;> intro c hres <;> try simp only [qa] at c
  ·refine az (af (ae (bf (ae (sR (mV rfl (bN lh rfl rfl (mV rfl ?_))))))))
   refine bv 8 (d := 29) (v := vb ((decide (x1 = 0)) || (decide (40 < (((ix x0 a0).Cond).length : Int))))) ?_ ?_
   ·intro S Q r
    cases b4 : (decide (x1 = 0))
    ·intro k
     have a3 := b4
     try simp only [qa] at a3
     refine ai rfl rfl (am rfl) (ai rfl rfl (am rfl) ?_)
     obtain ⟨d3, b7, c1⟩ := cx (i := a0) r0 (by first | omega | (have hk := bb (by assumption) (by assumption); omega) | (have hk := tck (by assumption) (by assumption); omega) | (have hk := rtck (by assumption) (by assumption); omega) | (have hk := eck (by assumption) (by assumption) (by assumption); omega) | (have hk := tv (by assumption) (by assumption); omega) | (have hk := rtv (by assumption) (by assumption); omega)) (by first | omega | (have hk := bb (by assumption) (by assumption); omega) | (have hk := tck (by assumption) (by assumption); omega) | (have hk := rtck (by assumption) (by assumption); omega) | (have hk := eck (by assumption) (by assumption) (by assumption); omega) | (have hk := tv (by assumption) (by assumption); omega) | (have hk := rtv (by assumption) (by assumption); omega))
     refine ai rfl rfl (bn rfl rfl b7) ?_
     obtain ⟨d6, c0, a5⟩ := ak.g_Cond c1
     refine ai rfl rfl (bc rfl c0) (ai rfl rfl (ba rfl (TR.cnt (tSl dv.t) a5) (TR.agg (tSl dv.t) a5)) (ai rfl rfl (cd rfl (br a5 Tryz.underlying163 _)) (ai rfl rfl (bd rfl rfl gi) ?_)))
     exact gK rfl rfl rfl rfl rfl k
    ·exact gN 7 rfl rfl rfl rfl rfl rfl
   refine nS ?_
   refine cq hres rfl ?_ ?_ <;> clear hres <;> intro c hres <;> try simp only [qa] at c
   ·refine sR (mI rfl (nS ?_))
    exact rR hres rfl rfl rfl
   ·refine az (af (ah (mV rfl (mV rfl (mV rfl ?_)))))
    obtain ⟨d5, b6, b9⟩ := cx (i := a0) r0 (by first | omega | (have hk := bb (by assumption) (by assumption); omega) | (have hk := tck (by assumption) (by assumption); omega) | (have hk := rtck (by assumption) (by assumption); omega) | (have hk := eck (by assumption) (by assumption) (by assumption); omega) | (have hk := tv (by assumption) (by assumption); omega) | (have hk := rtv (by assumption) (by assumption); omega)) (by first | omega | (have hk := bb (by assumption) (by assumption); omega) | (have hk := tck (by assumption) (by assumption); omega) | (have hk := rtck (by assumption) (by assumption); omega) | (have hk := eck (by assumption) (by assumption) (by assumption); omega) | (have hk := tv (by assumption) (by assumption); omega) | (have hk := rtv (by assumption) (by assumption); omega))
    refine ab (bn rfl rfl b6) ?_
    obtain ⟨d4, c4, a6⟩ := ak.g_Then b9
    refine fA rfl c4 (lD a6 rfl rfl rfl (mV rfl (bN aa5 rfl rfl ?_)))
    obtain ⟨c9, b1, hres⟩ := dc hres
    have b3 := ihR (z0 := (ix x0 a0).Then) (z1 := (wr (x1 - 1))) a6 (by first | assumption | omega | (have := rv (by assumption) (by assumption); omega) | (rw [dw (by omega) (by omega)]; omega)) (by first | assumption | omega | (have := rv (by assumption) (by assumption); omega) | (rw [dw (by omega) (by omega)]; omega)) (by (rw [dw (by omega) (by omega)]; omega))
    rw [b1] at b3
    refine cL b3 rfl rfl (aq (TR.clo (tSl ak.t) a6) (aq rfl bm)) (bN eg rfl rfl (mV rfl (mV rfl ?_)))
    obtain ⟨d0, b8, c3⟩ := cx (i := a0) r0 (by first | omega | (have hk := bb (by assumption) (by assumption); omega) | (have hk := tck (by assumption) (by assumption); omega) | (have hk := rtck (by assumption) (by assumption); omega) | (have hk := eck (by assumption) (by assumption) (by assumption); omega) | (have hk := tv (by assumption) (by assumption); omega) | (have hk := rtv (by assumption) (by assumption); omega)) (by first | omega | (have hk := bb (by assumption) (by assumption); omega) | (have hk := tck (by assumption) (by assumption); omega) | (have hk := rtck (by assumption) (by assumption); omega) | (have hk := eck (by assumption) (by assumption) (by assumption); omega) | (have hk := tv (by assumption) (by assumption); omega) | (have hk := rtv (by assumption) (by assumption); omega))
    refine ab (bn rfl rfl b8) (gL (ak.g_Else c3) rfl rfl rfl fun d1 a7 => (mV rfl (bN aa5 rfl rfl ?_)))
    obtain ⟨c8, a9, hres⟩ := dc hres
    have b0 := ihR (z0 := (ix x0 a0).Else) (z1 := (wr (x1 - 1))) a7 (by first | assumption | omega | (have := rv (by assumption) (by assumption); omega) | (rw [dw (by omega) (by omega)]; omega)) (by first | assumption | omega | (have := rv (by assumption) (by assumption); omega) | (rw [dw (by omega) (by omega)]; omega)) (by (rw [dw (by omega) (by omega)]; omega))
    rw [a9] at b0
    refine cL b0 rfl rfl (aq (TR.clo (tSl ak.t) a7) (aq rfl bm)) (bN eg rfl rfl (mV rfl (aw (dg (af (ah (mV rfl (bN eg rfl rfl ?_))))))))
    refine mV rfl (aw (ct ?_))
    have hbd := du r0
    have hinc : wr (a0 + 1) = a0 + 1 := dw (by omega) (by omega)
    erw [hinc]
    exact wC (ih   (by omega) (by omega) hres) rfl
  ·refine dm (dx (cy ?_))
   exact wP (c5  hres) rfl

theorem cr7 {rec_ : (List ak) → Int → Int} {mu_ : Nat} {x0 : List ak} {x1 : Int} {v0 : PV} (r0 : (tSl ak.t).R x0 v0) (hd : 0 ≤ x1) (a2 : x1 ≤ 100) (hmu : mu_ = x1.toNat) (ihR : ∀ {z0 : List ak} {z1 : Int} {a1 : PV} (a3 : (tSl ak.t).R z0 a1) (hd : 0 ≤ z1) (a2 : z1 ≤ 100), z1.toNat < mu_ → FnR Tryz.prog 63 [a1, vi z1] (vi (rec_ z0 z1))) : FnR Tryz.prog 63 [v0, vi x1] (vi (pv rec_ x0 x1)) := by
 refine fnS (R := RF63) dm3 (fun _ h => h) rfl fun res hres => ?_
 unfold pv at hres
 refine sR (mI rfl (nR (mV rfl (ab (cd rfl (br r0 Tryz.underlying28 _)) (mV rfl (nS (ae (sR ?_))))))))
 refine mI rfl (nS (bf ?_))
 refine wC (yf r0 hd a2 ihR hmu ?_  rfl (by omega) hres) rfl
 ·intro a0 hres
  refine fd (af (sR (mV rfl (mV rfl (nS ?_)))))
  exact rR hres rfl rfl rfl
theorem cq7 : ∀ (n_ : Nat) {x0 : List ak} {x1 : Int} {v0 : PV} (r0 : (tSl ak.t).R x0 v0) (hd : 0 ≤ x1) (a0 : x1 ≤ 100), x1.toNat < n_ → FnR Tryz.prog 63 [v0, vi x1] (vi (na n_ x0 x1)) := by
 intro n_
 induction n_ with
 | zero => intros; rename_i hlt; exact absurd hlt (Nat.not_lt_zero _)
 | succ n_ ihn =>
  intro x0 x1 v0 r0 hd a0 hlt
  have e_ : na (n_ + 1) x0 x1 = pv (na n_) x0 x1 := by rw [na]
  rw [e_]
  exact cr7 r0 hd a0 rfl (fun {z0} {z1} {zv0} zr0 hd a0 hz => ihn zr0 hd a0 (by omega))
theorem db7 {x0 : List ak} {x1 : Int} {v0 : PV} (r0 : (tSl ak.t).R x0 v0) (hd : 0 ≤ x1) (a0 : x1 ≤ 100) : FnR Tryz.prog 63 [v0, vi x1] (vi (nf x0 x1)) := cq7 _ r0 hd a0 (Nat.lt_succ_self _)

def RF64 (res : Bool) (r : PV) : Prop := r = vb res
theorem xx {S : List Fr} {res : Bool} {x0 : cj} {v0 : PV} (r0 : cj.t.R x0 v0) (a4 : ((decide (30 < (x0.Name.length : Int))) || (decide (20 < (x0.Fields.length : Int)))) = false) {K0 : Unit → Bool}
  (b3 : K0 () = res → PX Tryz.prog 0 S (QR Tryz.prog [(2, none)] (RF64 res)) [] ⟨0, []⟩) :
  ∀ {m : Nat} {a0 : Int} (b1 : m = Int.toNat ((x0.Fields.length : Int) - a0)) (a3 : 0 ≤ a0), nk x0 K0 m a0 = res → RC Tryz.prog (.loop cr8) S (QR Tryz.prog [(2, none)] (RF64 res)) [(3, vi a0), (1, .fp v0)] ⟨0, []⟩ := by
 have a2 := a4
 try simp only [qa] at a2
 intro m
 induction m with
 | zero =>
  intro a0 b1 a3 hres
  rw [nk] at hres
  refine bq (ae (sR (mV rfl (gL (cj.g_Fields r0) rfl rfl rfl fun b2 b0 => (ab (cd rfl (br b0 Tryz.underlying23 _)) (bN co rfl rfl (nS ?_)))))))
  refine bg rfl ?_ ?_ <;> intro c <;> try simp only [qa] at c
  ·omega
  refine dm (dx (cy ?_))
  exact wP (b3  hres) rfl
 | succ m ih =>
  intro a0 b1 a3 hres
  rw [nk] at hres
  refine bq (ae (sR (mV rfl ?_)))
  obtain ⟨b4, a7, a1⟩ := cj.g_Fields r0
  refine fA rfl a7 (lD a1 rfl rfl rfl (ab (cd rfl (br a1 Tryz.underlying23 _)) (bN co rfl rfl (nS ?_))))
  refine bg rfl ?_ ?_ <;> intro c <;> try simp only [qa] at c
  rotate_left
  ·omega
  refine az (af (ae (bf (sR ?_))))
  obtain ⟨b6, a9, a5⟩ := cj.g_Fields r0
  refine fA rfl a9 (lD a5 rfl rfl rfl (mV rfl ?_))
  obtain ⟨b5, a6, a8⟩ := cx (i := a0) a5 (by first | omega | (have hk := bb (by assumption) (by assumption); omega) | (have hk := tck (by assumption) (by assumption); omega) | (have hk := rtck (by assumption) (by assumption); omega) | (have hk := eck (by assumption) (by assumption) (by assumption); omega) | (have hk := tv (by assumption) (by assumption); omega) | (have hk := rtv (by assumption) (by assumption); omega)) (by first | omega | (have hk := bb (by assumption) (by assumption); omega) | (have hk := tck (by assumption) (by assumption); omega) | (have hk := rtck (by assumption) (by assumption); omega) | (have hk := eck (by assumption) (by assumption) (by assumption); omega) | (have hk := tv (by assumption) (by assumption); omega) | (have hk := rtv (by assumption) (by assumption); omega))
  refine ab (bn rfl rfl a6) (fL rfl (bw.g_Name a8) rfl rfl (ab (cd rfl (nb Tryz.underlying9)) (bN gi rfl rfl (nS ?_))))
  refine cq hres rfl ?_ ?_ <;> clear hres <;> intro c hres <;> try simp only [qa] at c
  ·refine sR (mB rfl (nS ?_))
   exact rR hres rfl rfl rfl
  ·refine az (dg (af (ah (mV rfl (bN eg rfl rfl (mV rfl (aw (ct ?_))))))))
   have hbd := du a1
   have hinc : wr (a0 + 1) = a0 + 1 := dw (by omega) (by omega)
   erw [hinc]
   exact wC (ih   (by omega) (by omega) hres) rfl

theorem da6 {x0 : cj} {v0 : PV} (r0 : cj.t.R x0 v0) : FnR Tryz.prog 64 [v0] (vb (uh x0)) := by
 refine fnS (R := RF64) dm1 (fun _ h => h) rfl fun res hres => ?_
 unfold uh at hres
 refine sR (ab (dh rfl (TR.cnt cj.t r0)) (mB rfl (nS (ae (sR (fL rfl (cj.g_Name r0) rfl rfl (ab (cd rfl (nb Tryz.underlying9)) (bN gi rfl rfl ?_))))))))
 refine mV rfl ?_
 refine bv 5 (d := 13) (v := vb ((decide (30 < (x0.Name.length : Int))) || (decide (20 < (x0.Fields.length : Int))))) ?_ ?_
 ·intro S Q r
  cases a4 : (decide (30 < (x0.Name.length : Int)))
  ·intro k
   have a1 := a4
   try simp only [qa] at a1
   obtain ⟨a6, a5, a3⟩ := cj.g_Fields r0
   refine ai rfl rfl (bc rfl a5) (ai rfl rfl (ba rfl (TR.cnt (tSl bw.t) a3) (TR.agg (tSl bw.t) a3)) (ai rfl rfl (cd rfl (br a3 Tryz.underlying23 _)) (ai rfl rfl (bd rfl rfl gi) ?_)))
   exact gK rfl rfl rfl rfl rfl k
  ·exact gN 4 rfl rfl rfl rfl rfl rfl
 refine nS ?_
 refine cq hres rfl ?_ ?_ <;> clear hres <;> intro a0 hres <;> have a2 := a0 <;> try simp only [qa] at a2
 ·refine sR (mB rfl (nS ?_))
  exact rR hres rfl rfl rfl
 ·refine az (af (ae (sR (mI rfl (nS (bf ?_))))))
  refine wC (xx r0 a0 ?_  rfl (by omega) hres) rfl
  ·intro  hres
   refine fd (af (sR (mB rfl (nS ?_))))
   exact rR hres rfl rfl rfl

def RF65 (res : Bool) (r : PV) : Prop := r = vb res
theorem sk {S : List Fr} {res : Bool} {x0 : cp} {v0 : PV} (r0 : cp.t.R x0 v0) (a6 : (((decide (8 < (x0.Params.length : Int))) || (decide (16 < (x0.Body.length : Int)))) || (decide (60 < (x0.Name.length : Int)))) = false) {K0 : Unit → Bool}
  (c3 : K0 () = res → PX Tryz.prog 0 S (QR Tryz.prog [(2, none)] (RF65 res)) [] ⟨0, []⟩) :
  ∀ {m : Nat} {a0 : Int} (b8 : m = Int.toNat ((x0.Body.length : Int) - a0)) (a5 : 0 ≤ a0), ka x0 K0 m a0 = res → RC Tryz.prog (.loop ct1) S (QR Tryz.prog [(2, none)] (RF65 res)) [(3, vi a0), (1, .fp v0)] ⟨0, []⟩ := by
 have a2 := a6
 try simp only [qa] at a2
 intro m
 induction m with
 | zero =>
  intro a0 b8 a5 hres
  rw [ka] at hres
  refine bq (ae (sR (mV rfl (gL (cp.g_Body r0) rfl rfl rfl fun c7 b2 => (ab (cd rfl (br b2 Tryz.underlying118 _)) (bN co rfl rfl (nS ?_)))))))
  refine bg rfl ?_ ?_ <;> intro c <;> try simp only [qa] at c
  ·omega
  refine dm (dx (cy ?_))
  exact wP (c3  hres) rfl
 | succ m ih =>
  intro a0 b8 a5 hres
  rw [ka] at hres
  refine bq (ae (sR (mV rfl (gL (cp.g_Body r0) rfl rfl rfl fun c8 a7 => (ab (cd rfl (br a7 Tryz.underlying118 _)) (bN co rfl rfl (nS ?_)))))))
  refine bg rfl ?_ ?_ <;> intro c <;> try simp only [qa] at c
  rotate_left
  ·omega
  refine az (af (ae (bf (sR (gL (cp.g_Body r0) rfl rfl rfl fun c6 b6 => (mV rfl ?_))))))
  obtain ⟨c1, a9, b7⟩ := cx (i := a0) b6 (by first | omega | (have hk := bb (by assumption) (by assumption); omega) | (have hk := tck (by assumption) (by assumption); omega) | (have hk := rtck (by assumption) (by assumption); omega) | (have hk := eck (by assumption) (by assumption) (by assumption); omega) | (have hk := tv (by assumption) (by assumption); omega) | (have hk := rtv (by assumption) (by assumption); omega)) (by first | omega | (have hk := bb (by assumption) (by assumption); omega) | (have hk := tck (by assumption) (by assumption); omega) | (have hk := rtck (by assumption) (by assumption); omega) | (have hk := eck (by assumption) (by assumption) (by assumption); omega) | (have hk := tv (by assumption) (by assumption); omega) | (have hk := rtv (by assumption) (by assumption); omega))
  refine ab (bn rfl rfl a9) (gL (dj.g_Index b7) rfl rfl rfl fun c5 b4 => (ab (cd rfl (br b4 Tryz.underlying163 _)) (bN gi rfl rfl (mV rfl ?_))))
  refine bv 9 (d := 44) (v := vb ((decide (40 < (((ix x0.Body a0).Index).length : Int))) || (decide (40 < (((ix x0.Body a0).Value).length : Int))))) ?_ ?_
  ·intro S Q r
   cases a8 : (decide (40 < (((ix x0.Body a0).Index).length : Int)))
   ·intro k
    have a4 := a8
    try simp only [qa] at a4
    obtain ⟨b9, b5, a1⟩ := cp.g_Body r0
    refine ai rfl rfl (bc rfl b5) (ai rfl rfl (ba rfl (TR.cnt (tSl dj.t) a1) (TR.agg (tSl dj.t) a1)) (ai rfl rfl (am rfl) ?_))
    obtain ⟨c4, b0, b1⟩ := cx (i := a0) a1 (by first | omega | (have hk := bb (by assumption) (by assumption); omega) | (have hk := tck (by assumption) (by assumption); omega) | (have hk := rtck (by assumption) (by assumption); omega) | (have hk := eck (by assumption) (by assumption) (by assumption); omega) | (have hk := tv (by assumption) (by assumption); omega) | (have hk := rtv (by assumption) (by assumption); omega)) (by first | omega | (have hk := bb (by assumption) (by assumption); omega) | (have hk := tck (by assumption) (by assumption); omega) | (have hk := rtck (by assumption) (by assumption); omega) | (have hk := eck (by assumption) (by assumption) (by assumption); omega) | (have hk := tv (by assumption) (by assumption); omega) | (have hk := rtv (by assumption) (by assumption); omega))
    refine ai rfl rfl (bn rfl rfl b0) ?_
    obtain ⟨c0, b3, a3⟩ := dj.g_Value b1
    refine ai rfl rfl (bc rfl b3) (ai rfl rfl (ba rfl (TR.cnt (tSl dv.t) a3) (TR.agg (tSl dv.t) a3)) (ai rfl rfl (cd rfl (br a3 Tryz.underlying163 _)) (ai rfl rfl (bd rfl rfl gi) ?_)))
    exact gK rfl rfl rfl rfl rfl k
   ·exact gN 8 rfl rfl rfl rfl rfl rfl
  refine nS ?_
  refine cq hres rfl ?_ ?_ <;> clear hres <;> intro c hres <;> try simp only [qa] at c
  ·refine sR (mB rfl (nS ?_))
   exact rR hres rfl rfl rfl
  ·refine az (dg (af (ah (mV rfl (bN eg rfl rfl (mV rfl (aw (ct ?_))))))))
   have hbd := du a7
   have hinc : wr (a0 + 1) = a0 + 1 := dw (by omega) (by omega)
   erw [hinc]
   exact wC (ih   (by omega) (by omega) hres) rfl

theorem dj9 {x0 : cp} {v0 : PV} (r0 : cp.t.R x0 v0) : FnR Tryz.prog 65 [v0] (vb (ov x0)) := by
 refine fnS (R := RF65) de8 (fun _ h => h) rfl fun res hres => ?_
 unfold ov at hres
 refine sR (ab (dh rfl (TR.cnt cp.t r0)) (mB rfl (nS (ae (sR ?_)))))
 obtain ⟨b0, a8, a6⟩ := cp.g_Params r0
 refine fA rfl a8 (lD a6 rfl rfl rfl (ab (cd rfl (br a6 Tryz.underlying23 _)) (bN gi rfl rfl (mV rfl ?_))))
 refine bv 5 (d := 13) (v := vb ((decide (8 < (x0.Params.length : Int))) || (decide (16 < (x0.Body.length : Int))))) ?_ ?_
 ·intro S Q r
  cases a5 : (decide (8 < (x0.Params.length : Int)))
  ·intro k
   have a3 := a5
   try simp only [qa] at a3
   obtain ⟨b1, a9, a1⟩ := cp.g_Body r0
   refine ai rfl rfl (bc rfl a9) (ai rfl rfl (ba rfl (TR.cnt (tSl dj.t) a1) (TR.agg (tSl dj.t) a1)) (ai rfl rfl (cd rfl (br a1 Tryz.underlying118 _)) (ai rfl rfl (bd rfl rfl gi) ?_)))
   exact gK rfl rfl rfl rfl rfl k
  ·exact gN 4 rfl rfl rfl rfl rfl rfl
 refine mV rfl ?_
 refine bv 5 (d := 19) (v := vb (((decide (8 < (x0.Params.length : Int))) || (decide (16 < (x0.Body.length : Int)))) || (decide (60 < (x0.Name.length : Int))))) ?_ ?_
 ·intro S Q r
  cases a7 : ((decide (8 < (x0.Params.length : Int))) || (decide (16 < (x0.Body.length : Int))))
  ·intro k
   have a2 := a7
   try simp only [qa] at a2
   refine ai rfl rfl (bc rfl (cp.g_Name r0)) (ai rfl rfl (ba rfl rfl rfl) (ai rfl rfl (cd rfl (nb Tryz.underlying9)) (ai rfl rfl (bd rfl rfl gi) ?_)))
   exact gK rfl rfl rfl rfl rfl k
  ·exact gN 4 rfl rfl rfl rfl rfl rfl
 refine nS ?_
 refine cq hres rfl ?_ ?_ <;> clear hres <;> intro a0 hres <;> have a4 := a0 <;> try simp only [qa] at a4
 ·refine sR (mB rfl (nS ?_))
  exact rR hres rfl rfl rfl
 ·refine az (af (ae (sR (mI rfl (nS (bf ?_))))))
  refine wC (sk r0 a0 ?_  rfl (by omega) hres) rfl
  ·intro  hres
   refine fd (af (sR (mB rfl (nS ?_))))
   exact rR hres rfl rfl rfl

def RF66 (res : Bool) (r : PV) : Prop := r = vb res
theorem dh9 {x0 : ck} {v0 : PV} (r0 : ck.t.R x0 v0) : FnR Tryz.prog 66 [v0] (vb (pm x0)) := by
 refine fnS (R := RF66) cx5 (fun _ h => h) rfl fun res hres => ?_
 unfold pm at hres
 refine sR (ab (dh rfl (TR.cnt ck.t r0)) (mB rfl (nR (gL (ck.g_Extract r0) rfl rfl rfl fun a7 a6 => (ab (cd rfl (br a6 Tryz.underlying29 _)) (bN gi rfl rfl (mV rfl ?_)))))))
 refine bv 5 (d := 12) (v := vb ((decide (8 < (x0.Extract.length : Int))) || (decide (12 < (x0.Cases.length : Int))))) ?_ ?_
 ·intro S Q r
  cases a3 : (decide (8 < (x0.Extract.length : Int)))
  ·intro k
   have a2 := a3
   try simp only [qa] at a2
   obtain ⟨a8, a5, a0⟩ := ck.g_Cases r0
   refine ai rfl rfl (bc rfl a5) (ai rfl rfl (ba rfl (TR.cnt (tSl ee.t) a0) (TR.agg (tSl ee.t) a0)) (ai rfl rfl (cd rfl (br a0 Tryz.underlying122 _)) (ai rfl rfl (bd rfl rfl gi) ?_)))
   exact gK rfl rfl rfl rfl rfl k
  ·exact gN 4 rfl rfl rfl rfl rfl rfl
 refine mV rfl ?_
 refine bv 5 (d := 18) (v := vb (((decide (8 < (x0.Extract.length : Int))) || (decide (12 < (x0.Cases.length : Int)))) || (decide (60 < (x0.Name.length : Int))))) ?_ ?_
 ·intro S Q r
  cases a4 : ((decide (8 < (x0.Extract.length : Int))) || (decide (12 < (x0.Cases.length : Int))))
  ·intro k
   have a1 := a4
   try simp only [qa] at a1
   refine ai rfl rfl (bc rfl (ck.g_Name r0)) (ai rfl rfl (ba rfl rfl rfl) (ai rfl rfl (cd rfl (nb Tryz.underlying9)) (ai rfl rfl (bd rfl rfl gi) ?_)))
   exact gK rfl rfl rfl rfl rfl k
  ·exact gN 4 rfl rfl rfl rfl rfl rfl
 refine mV rfl (nS ?_)
 exact rR hres rfl rfl rfl

def RF27 (res : Bool) (r : PV) : Prop := r = vb res
theorem ut {S : List Fr} {res : Bool} {x0 : aa} {v0 : PV} (r0 : aa.t.R x0 v0) (a5 : (((((((((decide (60 < (x0.Name.length : Int))) || (decide (16 < (x0.Headers.length : Int)))) || (decide (20 < (x0.Metadata.length : Int)))) || (decide (8 < (x0.Registers.length : Int)))) || (decide (24 < (x0.Actions.length : Int)))) || (decide (16 < (x0.Tables.length : Int)))) || (decide (16 < (x0.States.length : Int)))) || (decide (16 < (x0.Deparser.length : Int)))) || (decide (60 < (nf x0.Control 10)))) = false) {K0 : Unit → Bool}
  (b4 : K0 () = res → PX Tryz.prog 0 S (QR Tryz.prog [(2, none)] (RF27 res)) [(1, .fp v0)] ⟨0, []⟩) :
  ∀ {m : Nat} {a0 : Int} (b1 : m = Int.toNat ((x0.Headers.length : Int) - a0)) (a4 : 0 ≤ a0), lq x0 K0 m a0 = res → RC Tryz.prog (.loop cf3) S (QR Tryz.prog [(2, none)] (RF27 res)) [(3, vi a0), (1, .fp v0)] ⟨0, []⟩ := by
 have a1 := a5
 try simp only [qa] at a1
 intro m
 induction m with
 | zero =>
  intro a0 b1 a4 hres
  rw [lq] at hres
  refine bq (ae (sR (mV rfl (gL (aa.g_Headers r0) rfl rfl rfl fun b6 b0 => (ab (cd rfl (br b0 Tryz.underlying22 _)) (bN co rfl rfl (nS ?_)))))))
  refine bg rfl ?_ ?_ <;> intro c <;> try simp only [qa] at c
  ·omega
  refine dm (dx (cy ?_))
  exact wP (b4  hres) rfl
 | succ m ih =>
  intro a0 b1 a4 hres
  rw [lq] at hres
  refine bq (ae (sR (mV rfl (gL (aa.g_Headers r0) rfl rfl rfl fun b7 a6 => (ab (cd rfl (br a6 Tryz.underlying22 _)) (bN co rfl rfl (nS ?_)))))))
  refine bg rfl ?_ ?_ <;> intro c <;> try simp only [qa] at c
  rotate_left
  ·omega
  refine az (af (ae (bf (sR (gL (aa.g_Headers r0) rfl rfl rfl fun b3 a8 => (mV rfl ?_))))))
  obtain ⟨b5, a9, a2⟩ := cx (i := a0) a8 (by first | omega | (have hk := bb (by assumption) (by assumption); omega) | (have hk := tck (by assumption) (by assumption); omega) | (have hk := rtck (by assumption) (by assumption); omega) | (have hk := eck (by assumption) (by assumption) (by assumption); omega) | (have hk := tv (by assumption) (by assumption); omega) | (have hk := rtv (by assumption) (by assumption); omega)) (by first | omega | (have hk := bb (by assumption) (by assumption); omega) | (have hk := tck (by assumption) (by assumption); omega) | (have hk := rtck (by assumption) (by assumption); omega) | (have hk := eck (by assumption) (by assumption) (by assumption); omega) | (have hk := tv (by assumption) (by assumption); omega) | (have hk := rtv (by assumption) (by assumption); omega))
  refine ab (bn rfl rfl a9) (lD a2 rfl rfl rfl ?_)
  obtain ⟨b2, a3, hres⟩ := dc hres
  have a7 := da6  a2 
  rw [a3] at a7
  refine cL a7 rfl rfl (aq (TR.clo cj.t a2) bm) (ab (gc rfl) (nS ?_))
  refine cq hres rfl ?_ ?_ <;> clear hres <;> intro c hres <;> try simp only [qa] at c
  ·refine sR (mB rfl (nS ?_))
   exact rR hres rfl rfl rfl
  ·refine az (dg (af (ah (mV rfl (bN eg rfl rfl (mV rfl (aw (ct ?_))))))))
   have hbd := du a6
   have hinc : wr (a0 + 1) = a0 + 1 := dw (by omega) (by omega)
   erw [hinc]
   exact wC (ih   (by omega) (by omega) hres) rfl

theorem vd {S : List Fr} {res : Bool} {x0 : aa} {v0 : PV} (r0 : aa.t.R x0 v0) (a4 : (((((((((decide (60 < (x0.Name.length : Int))) || (decide (16 < (x0.Headers.length : Int)))) || (decide (20 < (x0.Metadata.length : Int)))) || (decide (8 < (x0.Registers.length : Int)))) || (decide (24 < (x0.Actions.length : Int)))) || (decide (16 < (x0.Tables.length : Int)))) || (decide (16 < (x0.States.length : Int)))) || (decide (16 < (x0.Deparser.length : Int)))) || (decide (60 < (nf x0.Control 10)))) = false) {K2 : Unit → Bool}
  (b6 : K2 () = res → PX Tryz.prog 2 S (QR Tryz.prog [(2, none)] (RF27 res)) [(1, .fp v0)] ⟨0, []⟩) :
  ∀ {m : Nat} {a0 : Int} (b1 : m = Int.toNat ((x0.Actions.length : Int) - a0)) (a6 : 0 ≤ a0), lm x0 K2 m a0 = res → RC Tryz.prog (.loop cn3) S (QR Tryz.prog [(2, none)] (RF27 res)) [(4, vi a0), (1, .fp v0)] ⟨0, []⟩ := by
 have a2 := a4
 try simp only [qa] at a2
 intro m
 induction m with
 | zero =>
  intro a0 b1 a6 hres
  rw [lm] at hres
  refine bq (ae (sR (mV rfl (gL (aa.g_Actions r0) rfl rfl rfl fun b5 b0 => (ab (cd rfl (br b0 Tryz.underlying25 _)) (bN co rfl rfl (nS ?_)))))))
  refine bg rfl ?_ ?_ <;> intro c <;> try simp only [qa] at c
  ·omega
  refine dm (dx (cy ?_))
  exact wP (b6  hres) rfl
 | succ m ih =>
  intro a0 b1 a6 hres
  rw [lm] at hres
  refine bq (ae (sR (mV rfl (gL (aa.g_Actions r0) rfl rfl rfl fun b3 a7 => (ab (cd rfl (br a7 Tryz.underlying25 _)) (bN co rfl rfl (nS ?_)))))))
  refine bg rfl ?_ ?_ <;> intro c <;> try simp only [qa] at c
  rotate_left
  ·omega
  refine az (af (ae (bf (sR (gL (aa.g_Actions r0) rfl rfl rfl fun b4 a9 => (mV rfl ?_))))))
  obtain ⟨b2, a8, a1⟩ := cx (i := a0) a9 (by first | omega | (have hk := bb (by assumption) (by assumption); omega) | (have hk := tck (by assumption) (by assumption); omega) | (have hk := rtck (by assumption) (by assumption); omega) | (have hk := eck (by assumption) (by assumption) (by assumption); omega) | (have hk := tv (by assumption) (by assumption); omega) | (have hk := rtv (by assumption) (by assumption); omega)) (by first | omega | (have hk := bb (by assumption) (by assumption); omega) | (have hk := tck (by assumption) (by assumption); omega) | (have hk := rtck (by assumption) (by assumption); omega) | (have hk := eck (by assumption) (by assumption) (by assumption); omega) | (have hk := tv (by assumption) (by assumption); omega) | (have hk := rtv (by assumption) (by assumption); omega))
  refine ab (bn rfl rfl a8) (lD a1 rfl rfl rfl ?_)
  obtain ⟨b7, a5, hres⟩ := dc hres
  have a3 := dj9  a1 
  rw [a5] at a3
  refine cL a3 rfl rfl (aq (TR.clo cp.t a1) bm) (nS ?_)
  refine cq hres rfl ?_ ?_ <;> clear hres <;> intro c hres <;> try simp only [qa] at c
  ·refine sR (mB rfl (nS ?_))
   exact rR hres rfl rfl rfl
  ·refine az (dg (af (ah (mV rfl (bN eg rfl rfl (mV rfl (aw (ct ?_))))))))
   have hbd := du a7
   have hinc : wr (a0 + 1) = a0 + 1 := dw (by omega) (by omega)
   erw [hinc]
   exact wC (ih   (by omega) (by omega) hres) rfl

theorem uy {S : List Fr} {res : Bool} {x0 : aa} {v0 : PV} (r0 : aa.t.R x0 v0) (b1 : (((((((((decide (60 < (x0.Name.length : Int))) || (decide (16 < (x0.Headers.length : Int)))) || (decide (20 < (x0.Metadata.length : Int)))) || (decide (8 < (x0.Registers.length : Int)))) || (decide (24 < (x0.Actions.length : Int)))) || (decide (16 < (x0.Tables.length : Int)))) || (decide (16 < (x0.States.length : Int)))) || (decide (16 < (x0.Deparser.length : Int)))) || (decide (60 < (nf x0.Control 10)))) = false) {K4 : Unit → Bool}
  (e2 : K4 () = res → PX Tryz.prog 4 S (QR Tryz.prog [(2, none)] (RF27 res)) [(1, .fp v0)] ⟨0, []⟩) :
  ∀ {m : Nat} {a0 : Int} (d5 : m = Int.toNat ((x0.Tables.length : Int) - a0)) (b3 : 0 ≤ a0), lw x0 K4 m a0 = res → RC Tryz.prog (.loop cj6) S (QR Tryz.prog [(2, none)] (RF27 res)) [(5, vi a0), (1, .fp v0)] ⟨0, []⟩ := by
 have a3 := b1
 try simp only [qa] at a3
 intro m
 induction m with
 | zero =>
  intro a0 d5 b3 hres
  rw [lw] at hres
  refine bq (ae (sR (mV rfl (gL (aa.g_Tables r0) rfl rfl rfl fun d9 c6 => (ab (cd rfl (br c6 Tryz.underlying26 _)) (bN co rfl rfl (nS ?_)))))))
  refine bg rfl ?_ ?_ <;> intro c <;> try simp only [qa] at c
  ·omega
  refine dm (dx (cy ?_))
  exact wP (e2  hres) rfl
 | succ m ih =>
  intro a0 d5 b3 hres
  rw [lw] at hres
  refine bq (ae (sR (mV rfl (gL (aa.g_Tables r0) rfl rfl rfl fun e7 b0 => (ab (cd rfl (br b0 Tryz.underlying26 _)) (bN co rfl rfl (nS ?_)))))))
  refine bg rfl ?_ ?_ <;> intro c <;> try simp only [qa] at c
  rotate_left
  ·omega
  refine az (af (ae (bf (sR (gL (aa.g_Tables r0) rfl rfl rfl fun e0 c0 => (mV rfl ?_))))))
  obtain ⟨d8, c8, b9⟩ := cx (i := a0) c0 (by first | omega | (have hk := bb (by assumption) (by assumption); omega) | (have hk := tck (by assumption) (by assumption); omega) | (have hk := rtck (by assumption) (by assumption); omega) | (have hk := eck (by assumption) (by assumption) (by assumption); omega) | (have hk := tv (by assumption) (by assumption); omega) | (have hk := rtv (by assumption) (by assumption); omega)) (by first | omega | (have hk := bb (by assumption) (by assumption); omega) | (have hk := tck (by assumption) (by assumption); omega) | (have hk := rtck (by assumption) (by assumption); omega) | (have hk := eck (by assumption) (by assumption) (by assumption); omega) | (have hk := tv (by assumption) (by assumption); omega) | (have hk := rtv (by assumption) (by assumption); omega))
  refine ab (bn rfl rfl c8) (gL (ax.g_Keys b9) rfl rfl rfl fun d7 d2 => (ab (cd rfl (br d2 Tryz.underlying85 _)) (bN gi rfl rfl (mV rfl ?_))))
  refine bv 9 (d := 110) (v := vb ((decide (10 < (((ix x0.Tables a0).Keys).length : Int))) || (decide (24 < (((ix x0.Tables a0).Actions).length : Int))))) ?_ ?_
  ·intro S Q r
   cases b5 : (decide (10 < (((ix x0.Tables a0).Keys).length : Int)))
   ·intro k
    have a9 := b5
    try simp only [qa] at a9
    obtain ⟨e4, b6, a1⟩ := aa.g_Tables r0
    refine ai rfl rfl (bc rfl b6) (ai rfl rfl (ba rfl (TR.cnt (tSl ax.t) a1) (TR.agg (tSl ax.t) a1)) (ai rfl rfl (am rfl) ?_))
    obtain ⟨e9, c9, c4⟩ := cx (i := a0) a1 (by first | omega | (have hk := bb (by assumption) (by assumption); omega) | (have hk := tck (by assumption) (by assumption); omega) | (have hk := rtck (by assumption) (by assumption); omega) | (have hk := eck (by assumption) (by assumption) (by assumption); omega) | (have hk := tv (by assumption) (by assumption); omega) | (have hk := rtv (by assumption) (by assumption); omega)) (by first | omega | (have hk := bb (by assumption) (by assumption); omega) | (have hk := tck (by assumption) (by assumption); omega) | (have hk := rtck (by assumption) (by assumption); omega) | (have hk := eck (by assumption) (by assumption) (by assumption); omega) | (have hk := tv (by assumption) (by assumption); omega) | (have hk := rtv (by assumption) (by assumption); omega))
    refine ai rfl rfl (bn rfl rfl c9) ?_
    obtain ⟨e6, b7, a4⟩ := ax.g_Actions c4
    refine ai rfl rfl (bc rfl b7) (ai rfl rfl (ba rfl (TR.cnt (tSl tI) a4) (TR.agg (tSl tI) a4)) (ai rfl rfl (cd rfl (br a4 Tryz.underlying29 _)) (ai rfl rfl (bd rfl rfl gi) ?_)))
    exact gK rfl rfl rfl rfl rfl k
   ·exact gN 8 rfl rfl rfl rfl rfl rfl
  refine mV rfl ?_
  refine bv 10 (d := 121) (v := vb (((decide (10 < (((ix x0.Tables a0).Keys).length : Int))) || (decide (24 < (((ix x0.Tables a0).Actions).length : Int)))) || (decide (8 < ((((ix x0.Tables a0).Default).Args).length : Int))))) ?_ ?_
  ·intro S Q r
   cases b2 : ((decide (10 < (((ix x0.Tables a0).Keys).length : Int))) || (decide (24 < (((ix x0.Tables a0).Actions).length : Int))))
   ·intro k
    have a6 := b2
    try simp only [qa] at a6
    obtain ⟨d6, b8, a8⟩ := aa.g_Tables r0
    refine ai rfl rfl (bc rfl b8) (ai rfl rfl (ba rfl (TR.cnt (tSl ax.t) a8) (TR.agg (tSl ax.t) a8)) (ai rfl rfl (am rfl) ?_))
    obtain ⟨e8, c5, d0⟩ := cx (i := a0) a8 (by first | omega | (have hk := bb (by assumption) (by assumption); omega) | (have hk := tck (by assumption) (by assumption); omega) | (have hk := rtck (by assumption) (by assumption); omega) | (have hk := eck (by assumption) (by assumption) (by assumption); omega) | (have hk := tv (by assumption) (by assumption); omega) | (have hk := rtv (by assumption) (by assumption); omega)) (by first | omega | (have hk := bb (by assumption) (by assumption); omega) | (have hk := tck (by assumption) (by assumption); omega) | (have hk := rtck (by assumption) (by assumption); omega) | (have hk := eck (by assumption) (by assumption) (by assumption); omega) | (have hk := tv (by assumption) (by assumption); omega) | (have hk := rtv (by assumption) (by assumption); omega))
    refine ai rfl rfl (bn rfl rfl c5) ?_
    obtain ⟨e5, c1, d3⟩ := ax.g_Default d0
    refine ai rfl rfl (bc rfl c1) ?_
    obtain ⟨e3, c3, a7⟩ := av.g_Args d3
    refine ai rfl rfl (bc rfl c3) (ai rfl rfl (ba rfl (TR.cnt (tSl ko) a7) (TR.agg (tSl ko) a7)) (ai rfl rfl (cd rfl (br a7 Tryz.underlying33 _)) (ai rfl rfl (bd rfl rfl gi) ?_)))
    exact gK rfl rfl rfl rfl rfl k
   ·exact gN 9 rfl rfl rfl rfl rfl rfl
  refine mV rfl ?_
  refine bv 9 (d := 131) (v := vb ((((decide (10 < (((ix x0.Tables a0).Keys).length : Int))) || (decide (24 < (((ix x0.Tables a0).Actions).length : Int)))) || (decide (8 < ((((ix x0.Tables a0).Default).Args).length : Int)))) || (decide (60 < (((ix x0.Tables a0).Name).length : Int))))) ?_ ?_
  ·intro S Q r
   cases b4 : (((decide (10 < (((ix x0.Tables a0).Keys).length : Int))) || (decide (24 < (((ix x0.Tables a0).Actions).length : Int)))) || (decide (8 < ((((ix x0.Tables a0).Default).Args).length : Int))))
   ·intro k
    have a5 := b4
    try simp only [qa] at a5
    obtain ⟨e1, c7, a2⟩ := aa.g_Tables r0
    refine ai rfl rfl (bc rfl c7) (ai rfl rfl (ba rfl (TR.cnt (tSl ax.t) a2) (TR.agg (tSl ax.t) a2)) (ai rfl rfl (am rfl) ?_))
    obtain ⟨f0, d4, d1⟩ := cx (i := a0) a2 (by first | omega | (have hk := bb (by assumption) (by assumption); omega) | (have hk := tck (by assumption) (by assumption); omega) | (have hk := rtck (by assumption) (by assumption); omega) | (have hk := eck (by assumption) (by assumption) (by assumption); omega) | (have hk := tv (by assumption) (by assumption); omega) | (have hk := rtv (by assumption) (by assumption); omega)) (by first | omega | (have hk := bb (by assumption) (by assumption); omega) | (have hk := tck (by assumption) (by assumption); omega) | (have hk := rtck (by assumption) (by assumption); omega) | (have hk := eck (by assumption) (by assumption) (by assumption); omega) | (have hk := tv (by assumption) (by assumption); omega) | (have hk := rtv (by assumption) (by assumption); omega))
    refine ai rfl rfl (bn rfl rfl d4) (ai rfl rfl (bc rfl (ax.g_Name d1)) (ai rfl rfl (ba rfl rfl rfl) (ai rfl rfl (cd rfl (nb Tryz.underlying9)) (ai rfl rfl (bd rfl rfl gi) ?_))))
    exact gK rfl rfl rfl rfl rfl k
   ·exact gN 8 rfl rfl rfl rfl rfl rfl
  refine nS ?_
  refine cq hres rfl ?_ ?_ <;> clear hres <;> intro c hres <;> try simp only [qa] at c
  ·refine sR (mB rfl (nS ?_))
   exact rR hres rfl rfl rfl
  ·refine az (dg (af (ah (mV rfl (bN eg rfl rfl (mV rfl (aw (ct ?_))))))))
   have hbd := du b0
   have hinc : wr (a0 + 1) = a0 + 1 := dw (by omega) (by omega)
   erw [hinc]
   exact wC (ih   (by omega) (by omega) hres) rfl

theorem uu {S : List Fr} {res : Bool} {x0 : aa} {v0 : PV} (r0 : aa.t.R x0 v0) (a6 : (((((((((decide (60 < (x0.Name.length : Int))) || (decide (16 < (x0.Headers.length : Int)))) || (decide (20 < (x0.Metadata.length : Int)))) || (decide (8 < (x0.Registers.length : Int)))) || (decide (24 < (x0.Actions.length : Int)))) || (decide (16 < (x0.Tables.length : Int)))) || (decide (16 < (x0.States.length : Int)))) || (decide (16 < (x0.Deparser.length : Int)))) || (decide (60 < (nf x0.Control 10)))) = false) {K6 : Unit → Bool}
  (b2 : K6 () = res → PX Tryz.prog 6 S (QR Tryz.prog [(2, none)] (RF27 res)) [] ⟨0, []⟩) :
  ∀ {m : Nat} {a0 : Int} (b1 : m = Int.toNat ((x0.States.length : Int) - a0)) (a5 : 0 ≤ a0), lr x0 K6 m a0 = res → RC Tryz.prog (.loop cl3) S (QR Tryz.prog [(2, none)] (RF27 res)) [(6, vi a0), (1, .fp v0)] ⟨0, []⟩ := by
 have a1 := a6
 try simp only [qa] at a1
 intro m
 induction m with
 | zero =>
  intro a0 b1 a5 hres
  rw [lr] at hres
  refine bq (ae (sR (mV rfl (gL (aa.g_States r0) rfl rfl rfl fun b4 b0 => (ab (cd rfl (br b0 Tryz.underlying27 _)) (bN co rfl rfl (nS ?_)))))))
  refine bg rfl ?_ ?_ <;> intro c <;> try simp only [qa] at c
  ·omega
  refine dm (dx (cy ?_))
  exact wP (b2  hres) rfl
 | succ m ih =>
  intro a0 b1 a5 hres
  rw [lr] at hres
  refine bq (ae (sR (mV rfl (gL (aa.g_States r0) rfl rfl rfl fun b7 a4 => (ab (cd rfl (br a4 Tryz.underlying27 _)) (bN co rfl rfl (nS ?_)))))))
  refine bg rfl ?_ ?_ <;> intro c <;> try simp only [qa] at c
  rotate_left
  ·omega
  refine az (af (ae (bf (sR (gL (aa.g_States r0) rfl rfl rfl fun b6 a9 => (mV rfl ?_))))))
  obtain ⟨b3, a8, a2⟩ := cx (i := a0) a9 (by first | omega | (have hk := bb (by assumption) (by assumption); omega) | (have hk := tck (by assumption) (by assumption); omega) | (have hk := rtck (by assumption) (by assumption); omega) | (have hk := eck (by assumption) (by assumption) (by assumption); omega) | (have hk := tv (by assumption) (by assumption); omega) | (have hk := rtv (by assumption) (by assumption); omega)) (by first | omega | (have hk := bb (by assumption) (by assumption); omega) | (have hk := tck (by assumption) (by assumption); omega) | (have hk := rtck (by assumption) (by assumption); omega) | (have hk := eck (by assumption) (by assumption) (by assumption); omega) | (have hk := tv (by assumption) (by assumption); omega) | (have hk := rtv (by assumption) (by assumption); omega))
  refine ab (bn rfl rfl a8) (lD a2 rfl rfl rfl ?_)
  obtain ⟨b5, a3, hres⟩ := dc hres
  have a7 := dh9  a2 
  rw [a3] at a7
  refine cL a7 rfl rfl (aq (TR.clo ck.t a2) bm) (nS ?_)
  refine cq hres rfl ?_ ?_ <;> clear hres <;> intro c hres <;> try simp only [qa] at c
  ·refine sR (mB rfl (nS ?_))
   exact rR hres rfl rfl rfl
  ·refine az (dg (af (ah (mV rfl (bN eg rfl rfl (mV rfl (aw (ct ?_))))))))
   have hbd := du a4
   have hinc : wr (a0 + 1) = a0 + 1 := dw (by omega) (by omega)
   erw [hinc]
   exact wC (ih   (by omega) (by omega) hres) rfl

theorem dc3 {x0 : aa} {v0 : PV} (r0 : aa.t.R x0 v0) : FnR Tryz.prog 27 [v0] (vb (mc x0)) := by
 refine fnS (R := RF27) cz0 (fun _ h => h) rfl fun res hres => ?_
 unfold mc at hres
 refine sR (ab (dh rfl (TR.cnt aa.t r0)) (mB rfl (nS (ae (sR (fL rfl (aa.g_Name r0) rfl rfl (ab (cd rfl (nb Tryz.underlying9)) (bN gi rfl rfl ?_))))))))
 refine mV rfl ?_
 refine bv 5 (d := 16) (v := vb ((decide (60 < (x0.Name.length : Int))) || (decide (16 < (x0.Headers.length : Int))))) ?_ ?_
 ·intro S Q r
  cases b9 : (decide (60 < (x0.Name.length : Int)))
  ·intro k
   have a7 := b9
   try simp only [qa] at a7
   obtain ⟨e3, d1, a4⟩ := aa.g_Headers r0
   refine ai rfl rfl (bc rfl d1) (ai rfl rfl (ba rfl (TR.cnt (tSl cj.t) a4) (TR.agg (tSl cj.t) a4)) (ai rfl rfl (cd rfl (br a4 Tryz.underlying22 _)) (ai rfl rfl (bd rfl rfl gi) ?_)))
   exact gK rfl rfl rfl rfl rfl k
  ·exact gN 4 rfl rfl rfl rfl rfl rfl
 refine mV rfl ?_
 refine bv 5 (d := 22) (v := vb (((decide (60 < (x0.Name.length : Int))) || (decide (16 < (x0.Headers.length : Int)))) || (decide (20 < (x0.Metadata.length : Int))))) ?_ ?_
 ·intro S Q r
  cases c6 : ((decide (60 < (x0.Name.length : Int))) || (decide (16 < (x0.Headers.length : Int))))
  ·intro k
   have b0 := c6
   try simp only [qa] at b0
   obtain ⟨d8, c8, b2⟩ := aa.g_Metadata r0
   refine ai rfl rfl (bc rfl c8) (ai rfl rfl (ba rfl (TR.cnt (tSl bw.t) b2) (TR.agg (tSl bw.t) b2)) (ai rfl rfl (cd rfl (br b2 Tryz.underlying23 _)) (ai rfl rfl (bd rfl rfl gi) ?_)))
   exact gK rfl rfl rfl rfl rfl k
  ·exact gN 4 rfl rfl rfl rfl rfl rfl
 refine mV rfl ?_
 refine bv 5 (d := 28) (v := vb ((((decide (60 < (x0.Name.length : Int))) || (decide (16 < (x0.Headers.length : Int)))) || (decide (20 < (x0.Metadata.length : Int)))) || (decide (8 < (x0.Registers.length : Int))))) ?_ ?_
 ·intro S Q r
  cases c4 : (((decide (60 < (x0.Name.length : Int))) || (decide (16 < (x0.Headers.length : Int)))) || (decide (20 < (x0.Metadata.length : Int))))
  ·intro k
   have a8 := c4
   try simp only [qa] at a8
   obtain ⟨e1, c7, a6⟩ := aa.g_Registers r0
   refine ai rfl rfl (bc rfl c7) (ai rfl rfl (ba rfl (TR.cnt (tSl ep.t) a6) (TR.agg (tSl ep.t) a6)) (ai rfl rfl (cd rfl (br a6 Tryz.underlying24 _)) (ai rfl rfl (bd rfl rfl gi) ?_)))
   exact gK rfl rfl rfl rfl rfl k
  ·exact gN 4 rfl rfl rfl rfl rfl rfl
 refine mV rfl ?_
 refine bv 5 (d := 34) (v := vb (((((decide (60 < (x0.Name.length : Int))) || (decide (16 < (x0.Headers.length : Int)))) || (decide (20 < (x0.Metadata.length : Int)))) || (decide (8 < (x0.Registers.length : Int)))) || (decide (24 < (x0.Actions.length : Int))))) ?_ ?_
 ·intro S Q r
  cases c3 : ((((decide (60 < (x0.Name.length : Int))) || (decide (16 < (x0.Headers.length : Int)))) || (decide (20 < (x0.Metadata.length : Int)))) || (decide (8 < (x0.Registers.length : Int))))
  ·intro k
   have b5 := c3
   try simp only [qa] at b5
   obtain ⟨e2, d2, b3⟩ := aa.g_Actions r0
   refine ai rfl rfl (bc rfl d2) (ai rfl rfl (ba rfl (TR.cnt (tSl cp.t) b3) (TR.agg (tSl cp.t) b3)) (ai rfl rfl (cd rfl (br b3 Tryz.underlying25 _)) (ai rfl rfl (bd rfl rfl gi) ?_)))
   exact gK rfl rfl rfl rfl rfl k
  ·exact gN 4 rfl rfl rfl rfl rfl rfl
 refine mV rfl ?_
 refine bv 5 (d := 40) (v := vb ((((((decide (60 < (x0.Name.length : Int))) || (decide (16 < (x0.Headers.length : Int)))) || (decide (20 < (x0.Metadata.length : Int)))) || (decide (8 < (x0.Registers.length : Int)))) || (decide (24 < (x0.Actions.length : Int)))) || (decide (16 < (x0.Tables.length : Int))))) ?_ ?_
 ·intro S Q r
  cases b8 : (((((decide (60 < (x0.Name.length : Int))) || (decide (16 < (x0.Headers.length : Int)))) || (decide (20 < (x0.Metadata.length : Int)))) || (decide (8 < (x0.Registers.length : Int)))) || (decide (24 < (x0.Actions.length : Int))))
  ·intro k
   have a5 := b8
   try simp only [qa] at a5
   obtain ⟨e0, d4, b4⟩ := aa.g_Tables r0
   refine ai rfl rfl (bc rfl d4) (ai rfl rfl (ba rfl (TR.cnt (tSl ax.t) b4) (TR.agg (tSl ax.t) b4)) (ai rfl rfl (cd rfl (br b4 Tryz.underlying26 _)) (ai rfl rfl (bd rfl rfl gi) ?_)))
   exact gK rfl rfl rfl rfl rfl k
  ·exact gN 4 rfl rfl rfl rfl rfl rfl
 refine mV rfl ?_
 refine bv 5 (d := 46) (v := vb (((((((decide (60 < (x0.Name.length : Int))) || (decide (16 < (x0.Headers.length : Int)))) || (decide (20 < (x0.Metadata.length : Int)))) || (decide (8 < (x0.Registers.length : Int)))) || (decide (24 < (x0.Actions.length : Int)))) || (decide (16 < (x0.Tables.length : Int)))) || (decide (16 < (x0.States.length : Int))))) ?_ ?_
 ·intro S Q r
  cases c0 : ((((((decide (60 < (x0.Name.length : Int))) || (decide (16 < (x0.Headers.length : Int)))) || (decide (20 < (x0.Metadata.length : Int)))) || (decide (8 < (x0.Registers.length : Int)))) || (decide (24 < (x0.Actions.length : Int)))) || (decide (16 < (x0.Tables.length : Int))))
  ·intro k
   have b6 := c0
   try simp only [qa] at b6
   obtain ⟨d9, c9, a9⟩ := aa.g_States r0
   refine ai rfl rfl (bc rfl c9) (ai rfl rfl (ba rfl (TR.cnt (tSl ck.t) a9) (TR.agg (tSl ck.t) a9)) (ai rfl rfl (cd rfl (br a9 Tryz.underlying27 _)) (ai rfl rfl (bd rfl rfl gi) ?_)))
   exact gK rfl rfl rfl rfl rfl k
  ·exact gN 4 rfl rfl rfl rfl rfl rfl
 refine mV rfl ?_
 refine bv 5 (d := 52) (v := vb ((((((((decide (60 < (x0.Name.length : Int))) || (decide (16 < (x0.Headers.length : Int)))) || (decide (20 < (x0.Metadata.length : Int)))) || (decide (8 < (x0.Registers.length : Int)))) || (decide (24 < (x0.Actions.length : Int)))) || (decide (16 < (x0.Tables.length : Int)))) || (decide (16 < (x0.States.length : Int)))) || (decide (16 < (x0.Deparser.length : Int))))) ?_ ?_
 ·intro S Q r
  cases c1 : (((((((decide (60 < (x0.Name.length : Int))) || (decide (16 < (x0.Headers.length : Int)))) || (decide (20 < (x0.Metadata.length : Int)))) || (decide (8 < (x0.Registers.length : Int)))) || (decide (24 < (x0.Actions.length : Int)))) || (decide (16 < (x0.Tables.length : Int)))) || (decide (16 < (x0.States.length : Int))))
  ·intro k
   have b7 := c1
   try simp only [qa] at b7
   obtain ⟨d6, d3, a2⟩ := aa.g_Deparser r0
   refine ai rfl rfl (bc rfl d3) (ai rfl rfl (ba rfl (TR.cnt (tSl tI) a2) (TR.agg (tSl tI) a2)) (ai rfl rfl (cd rfl (br a2 Tryz.underlying29 _)) (ai rfl rfl (bd rfl rfl gi) ?_)))
   exact gK rfl rfl rfl rfl rfl k
  ·exact gN 4 rfl rfl rfl rfl rfl rfl
 refine mV rfl ?_
 refine bv 5 (d := 58) (v := vb (((((((((decide (60 < (x0.Name.length : Int))) || (decide (16 < (x0.Headers.length : Int)))) || (decide (20 < (x0.Metadata.length : Int)))) || (decide (8 < (x0.Registers.length : Int)))) || (decide (24 < (x0.Actions.length : Int)))) || (decide (16 < (x0.Tables.length : Int)))) || (decide (16 < (x0.States.length : Int)))) || (decide (16 < (x0.Deparser.length : Int)))) || (decide (60 < (nf x0.Control 10))))) ?_ ?_
 ·intro S Q r
  cases c5 : ((((((((decide (60 < (x0.Name.length : Int))) || (decide (16 < (x0.Headers.length : Int)))) || (decide (20 < (x0.Metadata.length : Int)))) || (decide (8 < (x0.Registers.length : Int)))) || (decide (24 < (x0.Actions.length : Int)))) || (decide (16 < (x0.Tables.length : Int)))) || (decide (16 < (x0.States.length : Int)))) || (decide (16 < (x0.Deparser.length : Int))))
  ·intro k
   have b1 := c5
   try simp only [qa] at b1
   obtain ⟨d7, d0, a1⟩ := aa.g_Control r0
   refine ai rfl rfl (bc rfl d0) (ai rfl rfl (ba rfl (TR.cnt (tSl ak.t) a1) (TR.agg (tSl ak.t) a1)) ?_)
   have d5 := db7 (x1 := 10) a1 (by first | assumption | omega | (have := rv (by assumption) (by assumption); omega) | (rw [dw (by omega) (by omega)]; omega)) (by first | assumption | omega | (have := rv (by assumption) (by assumption); omega) | (rw [dw (by omega) (by omega)]; omega))
   refine fu rfl rfl (mb rfl rfl (aq (TR.clo (tSl ak.t) a1) (aq rfl bm)) d5) (ai rfl rfl (bd rfl rfl gi) ?_)
   exact gK rfl rfl rfl rfl rfl k
  ·exact gN 4 rfl rfl rfl rfl rfl rfl
 refine nS ?_
 refine cq hres rfl ?_ ?_ <;> clear hres <;> intro a0 hres <;> have a3 := a0 <;> try simp only [qa] at a3
 ·refine sR (mB rfl (nS ?_))
  exact rR hres rfl rfl rfl
 ·refine az (af (ae (sR (mI rfl (nS (bf ?_))))))
  refine wC (ut r0 a0 ?_  rfl (by omega) hres) rfl
  ·intro  hres
   refine fd (af (ae (sR (mI rfl (nS (bf ?_))))))
   refine wC (vd r0 a0 ?_  rfl (by omega) hres) rfl
   ·intro  hres
    refine fd (af (ae (sR (mI rfl (nS (bf ?_))))))
    refine wC (uy r0 a0 ?_  rfl (by omega) hres) rfl
    ·intro  hres
     refine fd (af (ae (sR (mI rfl (nS (bf ?_))))))
     refine wC (uu r0 a0 ?_  rfl (by omega) hres) rfl
     ·intro  hres
      refine fd (af (sR (mB rfl (nS ?_))))
      exact rR hres rfl rfl rfl

end Go.Proofs.YthdnpgpnodgicaaGreat
