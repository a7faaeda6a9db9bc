/-
 The code of each function does what its plain program says.
-/
import Derived.Test.YthdnpgpnodgicaaGreatKDef
import Derived.Test.YthdnpgpnodgicaaGreatL4Text
import Derived.Test.YthdnpgpnodgicaaGreatPbV
import Derived.Test.YthdnpgpnodgicaaGreatKFoFx
import Derived.Test.YthdnpgpnodgicaaGreatL4Run
set_option linter.unusedVariables false
set_option linter.unusedSimpArgs false
set_option maxRecDepth 100000
namespace Go.Proofs.YthdnpgpnodgicaaGreat
open Go Go.Pb Go.RowKit
def RF63 (res : Int) (r : PV) : Prop := r = vi res
theorem xp {S : List Fr} {res : Int} {x0 : List aj} {x1 : Int} {rec_ : (List aj) → Int → Int} {mu_ : Nat} {v0 : PV} (r0 : (tSl aj.t).R x0 v0) (hd : 0 ≤ x1) (d4 : x1 ≤ 100) (ihR : ∀ {z0 : List aj} {z1 : Int} {c5 : PV} (d7 : (tSl aj.t).R z0 c5) (hd : 0 ≤ z1) (d4 : z1 ≤ 100), z1.toNat < mu_ → FnR Tryz.prog 63 [c5, vi z1] (vi (rec_ z0 z1))) (hmu : mu_ = x1.toNat) {K0 : Int → Int}
  (c6 : ∀ {a1 : Int}, K0 a1 = res → PX Tryz.prog 0 S (QR Tryz.prog [(4, none)] (RF63 res)) [(5, vi a1)] ⟨0, []⟩) :
  ∀ {m : Nat} {a1 a0 : Int} (c7 : m = Int.toNat ((x0.length : Int) - a0)) (b3 : 0 ≤ a0), ng x0 x1 rec_ K0 m a1 a0 = res → RC Tryz.prog (.loop cf1) S (QR Tryz.prog [(4, none)] (RF63 res)) [(6, vi a0), (5, vi a1), (1, vi x1), (0, v0)] ⟨0, []⟩ := by
 intro m
 induction m with
 | zero =>
  intro a1 a0 c7 b3 hres
  rw [ng] at hres
  refine br (ae (sR (mV rfl (mV rfl (ab (ca rfl (bq r0 Tryz.underlying28 _)) (bN ck rfl rfl (mV rfl ?_)))))))
  refine bt 3 (d := 16) (v := vb ((decide (a0 < (x0.length : Int))) && (decide (a1 < 100)))) ?_ ?_
  ·intro S Q r
   cases b2 : (decide (a0 < (x0.length : Int)))
   ·exact gN 2 rfl rfl rfl rfl rfl rfl
   ·intro k
    have a3 := b2
    try simp only [qa] at a3
    refine af rfl rfl (ak rfl) (af rfl rfl (bd rfl rfl ck) ?_)
    exact gK rfl rfl rfl rfl rfl k
  refine nS ?_
  refine bf rfl ?_ ?_ <;> intro c <;> try simp only [qa] at c
  ·omega
  refine di (dv (ct ?_))
  exact wP (c6  hres) rfl
 | succ m ih =>
  intro a1 a0 c7 b3 hres
  rw [ng] at hres
  refine br (ae (sR (mV rfl (mV rfl (ab (ca rfl (bq r0 Tryz.underlying28 _)) (bN ck rfl rfl (mV rfl ?_)))))))
  refine bt 3 (d := 16) (v := vb ((decide (a0 < (x0.length : Int))) && (decide (a1 < 100)))) ?_ ?_
  ·intro S Q r
   cases b5 : (decide (a0 < (x0.length : Int)))
   ·exact gN 2 rfl rfl rfl rfl rfl rfl
   ·intro k
    have a2 := b5
    try simp only [qa] at a2
    refine af rfl rfl (ak rfl) (af rfl rfl (bd rfl rfl ck) ?_)
    exact gK rfl rfl rfl rfl rfl k
  refine nS ?_
  refine co hres rfl ?_ ?_ <;> clear hres <;> intro c hres <;> try simp only [qa] at c
  ·refine az (ah (ae (bh (ae (sR (mV rfl (bN ld rfl rfl (mV rfl ?_))))))))
   refine bt 8 (d := 29) (v := vb ((decide (x1 = 0)) || (decide (40 < (((ix x0 a0).Cond).length : Int))))) ?_ ?_
   ·intro S Q r
    cases b0 : (decide (x1 = 0))
    ·intro k
     have a5 := b0
     try simp only [qa] at a5
     refine af rfl rfl (ak rfl) (af rfl rfl (ak rfl) ?_)
     obtain ⟨d6, c1, c4⟩ := cr (i := a0) r0 (by first | omega | (have hk := bc (by assumption) (by assumption); omega) | (have hk := tck (by assumption) (by assumption); omega) | (have hk := rtck (by assumption) (by assumption); omega) | (have hk := eck (by assumption) (by assumption) (by assumption); omega) | (have hk := tv (by assumption) (by assumption); omega) | (have hk := rtv (by assumption) (by assumption); omega)) (by first | omega | (have hk := bc (by assumption) (by assumption); omega) | (have hk := tck (by assumption) (by assumption); omega) | (have hk := rtck (by assumption) (by assumption); omega) | (have hk := eck (by assumption) (by assumption) (by assumption); omega) | (have hk := tv (by assumption) (by assumption); omega) | (have hk := rtv (by assumption) (by assumption); omega))
     refine af rfl rfl (bn rfl rfl c1) ?_
     obtain ⟨c9, c0, a6⟩ := aj.g_Cond c4
     refine af rfl rfl (bb rfl c0) (af rfl rfl (ba rfl (TR.cnt (tSl dn.t) a6) (TR.agg (tSl dn.t) a6)) (af rfl rfl (ca rfl (bq a6 Tryz.underlying163 _)) (af rfl rfl (bd rfl rfl gb) ?_)))
     exact gK rfl rfl rfl rfl rfl k
    ·exact gN 7 rfl rfl rfl rfl rfl rfl
   refine nS ?_
   refine co hres rfl ?_ ?_ <;> clear hres <;> intro c hres <;> try simp only [qa] at c
   ·refine sR (mI rfl (nS ?_))
    exact rR hres rfl rfl rfl
   ·refine az (ah (ai (mV rfl (mV rfl (mV rfl ?_)))))
    obtain ⟨d2, b8, c3⟩ := cr (i := a0) r0 (by first | omega | (have hk := bc (by assumption) (by assumption); omega) | (have hk := tck (by assumption) (by assumption); omega) | (have hk := rtck (by assumption) (by assumption); omega) | (have hk := eck (by assumption) (by assumption) (by assumption); omega) | (have hk := tv (by assumption) (by assumption); omega) | (have hk := rtv (by assumption) (by assumption); omega)) (by first | omega | (have hk := bc (by assumption) (by assumption); omega) | (have hk := tck (by assumption) (by assumption); omega) | (have hk := rtck (by assumption) (by assumption); omega) | (have hk := eck (by assumption) (by assumption) (by assumption); omega) | (have hk := tv (by assumption) (by assumption); omega) | (have hk := rtv (by assumption) (by assumption); omega))
    refine ab (bn rfl rfl b8) ?_
    obtain ⟨d0, b7, a4⟩ := aj.g_Then c3
    refine fA rfl b7 (lD a4 rfl rfl rfl (mV rfl (bN ak8 rfl rfl ?_)))
    obtain ⟨d1, a7, hres⟩ := cy hres
    have a8 := ihR (z0 := (ix x0 a0).Then) (z1 := (wr (x1 - 1))) a4 (by first | assumption | omega | (have := rv (by assumption) (by assumption); omega) | (rw [dt (by omega) (by omega)]; omega)) (by first | assumption | omega | (have := rv (by assumption) (by assumption); omega) | (rw [dt (by omega) (by omega)]; omega)) (by (rw [dt (by omega) (by omega)]; omega))
    rw [a7] at a8
    refine cL a8 rfl rfl (aq (TR.clo (tSl aj.t) a4) (aq rfl bg)) (bN dz rfl rfl (mV rfl (mV rfl ?_)))
    obtain ⟨d5, b6, b9⟩ := cr (i := a0) r0 (by first | omega | (have hk := bc (by assumption) (by assumption); omega) | (have hk := tck (by assumption) (by assumption); omega) | (have hk := rtck (by assumption) (by assumption); omega) | (have hk := eck (by assumption) (by assumption) (by assumption); omega) | (have hk := tv (by assumption) (by assumption); omega) | (have hk := rtv (by assumption) (by assumption); omega)) (by first | omega | (have hk := bc (by assumption) (by assumption); omega) | (have hk := tck (by assumption) (by assumption); omega) | (have hk := rtck (by assumption) (by assumption); omega) | (have hk := eck (by assumption) (by assumption) (by assumption); omega) | (have hk := tv (by assumption) (by assumption); omega) | (have hk := rtv (by assumption) (by assumption); omega))
    refine ab (bn rfl rfl b6) (gL (aj.g_Else b9) rfl rfl rfl fun c8 a9 => (mV rfl (bN ak8 rfl rfl ?_)))
    obtain ⟨d3, b1, hres⟩ := cy hres
    have b4 := ihR (z0 := (ix x0 a0).Else) (z1 := (wr (x1 - 1))) a9 (by first | assumption | omega | (have := rv (by assumption) (by assumption); omega) | (rw [dt (by omega) (by omega)]; omega)) (by first | assumption | omega | (have := rv (by assumption) (by assumption); omega) | (rw [dt (by omega) (by omega)]; omega)) (by (rw [dt (by omega) (by omega)]; omega))
    rw [b1] at b4
    refine cL b4 rfl rfl (aq (TR.clo (tSl aj.t) a9) (aq rfl bg)) (bN dz rfl rfl (mV rfl (aw (dc (ah (ai (mV rfl (bN dz rfl rfl ?_))))))))
    refine mV rfl (aw (cq ?_))
    have hbd := dm r0
    have hinc : wr (a0 + 1) = a0 + 1 := dt (by omega) (by omega)
    erw [hinc]
    exact wC (ih   (by omega) (by omega) hres) rfl
  ·refine di (dv (ct ?_))
   exact wP (c6  hres) rfl

theorem ci4 {rec_ : (List aj) → Int → Int} {mu_ : Nat} {x0 : List aj} {x1 : Int} {v0 : PV} (r0 : (tSl aj.t).R x0 v0) (hd : 0 ≤ x1) (a2 : x1 ≤ 100) (hmu : mu_ = x1.toNat) (ihR : ∀ {z0 : List aj} {z1 : Int} {a1 : PV} (a3 : (tSl aj.t).R z0 a1) (hd : 0 ≤ z1) (a2 : z1 ≤ 100), z1.toNat < mu_ → FnR Tryz.prog 63 [a1, vi z1] (vi (rec_ z0 z1))) : FnR Tryz.prog 63 [v0, vi x1] (vi (pq rec_ x0 x1)) := by
 refine fnS (R := RF63) db4 (fun _ h => h) rfl fun res hres => ?_
 unfold pq at hres
 refine sR (mI rfl (nR (mV rfl (ab (ca rfl (bq r0 Tryz.underlying28 _)) (mV rfl (nS (ae (sR ?_))))))))
 refine mI rfl (nS (bh ?_))
 refine wC (xp r0 hd a2 ihR hmu ?_  rfl (by omega) hres) rfl
 ·intro a0 hres
  refine fa (ah (sR (mV rfl (mV rfl (nS ?_)))))
  exact rR hres rfl rfl rfl
theorem ci8 : ∀ (n_ : Nat) {x0 : List aj} {x1 : Int} {v0 : PV} (r0 : (tSl aj.t).R x0 v0) (hd : 0 ≤ x1) (a0 : x1 ≤ 100), x1.toNat < n_ → FnR Tryz.prog 63 [v0, vi x1] (vi (mq n_ x0 x1)) := by
 intro n_
 induction n_ with
 | zero => intros; rename_i hlt; exact absurd hlt (Nat.not_lt_zero _)
 | succ n_ ihn =>
  intro x0 x1 v0 r0 hd a0 hlt
  have e_ : mq (n_ + 1) x0 x1 = pq (mq n_) x0 x1 := by rw [mq]
  rw [e_]
  exact ci4 r0 hd a0 rfl (fun {z0} {z1} {zv0} zr0 hd a0 hz => ihn zr0 hd a0 (by omega))
theorem cy5 {x0 : List aj} {x1 : Int} {v0 : PV} (r0 : (tSl aj.t).R x0 v0) (hd : 0 ≤ x1) (a0 : x1 ≤ 100) : FnR Tryz.prog 63 [v0, vi x1] (vi (na x0 x1)) := ci8 _ r0 hd a0 (Nat.lt_succ_self _)

def RF64 (res : Bool) (r : PV) : Prop := r = vb res
theorem xq {S : List Fr} {res : Bool} {x0 : cg} {v0 : PV} (r0 : cg.t.R x0 v0) (a3 : ((decide (30 < (x0.Name.length : Int))) || (decide (20 < (x0.Fields.length : Int)))) = false) {K0 : Unit → Bool}
  (b4 : K0 () = res → PX Tryz.prog 0 S (QR Tryz.prog [(2, none)] (RF64 res)) [] ⟨0, []⟩) :
  ∀ {m : Nat} {a0 : Int} (b1 : m = Int.toNat ((x0.Fields.length : Int) - a0)) (a4 : 0 ≤ a0), my x0 K0 m a0 = res → RC Tryz.prog (.loop co2) S (QR Tryz.prog [(2, none)] (RF64 res)) [(3, vi a0), (1, .fp v0)] ⟨0, []⟩ := by
 have a1 := a3
 try simp only [qa] at a1
 intro m
 induction m with
 | zero =>
  intro a0 b1 a4 hres
  rw [my] at hres
  refine br (ae (sR (mV rfl (gL (cg.g_Fields r0) rfl rfl rfl fun b6 a6 => (ab (ca rfl (bq a6 Tryz.underlying23 _)) (bN ck rfl rfl (nS ?_)))))))
  refine bf rfl ?_ ?_ <;> intro c <;> try simp only [qa] at c
  ·omega
  refine di (dv (ct ?_))
  exact wP (b4  hres) rfl
 | succ m ih =>
  intro a0 b1 a4 hres
  rw [my] at hres
  refine br (ae (sR (mV rfl ?_)))
  obtain ⟨b5, a8, a2⟩ := cg.g_Fields r0
  refine fA rfl a8 (lD a2 rfl rfl rfl (ab (ca rfl (bq a2 Tryz.underlying23 _)) (bN ck rfl rfl (nS ?_))))
  refine bf rfl ?_ ?_ <;> intro c <;> try simp only [qa] at c
  rotate_left
  ·omega
  refine az (ah (ae (bh (sR ?_))))
  obtain ⟨b3, b0, a5⟩ := cg.g_Fields r0
  refine fA rfl b0 (lD a5 rfl rfl rfl (mV rfl ?_))
  obtain ⟨b2, a7, a9⟩ := cr (i := a0) a5 (by first | omega | (have hk := bc (by assumption) (by assumption); omega) | (have hk := tck (by assumption) (by assumption); omega) | (have hk := rtck (by assumption) (by assumption); omega) | (have hk := eck (by assumption) (by assumption) (by assumption); omega) | (have hk := tv (by assumption) (by assumption); omega) | (have hk := rtv (by assumption) (by assumption); omega)) (by first | omega | (have hk := bc (by assumption) (by assumption); omega) | (have hk := tck (by assumption) (by assumption); omega) | (have hk := rtck (by assumption) (by assumption); omega) | (have hk := eck (by assumption) (by assumption) (by assumption); omega) | (have hk := tv (by assumption) (by assumption); omega) | (have hk := rtv (by assumption) (by assumption); omega))
  refine ab (bn rfl rfl a7) (fL rfl (bw.g_Name a9) rfl rfl (ab (ca rfl (mu Tryz.underlying9)) (bN gb rfl rfl (nS ?_))))
  refine co hres rfl ?_ ?_ <;> clear hres <;> intro c hres <;> try simp only [qa] at c
  ·refine sR (mB rfl (nS ?_))
   exact rR hres rfl rfl rfl
  ·refine az (dc (ah (ai (mV rfl (bN dz rfl rfl (mV rfl (aw (cq ?_))))))))
   have hbd := dm a2
   have hinc : wr (a0 + 1) = a0 + 1 := dt (by omega) (by omega)
   erw [hinc]
   exact wC (ih   (by omega) (by omega) hres) rfl

theorem dd1 {x0 : cg} {v0 : PV} (r0 : cg.t.R x0 v0) : FnR Tryz.prog 64 [v0] (vb (tz x0)) := by
 refine fnS (R := RF64) cz6 (fun _ h => h) rfl fun res hres => ?_
 unfold tz at hres
 refine sR (ab (db rfl (TR.cnt cg.t r0)) (mB rfl (nS (ae (sR (fL rfl (cg.g_Name r0) rfl rfl (ab (ca rfl (mu Tryz.underlying9)) (bN gb rfl rfl ?_))))))))
 refine mV rfl ?_
 refine bt 5 (d := 13) (v := vb ((decide (30 < (x0.Name.length : Int))) || (decide (20 < (x0.Fields.length : Int))))) ?_ ?_
 ·intro S Q r
  cases a4 : (decide (30 < (x0.Name.length : Int)))
  ·intro k
   have a2 := a4
   try simp only [qa] at a2
   obtain ⟨a6, a5, a3⟩ := cg.g_Fields r0
   refine af rfl rfl (bb rfl a5) (af rfl rfl (ba rfl (TR.cnt (tSl bw.t) a3) (TR.agg (tSl bw.t) a3)) (af rfl rfl (ca rfl (bq a3 Tryz.underlying23 _)) (af rfl rfl (bd rfl rfl gb) ?_)))
   exact gK rfl rfl rfl rfl rfl k
  ·exact gN 4 rfl rfl rfl rfl rfl rfl
 refine nS ?_
 refine co hres rfl ?_ ?_ <;> clear hres <;> intro a0 hres <;> have a1 := a0 <;> try simp only [qa] at a1
 ·refine sR (mB rfl (nS ?_))
  exact rR hres rfl rfl rfl
 ·refine az (ah (ae (sR (mI rfl (nS (bh ?_))))))
  refine wC (xq r0 a0 ?_  rfl (by omega) hres) rfl
  ·intro  hres
   refine fa (ah (sR (mB rfl (nS ?_))))
   exact rR hres rfl rfl rfl

def RF65 (res : Bool) (r : PV) : Prop := r = vb res
theorem rz {S : List Fr} {res : Bool} {x0 : cn} {v0 : PV} (r0 : cn.t.R x0 v0) (a6 : (((decide (8 < (x0.Params.length : Int))) || (decide (16 < (x0.Body.length : Int)))) || (decide (60 < (x0.Name.length : Int)))) = false) {K0 : Unit → Bool}
  (c6 : K0 () = res → PX Tryz.prog 0 S (QR Tryz.prog [(2, none)] (RF65 res)) [] ⟨0, []⟩) :
  ∀ {m : Nat} {a0 : Int} (b8 : m = Int.toNat ((x0.Body.length : Int) - a0)) (a5 : 0 ≤ a0), ju x0 K0 m a0 = res → RC Tryz.prog (.loop cl0) S (QR Tryz.prog [(2, none)] (RF65 res)) [(3, vi a0), (1, .fp v0)] ⟨0, []⟩ := by
 have a3 := a6
 try simp only [qa] at a3
 intro m
 induction m with
 | zero =>
  intro a0 b8 a5 hres
  rw [ju] at hres
  refine br (ae (sR (mV rfl (gL (cn.g_Body r0) rfl rfl rfl fun c8 b6 => (ab (ca rfl (bq b6 Tryz.underlying118 _)) (bN ck rfl rfl (nS ?_)))))))
  refine bf rfl ?_ ?_ <;> intro c <;> try simp only [qa] at c
  ·omega
  refine di (dv (ct ?_))
  exact wP (c6  hres) rfl
 | succ m ih =>
  intro a0 b8 a5 hres
  rw [ju] at hres
  refine br (ae (sR (mV rfl (gL (cn.g_Body r0) rfl rfl rfl fun c1 a8 => (ab (ca rfl (bq a8 Tryz.underlying118 _)) (bN ck rfl rfl (nS ?_)))))))
  refine bf rfl ?_ ?_ <;> intro c <;> try simp only [qa] at c
  rotate_left
  ·omega
  refine az (ah (ae (bh (sR (gL (cn.g_Body r0) rfl rfl rfl fun b9 b2 => (mV rfl ?_))))))
  obtain ⟨c5, b3, b5⟩ := cr (i := a0) b2 (by first | omega | (have hk := bc (by assumption) (by assumption); omega) | (have hk := tck (by assumption) (by assumption); omega) | (have hk := rtck (by assumption) (by assumption); omega) | (have hk := eck (by assumption) (by assumption) (by assumption); omega) | (have hk := tv (by assumption) (by assumption); omega) | (have hk := rtv (by assumption) (by assumption); omega)) (by first | omega | (have hk := bc (by assumption) (by assumption); omega) | (have hk := tck (by assumption) (by assumption); omega) | (have hk := rtck (by assumption) (by assumption); omega) | (have hk := eck (by assumption) (by assumption) (by assumption); omega) | (have hk := tv (by assumption) (by assumption); omega) | (have hk := rtv (by assumption) (by assumption); omega))
  refine ab (bn rfl rfl b3) (gL (df.g_Index b5) rfl rfl rfl fun c3 b4 => (ab (ca rfl (bq b4 Tryz.underlying163 _)) (bN gb rfl rfl (mV rfl ?_))))
  refine bt 9 (d := 44) (v := vb ((decide (40 < (((ix x0.Body a0).Index).length : Int))) || (decide (40 < (((ix x0.Body a0).Value).length : Int))))) ?_ ?_
  ·intro S Q r
   cases a7 : (decide (40 < (((ix x0.Body a0).Index).length : Int)))
   ·intro k
    have a4 := a7
    try simp only [qa] at a4
    obtain ⟨c7, b7, a2⟩ := cn.g_Body r0
    refine af rfl rfl (bb rfl b7) (af rfl rfl (ba rfl (TR.cnt (tSl df.t) a2) (TR.agg (tSl df.t) a2)) (af rfl rfl (ak rfl) ?_))
    obtain ⟨c4, b1, b0⟩ := cr (i := a0) a2 (by first | omega | (have hk := bc (by assumption) (by assumption); omega) | (have hk := tck (by assumption) (by assumption); omega) | (have hk := rtck (by assumption) (by assumption); omega) | (have hk := eck (by assumption) (by assumption) (by assumption); omega) | (have hk := tv (by assumption) (by assumption); omega) | (have hk := rtv (by assumption) (by assumption); omega)) (by first | omega | (have hk := bc (by assumption) (by assumption); omega) | (have hk := tck (by assumption) (by assumption); omega) | (have hk := rtck (by assumption) (by assumption); omega) | (have hk := eck (by assumption) (by assumption) (by assumption); omega) | (have hk := tv (by assumption) (by assumption); omega) | (have hk := rtv (by assumption) (by assumption); omega))
    refine af rfl rfl (bn rfl rfl b1) ?_
    obtain ⟨c0, a9, a1⟩ := df.g_Value b0
    refine af rfl rfl (bb rfl a9) (af rfl rfl (ba rfl (TR.cnt (tSl dn.t) a1) (TR.agg (tSl dn.t) a1)) (af rfl rfl (ca rfl (bq a1 Tryz.underlying163 _)) (af rfl rfl (bd rfl rfl gb) ?_)))
    exact gK rfl rfl rfl rfl rfl k
   ·exact gN 8 rfl rfl rfl rfl rfl rfl
  refine nS ?_
  refine co hres rfl ?_ ?_ <;> clear hres <;> intro c hres <;> try simp only [qa] at c
  ·refine sR (mB rfl (nS ?_))
   exact rR hres rfl rfl rfl
  ·refine az (dc (ah (ai (mV rfl (bN dz rfl rfl (mV rfl (aw (cq ?_))))))))
   have hbd := dm a8
   have hinc : wr (a0 + 1) = a0 + 1 := dt (by omega) (by omega)
   erw [hinc]
   exact wC (ih   (by omega) (by omega) hres) rfl

theorem cw3 {x0 : cn} {v0 : PV} (r0 : cn.t.R x0 v0) : FnR Tryz.prog 65 [v0] (vb (ow x0)) := by
 refine fnS (R := RF65) dk3 (fun _ h => h) rfl fun res hres => ?_
 unfold ow at hres
 refine sR (ab (db rfl (TR.cnt cn.t r0)) (mB rfl (nS (ae (sR ?_)))))
 obtain ⟨b1, a8, a7⟩ := cn.g_Params r0
 refine fA rfl a8 (lD a7 rfl rfl rfl (ab (ca rfl (bq a7 Tryz.underlying23 _)) (bN gb rfl rfl (mV rfl ?_))))
 refine bt 5 (d := 13) (v := vb ((decide (8 < (x0.Params.length : Int))) || (decide (16 < (x0.Body.length : Int))))) ?_ ?_
 ·intro S Q r
  cases a6 : (decide (8 < (x0.Params.length : Int)))
  ·intro k
   have a1 := a6
   try simp only [qa] at a1
   obtain ⟨b0, a9, a2⟩ := cn.g_Body r0
   refine af rfl rfl (bb rfl a9) (af rfl rfl (ba rfl (TR.cnt (tSl df.t) a2) (TR.agg (tSl df.t) a2)) (af rfl rfl (ca rfl (bq a2 Tryz.underlying118 _)) (af rfl rfl (bd rfl rfl gb) ?_)))
   exact gK rfl rfl rfl rfl rfl k
  ·exact gN 4 rfl rfl rfl rfl rfl rfl
 refine mV rfl ?_
 refine bt 5 (d := 19) (v := vb (((decide (8 < (x0.Params.length : Int))) || (decide (16 < (x0.Body.length : Int)))) || (decide (60 < (x0.Name.length : Int))))) ?_ ?_
 ·intro S Q r
  cases a5 : ((decide (8 < (x0.Params.length : Int))) || (decide (16 < (x0.Body.length : Int))))
  ·intro k
   have a4 := a5
   try simp only [qa] at a4
   refine af rfl rfl (bb rfl (cn.g_Name r0)) (af rfl rfl (ba rfl rfl rfl) (af rfl rfl (ca rfl (mu Tryz.underlying9)) (af rfl rfl (bd rfl rfl gb) ?_)))
   exact gK rfl rfl rfl rfl rfl k
  ·exact gN 4 rfl rfl rfl rfl rfl rfl
 refine nS ?_
 refine co hres rfl ?_ ?_ <;> clear hres <;> intro a0 hres <;> have a3 := a0 <;> try simp only [qa] at a3
 ·refine sR (mB rfl (nS ?_))
  exact rR hres rfl rfl rfl
 ·refine az (ah (ae (sR (mI rfl (nS (bh ?_))))))
  refine wC (rz r0 a0 ?_  rfl (by omega) hres) rfl
  ·intro  hres
   refine fa (ah (sR (mB rfl (nS ?_))))
   exact rR hres rfl rfl rfl

def RF66 (res : Bool) (r : PV) : Prop := r = vb res
theorem di2 {x0 : cf} {v0 : PV} (r0 : cf.t.R x0 v0) : FnR Tryz.prog 66 [v0] (vb (pf x0)) := by
 refine fnS (R := RF66) dg0 (fun _ h => h) rfl fun res hres => ?_
 unfold pf at hres
 refine sR (ab (db rfl (TR.cnt cf.t r0)) (mB rfl (nR (gL (cf.g_Extract r0) rfl rfl rfl fun a8 a5 => (ab (ca rfl (bq a5 Tryz.underlying29 _)) (bN gb rfl rfl (mV rfl ?_)))))))
 refine bt 5 (d := 12) (v := vb ((decide (8 < (x0.Extract.length : Int))) || (decide (12 < (x0.Cases.length : Int))))) ?_ ?_
 ·intro S Q r
  cases a4 : (decide (8 < (x0.Extract.length : Int)))
  ·intro k
   have a0 := a4
   try simp only [qa] at a0
   obtain ⟨a7, a6, a1⟩ := cf.g_Cases r0
   refine af rfl rfl (bb rfl a6) (af rfl rfl (ba rfl (TR.cnt (tSl dy.t) a1) (TR.agg (tSl dy.t) a1)) (af rfl rfl (ca rfl (bq a1 Tryz.underlying122 _)) (af rfl rfl (bd rfl rfl gb) ?_)))
   exact gK rfl rfl rfl rfl rfl k
  ·exact gN 4 rfl rfl rfl rfl rfl rfl
 refine mV rfl ?_
 refine bt 5 (d := 18) (v := vb (((decide (8 < (x0.Extract.length : Int))) || (decide (12 < (x0.Cases.length : Int)))) || (decide (60 < (x0.Name.length : Int))))) ?_ ?_
 ·intro S Q r
  cases a3 : ((decide (8 < (x0.Extract.length : Int))) || (decide (12 < (x0.Cases.length : Int))))
  ·intro k
   have a2 := a3
   try simp only [qa] at a2
   refine af rfl rfl (bb rfl (cf.g_Name r0)) (af rfl rfl (ba rfl rfl rfl) (af rfl rfl (ca rfl (mu Tryz.underlying9)) (af rfl rfl (bd rfl rfl gb) ?_)))
   exact gK rfl rfl rfl rfl rfl k
  ·exact gN 4 rfl rfl rfl rfl rfl rfl
 refine mV rfl (nS ?_)
 exact rR hres rfl rfl rfl

def RF27 (res : Bool) (r : PV) : Prop := r = vb res
theorem uh {S : List Fr} {res : Bool} {x0 : aa} {v0 : PV} (r0 : aa.t.R x0 v0) (a4 : (((((((((decide (60 < (x0.Name.length : Int))) || (decide (16 < (x0.Headers.length : Int)))) || (decide (20 < (x0.Metadata.length : Int)))) || (decide (8 < (x0.Registers.length : Int)))) || (decide (24 < (x0.Actions.length : Int)))) || (decide (16 < (x0.Tables.length : Int)))) || (decide (16 < (x0.States.length : Int)))) || (decide (16 < (x0.Deparser.length : Int)))) || (decide (60 < (na x0.Control 10)))) = false) {K0 : Unit → Bool}
  (b7 : K0 () = res → PX Tryz.prog 0 S (QR Tryz.prog [(2, none)] (RF27 res)) [(1, .fp v0)] ⟨0, []⟩) :
  ∀ {m : Nat} {a0 : Int} (b1 : m = Int.toNat ((x0.Headers.length : Int) - a0)) (a6 : 0 ≤ a0), lj x0 K0 m a0 = res → RC Tryz.prog (.loop cd8) S (QR Tryz.prog [(2, none)] (RF27 res)) [(3, vi a0), (1, .fp v0)] ⟨0, []⟩ := by
 have a1 := a4
 try simp only [qa] at a1
 intro m
 induction m with
 | zero =>
  intro a0 b1 a6 hres
  rw [lj] at hres
  refine br (ae (sR (mV rfl (gL (aa.g_Headers r0) rfl rfl rfl fun b2 a9 => (ab (ca rfl (bq a9 Tryz.underlying22 _)) (bN ck rfl rfl (nS ?_)))))))
  refine bf rfl ?_ ?_ <;> intro c <;> try simp only [qa] at c
  ·omega
  refine di (dv (ct ?_))
  exact wP (b7  hres) rfl
 | succ m ih =>
  intro a0 b1 a6 hres
  rw [lj] at hres
  refine br (ae (sR (mV rfl (gL (aa.g_Headers r0) rfl rfl rfl fun b4 a5 => (ab (ca rfl (bq a5 Tryz.underlying22 _)) (bN ck rfl rfl (nS ?_)))))))
  refine bf rfl ?_ ?_ <;> intro c <;> try simp only [qa] at c
  rotate_left
  ·omega
  refine az (ah (ae (bh (sR (gL (aa.g_Headers r0) rfl rfl rfl fun b5 b0 => (mV rfl ?_))))))
  obtain ⟨b3, a8, a2⟩ := cr (i := a0) b0 (by first | omega | (have hk := bc (by assumption) (by assumption); omega) | (have hk := tck (by assumption) (by assumption); omega) | (have hk := rtck (by assumption) (by assumption); omega) | (have hk := eck (by assumption) (by assumption) (by assumption); omega) | (have hk := tv (by assumption) (by assumption); omega) | (have hk := rtv (by assumption) (by assumption); omega)) (by first | omega | (have hk := bc (by assumption) (by assumption); omega) | (have hk := tck (by assumption) (by assumption); omega) | (have hk := rtck (by assumption) (by assumption); omega) | (have hk := eck (by assumption) (by assumption) (by assumption); omega) | (have hk := tv (by assumption) (by assumption); omega) | (have hk := rtv (by assumption) (by assumption); omega))
  refine ab (bn rfl rfl a8) (lD a2 rfl rfl rfl ?_)
  obtain ⟨b6, a7, hres⟩ := cy hres
  have a3 := dd1  a2 
  rw [a7] at a3
  refine cL a3 rfl rfl (aq (TR.clo cg.t a2) bg) (ab (ft rfl) (nS ?_))
  refine co hres rfl ?_ ?_ <;> clear hres <;> intro c hres <;> try simp only [qa] at c
  ·refine sR (mB rfl (nS ?_))
   exact rR hres rfl rfl rfl
  ·refine az (dc (ah (ai (mV rfl (bN dz rfl rfl (mV rfl (aw (cq ?_))))))))
   have hbd := dm a5
   have hinc : wr (a0 + 1) = a0 + 1 := dt (by omega) (by omega)
   erw [hinc]
   exact wC (ih   (by omega) (by omega) hres) rfl

theorem ui {S : List Fr} {res : Bool} {x0 : aa} {v0 : PV} (r0 : aa.t.R x0 v0) (a6 : (((((((((decide (60 < (x0.Name.length : Int))) || (decide (16 < (x0.Headers.length : Int)))) || (decide (20 < (x0.Metadata.length : Int)))) || (decide (8 < (x0.Registers.length : Int)))) || (decide (24 < (x0.Actions.length : Int)))) || (decide (16 < (x0.Tables.length : Int)))) || (decide (16 < (x0.States.length : Int)))) || (decide (16 < (x0.Deparser.length : Int)))) || (decide (60 < (na x0.Control 10)))) = false) {K2 : Unit → Bool}
  (b5 : K2 () = res → PX Tryz.prog 2 S (QR Tryz.prog [(2, none)] (RF27 res)) [(1, .fp v0)] ⟨0, []⟩) :
  ∀ {m : Nat} {a0 : Int} (b1 : m = Int.toNat ((x0.Actions.length : Int) - a0)) (a4 : 0 ≤ a0), lh x0 K2 m a0 = res → RC Tryz.prog (.loop cn5) S (QR Tryz.prog [(2, none)] (RF27 res)) [(4, vi a0), (1, .fp v0)] ⟨0, []⟩ := by
 have a1 := a6
 try simp only [qa] at a1
 intro m
 induction m with
 | zero =>
  intro a0 b1 a4 hres
  rw [lh] at hres
  refine br (ae (sR (mV rfl (gL (aa.g_Actions r0) rfl rfl rfl fun b2 a9 => (ab (ca rfl (bq a9 Tryz.underlying25 _)) (bN ck rfl rfl (nS ?_)))))))
  refine bf rfl ?_ ?_ <;> intro c <;> try simp only [qa] at c
  ·omega
  refine di (dv (ct ?_))
  exact wP (b5  hres) rfl
 | succ m ih =>
  intro a0 b1 a4 hres
  rw [lh] at hres
  refine br (ae (sR (mV rfl (gL (aa.g_Actions r0) rfl rfl rfl fun b6 a7 => (ab (ca rfl (bq a7 Tryz.underlying25 _)) (bN ck rfl rfl (nS ?_)))))))
  refine bf rfl ?_ ?_ <;> intro c <;> try simp only [qa] at c
  rotate_left
  ·omega
  refine az (ah (ae (bh (sR (gL (aa.g_Actions r0) rfl rfl rfl fun b4 b0 => (mV rfl ?_))))))
  obtain ⟨b7, a8, a2⟩ := cr (i := a0) b0 (by first | omega | (have hk := bc (by assumption) (by assumption); omega) | (have hk := tck (by assumption) (by assumption); omega) | (have hk := rtck (by assumption) (by assumption); omega) | (have hk := eck (by assumption) (by assumption) (by assumption); omega) | (have hk := tv (by assumption) (by assumption); omega) | (have hk := rtv (by assumption) (by assumption); omega)) (by first | omega | (have hk := bc (by assumption) (by assumption); omega) | (have hk := tck (by assumption) (by assumption); omega) | (have hk := rtck (by assumption) (by assumption); omega) | (have hk := eck (by assumption) (by assumption) (by assumption); omega) | (have hk := tv (by assumption) (by assumption); omega) | (have hk := rtv (by assumption) (by assumption); omega))
  refine ab (bn rfl rfl a8) (lD a2 rfl rfl rfl ?_)
  obtain ⟨b3, a5, hres⟩ := cy hres
  have a3 := cw3  a2 
  rw [a5] at a3
  refine cL a3 rfl rfl (aq (TR.clo cn.t a2) bg) (nS ?_)
  refine co hres rfl ?_ ?_ <;> clear hres <;> intro c hres <;> try simp only [qa] at c
  ·refine sR (mB rfl (nS ?_))
   exact rR hres rfl rfl rfl
  ·refine az (dc (ah (ai (mV rfl (bN dz rfl rfl (mV rfl (aw (cq ?_))))))))
   have hbd := dm a7
   have hinc : wr (a0 + 1) = a0 + 1 := dt (by omega) (by omega)
   erw [hinc]
   exact wC (ih   (by omega) (by omega) hres) rfl

theorem uu {S : List Fr} {res : Bool} {x0 : aa} {v0 : PV} (r0 : aa.t.R x0 v0) (b1 : (((((((((decide (60 < (x0.Name.length : Int))) || (decide (16 < (x0.Headers.length : Int)))) || (decide (20 < (x0.Metadata.length : Int)))) || (decide (8 < (x0.Registers.length : Int)))) || (decide (24 < (x0.Actions.length : Int)))) || (decide (16 < (x0.Tables.length : Int)))) || (decide (16 < (x0.States.length : Int)))) || (decide (16 < (x0.Deparser.length : Int)))) || (decide (60 < (na x0.Control 10)))) = false) {K4 : Unit → Bool}
  (d7 : K4 () = res → PX Tryz.prog 4 S (QR Tryz.prog [(2, none)] (RF27 res)) [(1, .fp v0)] ⟨0, []⟩) :
  ∀ {m : Nat} {a0 : Int} (d5 : m = Int.toNat ((x0.Tables.length : Int) - a0)) (b3 : 0 ≤ a0), lq x0 K4 m a0 = res → RC Tryz.prog (.loop co1) S (QR Tryz.prog [(2, none)] (RF27 res)) [(5, vi a0), (1, .fp v0)] ⟨0, []⟩ := by
 have a5 := b1
 try simp only [qa] at a5
 intro m
 induction m with
 | zero =>
  intro a0 d5 b3 hres
  rw [lq] at hres
  refine br (ae (sR (mV rfl (gL (aa.g_Tables r0) rfl rfl rfl fun d6 c1 => (ab (ca rfl (bq c1 Tryz.underlying26 _)) (bN ck rfl rfl (nS ?_)))))))
  refine bf rfl ?_ ?_ <;> intro c <;> try simp only [qa] at c
  ·omega
  refine di (dv (ct ?_))
  exact wP (d7  hres) rfl
 | succ m ih =>
  intro a0 d5 b3 hres
  rw [lq] at hres
  refine br (ae (sR (mV rfl (gL (aa.g_Tables r0) rfl rfl rfl fun f0 b2 => (ab (ca rfl (bq b2 Tryz.underlying26 _)) (bN ck rfl rfl (nS ?_)))))))
  refine bf rfl ?_ ?_ <;> intro c <;> try simp only [qa] at c
  rotate_left
  ·omega
  refine az (ah (ae (bh (sR (gL (aa.g_Tables r0) rfl rfl rfl fun e9 b9 => (mV rfl ?_))))))
  obtain ⟨e8, c4, b6⟩ := cr (i := a0) b9 (by first | omega | (have hk := bc (by assumption) (by assumption); omega) | (have hk := tck (by assumption) (by assumption); omega) | (have hk := rtck (by assumption) (by assumption); omega) | (have hk := eck (by assumption) (by assumption) (by assumption); omega) | (have hk := tv (by assumption) (by assumption); omega) | (have hk := rtv (by assumption) (by assumption); omega)) (by first | omega | (have hk := bc (by assumption) (by assumption); omega) | (have hk := tck (by assumption) (by assumption); omega) | (have hk := rtck (by assumption) (by assumption); omega) | (have hk := eck (by assumption) (by assumption) (by assumption); omega) | (have hk := tv (by assumption) (by assumption); omega) | (have hk := rtv (by assumption) (by assumption); omega))
  refine ab (bn rfl rfl c4) (gL (ax.g_Keys b6) rfl rfl rfl fun e7 d0 => (ab (ca rfl (bq d0 Tryz.underlying85 _)) (bN gb rfl rfl (mV rfl ?_))))
  refine bt 9 (d := 110) (v := vb ((decide (10 < (((ix x0.Tables a0).Keys).length : Int))) || (decide (24 < (((ix x0.Tables a0).Actions).length : Int))))) ?_ ?_
  ·intro S Q r
   cases b0 : (decide (10 < (((ix x0.Tables a0).Keys).length : Int)))
   ·intro k
    have a8 := b0
    try simp only [qa] at a8
    obtain ⟨e0, b7, a3⟩ := aa.g_Tables r0
    refine af rfl rfl (bb rfl b7) (af rfl rfl (ba rfl (TR.cnt (tSl ax.t) a3) (TR.agg (tSl ax.t) a3)) (af rfl rfl (ak rfl) ?_))
    obtain ⟨e4, d4, c9⟩ := cr (i := a0) a3 (by first | omega | (have hk := bc (by assumption) (by assumption); omega) | (have hk := tck (by assumption) (by assumption); omega) | (have hk := rtck (by assumption) (by assumption); omega) | (have hk := eck (by assumption) (by assumption) (by assumption); omega) | (have hk := tv (by assumption) (by assumption); omega) | (have hk := rtv (by assumption) (by assumption); omega)) (by first | omega | (have hk := bc (by assumption) (by assumption); omega) | (have hk := tck (by assumption) (by assumption); omega) | (have hk := rtck (by assumption) (by assumption); omega) | (have hk := eck (by assumption) (by assumption) (by assumption); omega) | (have hk := tv (by assumption) (by assumption); omega) | (have hk := rtv (by assumption) (by assumption); omega))
    refine af rfl rfl (bn rfl rfl d4) ?_
    obtain ⟨e1, d1, a7⟩ := ax.g_Actions c9
    refine af rfl rfl (bb rfl d1) (af rfl rfl (ba rfl (TR.cnt (tSl tI) a7) (TR.agg (tSl tI) a7)) (af rfl rfl (ca rfl (bq a7 Tryz.underlying29 _)) (af rfl rfl (bd rfl rfl gb) ?_)))
    exact gK rfl rfl rfl rfl rfl k
   ·exact gN 8 rfl rfl rfl rfl rfl rfl
  refine mV rfl ?_
  refine bt 10 (d := 121) (v := vb (((decide (10 < (((ix x0.Tables a0).Keys).length : Int))) || (decide (24 < (((ix x0.Tables a0).Actions).length : Int)))) || (decide (8 < ((((ix x0.Tables a0).Default).Args).length : Int))))) ?_ ?_
  ·intro S Q r
   cases b4 : ((decide (10 < (((ix x0.Tables a0).Keys).length : Int))) || (decide (24 < (((ix x0.Tables a0).Actions).length : Int))))
   ·intro k
    have a1 := b4
    try simp only [qa] at a1
    obtain ⟨e2, c7, a9⟩ := aa.g_Tables r0
    refine af rfl rfl (bb rfl c7) (af rfl rfl (ba rfl (TR.cnt (tSl ax.t) a9) (TR.agg (tSl ax.t) a9)) (af rfl rfl (ak rfl) ?_))
    obtain ⟨e5, c5, d2⟩ := cr (i := a0) a9 (by first | omega | (have hk := bc (by assumption) (by assumption); omega) | (have hk := tck (by assumption) (by assumption); omega) | (have hk := rtck (by assumption) (by assumption); omega) | (have hk := eck (by assumption) (by assumption) (by assumption); omega) | (have hk := tv (by assumption) (by assumption); omega) | (have hk := rtv (by assumption) (by assumption); omega)) (by first | omega | (have hk := bc (by assumption) (by assumption); omega) | (have hk := tck (by assumption) (by assumption); omega) | (have hk := rtck (by assumption) (by assumption); omega) | (have hk := eck (by assumption) (by assumption) (by assumption); omega) | (have hk := tv (by assumption) (by assumption); omega) | (have hk := rtv (by assumption) (by assumption); omega))
    refine af rfl rfl (bn rfl rfl c5) ?_
    obtain ⟨e3, b8, c3⟩ := ax.g_Default d2
    refine af rfl rfl (bb rfl b8) ?_
    obtain ⟨d9, c6, a6⟩ := av.g_Args c3
    refine af rfl rfl (bb rfl c6) (af rfl rfl (ba rfl (TR.cnt (tSl kg) a6) (TR.agg (tSl kg) a6)) (af rfl rfl (ca rfl (bq a6 Tryz.underlying33 _)) (af rfl rfl (bd rfl rfl gb) ?_)))
    exact gK rfl rfl rfl rfl rfl k
   ·exact gN 9 rfl rfl rfl rfl rfl rfl
  refine mV rfl ?_
  refine bt 9 (d := 131) (v := vb ((((decide (10 < (((ix x0.Tables a0).Keys).length : Int))) || (decide (24 < (((ix x0.Tables a0).Actions).length : Int)))) || (decide (8 < ((((ix x0.Tables a0).Default).Args).length : Int)))) || (decide (60 < (((ix x0.Tables a0).Name).length : Int))))) ?_ ?_
  ·intro S Q r
   cases b5 : (((decide (10 < (((ix x0.Tables a0).Keys).length : Int))) || (decide (24 < (((ix x0.Tables a0).Actions).length : Int)))) || (decide (8 < ((((ix x0.Tables a0).Default).Args).length : Int))))
   ·intro k
    have a2 := b5
    try simp only [qa] at a2
    obtain ⟨d8, c0, a4⟩ := aa.g_Tables r0
    refine af rfl rfl (bb rfl c0) (af rfl rfl (ba rfl (TR.cnt (tSl ax.t) a4) (TR.agg (tSl ax.t) a4)) (af rfl rfl (ak rfl) ?_))
    obtain ⟨e6, c8, d3⟩ := cr (i := a0) a4 (by first | omega | (have hk := bc (by assumption) (by assumption); omega) | (have hk := tck (by assumption) (by assumption); omega) | (have hk := rtck (by assumption) (by assumption); omega) | (have hk := eck (by assumption) (by assumption) (by assumption); omega) | (have hk := tv (by assumption) (by assumption); omega) | (have hk := rtv (by assumption) (by assumption); omega)) (by first | omega | (have hk := bc (by assumption) (by assumption); omega) | (have hk := tck (by assumption) (by assumption); omega) | (have hk := rtck (by assumption) (by assumption); omega) | (have hk := eck (by assumption) (by assumption) (by assumption); omega) | (have hk := tv (by assumption) (by assumption); omega) | (have hk := rtv (by assumption) (by assumption); omega))
    refine af rfl rfl (bn rfl rfl c8) (af rfl rfl (bb rfl (ax.g_Name d3)) (af rfl rfl (ba rfl rfl rfl) (af rfl rfl (ca rfl (mu Tryz.underlying9)) (af rfl rfl (bd rfl rfl gb) ?_))))
    exact gK rfl rfl rfl rfl rfl k
   ·exact gN 8 rfl rfl rfl rfl rfl rfl
  refine nS ?_
  refine co hres rfl ?_ ?_ <;> clear hres <;> intro c hres <;> try simp only [qa] at c
  ·refine sR (mB rfl (nS ?_))
   exact rR hres rfl rfl rfl
  ·refine az (dc (ah (ai (mV rfl (bN dz rfl rfl (mV rfl (aw (cq ?_))))))))
   have hbd := dm b2
   have hinc : wr (a0 + 1) = a0 + 1 := dt (by omega) (by omega)
   erw [hinc]
   exact wC (ih   (by omega) (by omega) hres) rfl

theorem ur {S : List Fr} {res : Bool} {x0 : aa} {v0 : PV} (r0 : aa.t.R x0 v0) (a3 : (((((((((decide (60 < (x0.Name.length : Int))) || (decide (16 < (x0.Headers.length : Int)))) || (decide (20 < (x0.Metadata.length : Int)))) || (decide (8 < (x0.Registers.length : Int)))) || (decide (24 < (x0.Actions.length : Int)))) || (decide (16 < (x0.Tables.length : Int)))) || (decide (16 < (x0.States.length : Int)))) || (decide (16 < (x0.Deparser.length : Int)))) || (decide (60 < (na x0.Control 10)))) = false) {K6 : Unit → Bool}
  (b4 : K6 () = res → PX Tryz.prog 6 S (QR Tryz.prog [(2, none)] (RF27 res)) [] ⟨0, []⟩) :
  ∀ {m : Nat} {a0 : Int} (b1 : m = Int.toNat ((x0.States.length : Int) - a0)) (a7 : 0 ≤ a0), ll x0 K6 m a0 = res → RC Tryz.prog (.loop cq8) S (QR Tryz.prog [(2, none)] (RF27 res)) [(6, vi a0), (1, .fp v0)] ⟨0, []⟩ := by
 have a1 := a3
 try simp only [qa] at a1
 intro m
 induction m with
 | zero =>
  intro a0 b1 a7 hres
  rw [ll] at hres
  refine br (ae (sR (mV rfl (gL (aa.g_States r0) rfl rfl rfl fun b5 b0 => (ab (ca rfl (bq b0 Tryz.underlying27 _)) (bN ck rfl rfl (nS ?_)))))))
  refine bf rfl ?_ ?_ <;> intro c <;> try simp only [qa] at c
  ·omega
  refine di (dv (ct ?_))
  exact wP (b4  hres) rfl
 | succ m ih =>
  intro a0 b1 a7 hres
  rw [ll] at hres
  refine br (ae (sR (mV rfl (gL (aa.g_States r0) rfl rfl rfl fun b7 a4 => (ab (ca rfl (bq a4 Tryz.underlying27 _)) (bN ck rfl rfl (nS ?_)))))))
  refine bf rfl ?_ ?_ <;> intro c <;> try simp only [qa] at c
  rotate_left
  ·omega
  refine az (ah (ae (bh (sR (gL (aa.g_States r0) rfl rfl rfl fun b3 a9 => (mV rfl ?_))))))
  obtain ⟨b2, a8, a2⟩ := cr (i := a0) a9 (by first | omega | (have hk := bc (by assumption) (by assumption); omega) | (have hk := tck (by assumption) (by assumption); omega) | (have hk := rtck (by assumption) (by assumption); omega) | (have hk := eck (by assumption) (by assumption) (by assumption); omega) | (have hk := tv (by assumption) (by assumption); omega) | (have hk := rtv (by assumption) (by assumption); omega)) (by first | omega | (have hk := bc (by assumption) (by assumption); omega) | (have hk := tck (by assumption) (by assumption); omega) | (have hk := rtck (by assumption) (by assumption); omega) | (have hk := eck (by assumption) (by assumption) (by assumption); omega) | (have hk := tv (by assumption) (by assumption); omega) | (have hk := rtv (by assumption) (by assumption); omega))
  refine ab (bn rfl rfl a8) (lD a2 rfl rfl rfl ?_)
  obtain ⟨b6, a6, hres⟩ := cy hres
  have a5 := di2  a2 
  rw [a6] at a5
  refine cL a5 rfl rfl (aq (TR.clo cf.t a2) bg) (nS ?_)
  refine co hres rfl ?_ ?_ <;> clear hres <;> intro c hres <;> try simp only [qa] at c
  ·refine sR (mB rfl (nS ?_))
   exact rR hres rfl rfl rfl
  ·refine az (dc (ah (ai (mV rfl (bN dz rfl rfl (mV rfl (aw (cq ?_))))))))
   have hbd := dm a4
   have hinc : wr (a0 + 1) = a0 + 1 := dt (by omega) (by omega)
   erw [hinc]
   exact wC (ih   (by omega) (by omega) hres) rfl

theorem cx7 {x0 : aa} {v0 : PV} (r0 : aa.t.R x0 v0) : FnR Tryz.prog 27 [v0] (vb (lv x0)) := by
 refine fnS (R := RF27) df0 (fun _ h => h) rfl fun res hres => ?_
 unfold lv at hres
 refine sR (ab (db rfl (TR.cnt aa.t r0)) (mB rfl (nS (ae (sR (fL rfl (aa.g_Name r0) rfl rfl (ab (ca rfl (mu Tryz.underlying9)) (bN gb rfl rfl ?_))))))))
 refine mV rfl ?_
 refine bt 5 (d := 16) (v := vb ((decide (60 < (x0.Name.length : Int))) || (decide (16 < (x0.Headers.length : Int))))) ?_ ?_
 ·intro S Q r
  cases c3 : (decide (60 < (x0.Name.length : Int)))
  ·intro k
   have a4 := c3
   try simp only [qa] at a4
   obtain ⟨e2, c9, b0⟩ := aa.g_Headers r0
   refine af rfl rfl (bb rfl c9) (af rfl rfl (ba rfl (TR.cnt (tSl cg.t) b0) (TR.agg (tSl cg.t) b0)) (af rfl rfl (ca rfl (bq b0 Tryz.underlying22 _)) (af rfl rfl (bd rfl rfl gb) ?_)))
   exact gK rfl rfl rfl rfl rfl k
  ·exact gN 4 rfl rfl rfl rfl rfl rfl
 refine mV rfl ?_
 refine bt 5 (d := 22) (v := vb (((decide (60 < (x0.Name.length : Int))) || (decide (16 < (x0.Headers.length : Int)))) || (decide (20 < (x0.Metadata.length : Int))))) ?_ ?_
 ·intro S Q r
  cases c6 : ((decide (60 < (x0.Name.length : Int))) || (decide (16 < (x0.Headers.length : Int))))
  ·intro k
   have a3 := c6
   try simp only [qa] at a3
   obtain ⟨e3, d4, a9⟩ := aa.g_Metadata r0
   refine af rfl rfl (bb rfl d4) (af rfl rfl (ba rfl (TR.cnt (tSl bw.t) a9) (TR.agg (tSl bw.t) a9)) (af rfl rfl (ca rfl (bq a9 Tryz.underlying23 _)) (af rfl rfl (bd rfl rfl gb) ?_)))
   exact gK rfl rfl rfl rfl rfl k
  ·exact gN 4 rfl rfl rfl rfl rfl rfl
 refine mV rfl ?_
 refine bt 5 (d := 28) (v := vb ((((decide (60 < (x0.Name.length : Int))) || (decide (16 < (x0.Headers.length : Int)))) || (decide (20 < (x0.Metadata.length : Int)))) || (decide (8 < (x0.Registers.length : Int))))) ?_ ?_
 ·intro S Q r
  cases c0 : (((decide (60 < (x0.Name.length : Int))) || (decide (16 < (x0.Headers.length : Int)))) || (decide (20 < (x0.Metadata.length : Int))))
  ·intro k
   have b4 := c0
   try simp only [qa] at b4
   obtain ⟨e1, d2, b6⟩ := aa.g_Registers r0
   refine af rfl rfl (bb rfl d2) (af rfl rfl (ba rfl (TR.cnt (tSl ej.t) b6) (TR.agg (tSl ej.t) b6)) (af rfl rfl (ca rfl (bq b6 Tryz.underlying24 _)) (af rfl rfl (bd rfl rfl gb) ?_)))
   exact gK rfl rfl rfl rfl rfl k
  ·exact gN 4 rfl rfl rfl rfl rfl rfl
 refine mV rfl ?_
 refine bt 5 (d := 34) (v := vb (((((decide (60 < (x0.Name.length : Int))) || (decide (16 < (x0.Headers.length : Int)))) || (decide (20 < (x0.Metadata.length : Int)))) || (decide (8 < (x0.Registers.length : Int)))) || (decide (24 < (x0.Actions.length : Int))))) ?_ ?_
 ·intro S Q r
  cases b8 : ((((decide (60 < (x0.Name.length : Int))) || (decide (16 < (x0.Headers.length : Int)))) || (decide (20 < (x0.Metadata.length : Int)))) || (decide (8 < (x0.Registers.length : Int))))
  ·intro k
   have b3 := b8
   try simp only [qa] at b3
   obtain ⟨d8, d5, b7⟩ := aa.g_Actions r0
   refine af rfl rfl (bb rfl d5) (af rfl rfl (ba rfl (TR.cnt (tSl cn.t) b7) (TR.agg (tSl cn.t) b7)) (af rfl rfl (ca rfl (bq b7 Tryz.underlying25 _)) (af rfl rfl (bd rfl rfl gb) ?_)))
   exact gK rfl rfl rfl rfl rfl k
  ·exact gN 4 rfl rfl rfl rfl rfl rfl
 refine mV rfl ?_
 refine bt 5 (d := 40) (v := vb ((((((decide (60 < (x0.Name.length : Int))) || (decide (16 < (x0.Headers.length : Int)))) || (decide (20 < (x0.Metadata.length : Int)))) || (decide (8 < (x0.Registers.length : Int)))) || (decide (24 < (x0.Actions.length : Int)))) || (decide (16 < (x0.Tables.length : Int))))) ?_ ?_
 ·intro S Q r
  cases c4 : (((((decide (60 < (x0.Name.length : Int))) || (decide (16 < (x0.Headers.length : Int)))) || (decide (20 < (x0.Metadata.length : Int)))) || (decide (8 < (x0.Registers.length : Int)))) || (decide (24 < (x0.Actions.length : Int))))
  ·intro k
   have a6 := c4
   try simp only [qa] at a6
   obtain ⟨d6, d0, b1⟩ := aa.g_Tables r0
   refine af rfl rfl (bb rfl d0) (af rfl rfl (ba rfl (TR.cnt (tSl ax.t) b1) (TR.agg (tSl ax.t) b1)) (af rfl rfl (ca rfl (bq b1 Tryz.underlying26 _)) (af rfl rfl (bd rfl rfl gb) ?_)))
   exact gK rfl rfl rfl rfl rfl k
  ·exact gN 4 rfl rfl rfl rfl rfl rfl
 refine mV rfl ?_
 refine bt 5 (d := 46) (v := vb (((((((decide (60 < (x0.Name.length : Int))) || (decide (16 < (x0.Headers.length : Int)))) || (decide (20 < (x0.Metadata.length : Int)))) || (decide (8 < (x0.Registers.length : Int)))) || (decide (24 < (x0.Actions.length : Int)))) || (decide (16 < (x0.Tables.length : Int)))) || (decide (16 < (x0.States.length : Int))))) ?_ ?_
 ·intro S Q r
  cases b9 : ((((((decide (60 < (x0.Name.length : Int))) || (decide (16 < (x0.Headers.length : Int)))) || (decide (20 < (x0.Metadata.length : Int)))) || (decide (8 < (x0.Registers.length : Int)))) || (decide (24 < (x0.Actions.length : Int)))) || (decide (16 < (x0.Tables.length : Int))))
  ·intro k
   have b5 := b9
   try simp only [qa] at b5
   obtain ⟨d9, c7, b2⟩ := aa.g_States r0
   refine af rfl rfl (bb rfl c7) (af rfl rfl (ba rfl (TR.cnt (tSl cf.t) b2) (TR.agg (tSl cf.t) b2)) (af rfl rfl (ca rfl (bq b2 Tryz.underlying27 _)) (af rfl rfl (bd rfl rfl gb) ?_)))
   exact gK rfl rfl rfl rfl rfl k
  ·exact gN 4 rfl rfl rfl rfl rfl rfl
 refine mV rfl ?_
 refine bt 5 (d := 52) (v := vb ((((((((decide (60 < (x0.Name.length : Int))) || (decide (16 < (x0.Headers.length : Int)))) || (decide (20 < (x0.Metadata.length : Int)))) || (decide (8 < (x0.Registers.length : Int)))) || (decide (24 < (x0.Actions.length : Int)))) || (decide (16 < (x0.Tables.length : Int)))) || (decide (16 < (x0.States.length : Int)))) || (decide (16 < (x0.Deparser.length : Int))))) ?_ ?_
 ·intro S Q r
  cases c5 : (((((((decide (60 < (x0.Name.length : Int))) || (decide (16 < (x0.Headers.length : Int)))) || (decide (20 < (x0.Metadata.length : Int)))) || (decide (8 < (x0.Registers.length : Int)))) || (decide (24 < (x0.Actions.length : Int)))) || (decide (16 < (x0.Tables.length : Int)))) || (decide (16 < (x0.States.length : Int))))
  ·intro k
   have a5 := c5
   try simp only [qa] at a5
   obtain ⟨e0, d3, a2⟩ := aa.g_Deparser r0
   refine af rfl rfl (bb rfl d3) (af rfl rfl (ba rfl (TR.cnt (tSl tI) a2) (TR.agg (tSl tI) a2)) (af rfl rfl (ca rfl (bq a2 Tryz.underlying29 _)) (af rfl rfl (bd rfl rfl gb) ?_)))
   exact gK rfl rfl rfl rfl rfl k
  ·exact gN 4 rfl rfl rfl rfl rfl rfl
 refine mV rfl ?_
 refine bt 5 (d := 58) (v := vb (((((((((decide (60 < (x0.Name.length : Int))) || (decide (16 < (x0.Headers.length : Int)))) || (decide (20 < (x0.Metadata.length : Int)))) || (decide (8 < (x0.Registers.length : Int)))) || (decide (24 < (x0.Actions.length : Int)))) || (decide (16 < (x0.Tables.length : Int)))) || (decide (16 < (x0.States.length : Int)))) || (decide (16 < (x0.Deparser.length : Int)))) || (decide (60 < (na x0.Control 10))))) ?_ ?_
 ·intro S Q r
  cases c1 : ((((((((decide (60 < (x0.Name.length : Int))) || (decide (16 < (x0.Headers.length : Int)))) || (decide (20 < (x0.Metadata.length : Int)))) || (decide (8 < (x0.Registers.length : Int)))) || (decide (24 < (x0.Actions.length : Int)))) || (decide (16 < (x0.Tables.length : Int)))) || (decide (16 < (x0.States.length : Int)))) || (decide (16 < (x0.Deparser.length : Int))))
  ·intro k
   have a7 := c1
   try simp only [qa] at a7
   obtain ⟨d7, c8, a1⟩ := aa.g_Control r0
   refine af rfl rfl (bb rfl c8) (af rfl rfl (ba rfl (TR.cnt (tSl aj.t) a1) (TR.agg (tSl aj.t) a1)) ?_)
   have d1 := cy5 (x1 := 10) a1 (by first | assumption | omega | (have := rv (by assumption) (by assumption); omega) | (rw [dt (by omega) (by omega)]; omega)) (by first | assumption | omega | (have := rv (by assumption) (by assumption); omega) | (rw [dt (by omega) (by omega)]; omega))
   refine fw rfl rfl (mc rfl rfl (aq (TR.clo (tSl aj.t) a1) (aq rfl bg)) d1) (af rfl rfl (bd rfl rfl gb) ?_)
   exact gK rfl rfl rfl rfl rfl k
  ·exact gN 4 rfl rfl rfl rfl rfl rfl
 refine nS ?_
 refine co hres rfl ?_ ?_ <;> clear hres <;> intro a0 hres <;> have a8 := a0 <;> try simp only [qa] at a8
 ·refine sR (mB rfl (nS ?_))
  exact rR hres rfl rfl rfl
 ·refine az (ah (ae (sR (mI rfl (nS (bh ?_))))))
  refine wC (uh r0 a0 ?_  rfl (by omega) hres) rfl
  ·intro  hres
   refine fa (ah (ae (sR (mI rfl (nS (bh ?_))))))
   refine wC (ui r0 a0 ?_  rfl (by omega) hres) rfl
   ·intro  hres
    refine fa (ah (ae (sR (mI rfl (nS (bh ?_))))))
    refine wC (uu r0 a0 ?_  rfl (by omega) hres) rfl
    ·intro  hres
     refine fa (ah (ae (sR (mI rfl (nS (bh ?_))))))
     refine wC (ur r0 a0 ?_  rfl (by omega) hres) rfl
     ·intro  hres
      refine fa (ah (sR (mB rfl (nS ?_))))
      exact rR hres rfl rfl rfl

end Go.Proofs.YthdnpgpnodgicaaGreat
