/-
 The code of each function does what its plain program says.
-/
import Derived.Test.YtmonnlkagniolaaGreatKDef
import Derived.Test.YtmonnlkagniolaaGreatL3Text
import Derived.Test.YtmonnlkagniolaaGreatPbV
import Derived.Test.YtmonnlkagniolaaGreatKSimCellsGaAu
import Derived.Test.YtmonnlkagniolaaGreatKSimCellsGaAu
import Derived.Test.YtmonnlkagniolaaGreatKCkFe
import Derived.Test.YtmonnlkagniolaaGreatKCkFe
import Derived.Test.YtmonnlkagniolaaGreatKExAEx
import Derived.Test.YtmonnlkagniolaaGreatKFcFrBd
import Derived.Test.YtmonnlkagniolaaGreatKFcFrBd
import Derived.Test.YtmonnlkagniolaaGreatKCoFo
import Derived.Test.YtmonnlkagniolaaGreatKLy
import Derived.Test.YtmonnlkagniolaaGreatKCoFo
import Derived.Test.YtmonnlkagniolaaGreatL3Run
set_option linter.unusedVariables false
set_option linter.unusedSimpArgs false
set_option maxRecDepth 100000
namespace Go.Proofs.YtmonnlkagniolaaGreat
open Go Go.Pb Go.RowKit
def RF56 (res : Int) (r : PV) : Prop := r = vi res
theorem xw {S : List Fr} {res : Int} {x0 : List aj} {x1 : Int} {rec_ : (List aj) → Int → Int} {mu_ : Nat} {v0 : PV} (r0 : (tSl aj.t).R x0 v0) (hd : 0 ≤ x1) (d1 : x1 ≤ 100) (ihR : ∀ {z0 : List aj} {z1 : Int} {c6 : PV} (d7 : (tSl aj.t).R z0 c6) (hd : 0 ≤ z1) (d1 : z1 ≤ 100), z1.toNat < mu_ → FnR Tryz.prog 56 [c6, vi z1] (vi (rec_ z0 z1))) (hmu : mu_ = x1.toNat) {K0 : Int → Int}
  (c5 : ∀ {a1 : Int}, K0 a1 = res → PX Tryz.prog 0 S (QR Tryz.prog [(4, none)] (RF56 res)) [(5, vi a1)] ⟨0, []⟩) :
  ∀ {m : Nat} {a1 a0 : Int} (c7 : m = Int.toNat ((x0.length : Int) - a0)) (a8 : 0 ≤ a0), oq x0 x1 rec_ K0 m a1 a0 = res → RC Tryz.prog (.loop ce4) S (QR Tryz.prog [(4, none)] (RF56 res)) [(6, vi a0), (5, vi a1), (1, vi x1), (0, v0)] ⟨0, []⟩ := by
 intro m
 induction m with
 | zero =>
  intro a1 a0 c7 a8 hres
  rw [oq] at hres
  refine cj (ap (sR (mV rfl (mV rfl (af (cq rfl (ci r0 Tryz.underlying28 _)) (bN cn rfl rfl (mV rfl ?_)))))))
  refine ca 3 (d := 16) (v := vb ((decide (a0 < (x0.length : Int))) && (decide (a1 < 100)))) ?_ ?_
  ·intro S Q r
   cases b3 : (decide (a0 < (x0.length : Int)))
   ·exact gN 2 rfl rfl rfl rfl rfl rfl
   ·intro k
    have a5 := b3
    try simp only [qa, qaD] at a5
    refine ah rfl rfl (ax rfl) (ah rfl rfl (cb rfl rfl cn) ?_)
    exact gK rfl rfl rfl rfl rfl k
  refine nS ?_
  refine cd rfl ?_ ?_ <;> intro c <;> try simp only [qa, qaD] at c
  ·omega
  refine dl (eh (de ?_))
  exact wP (c5  hres) rfl
 | succ m ih =>
  intro a1 a0 c7 a8 hres
  rw [oq] at hres
  refine cj (ap (sR (mV rfl (mV rfl (af (cq rfl (ci r0 Tryz.underlying28 _)) (bN cn rfl rfl (mV rfl ?_)))))))
  refine ca 3 (d := 16) (v := vb ((decide (a0 < (x0.length : Int))) && (decide (a1 < 100)))) ?_ ?_
  ·intro S Q r
   cases a7 : (decide (a0 < (x0.length : Int)))
   ·exact gN 2 rfl rfl rfl rfl rfl rfl
   ·intro k
    have a6 := a7
    try simp only [qa, qaD] at a6
    refine ah rfl rfl (ax rfl) (ah rfl rfl (cb rfl rfl cn) ?_)
    exact gK rfl rfl rfl rfl rfl k
  refine nS ?_
  refine bz hres rfl ?_ ?_ <;> clear hres <;> intro c hres <;> try simp only [qa, qaD] at c
  ·refine az (au (ap (bf (ap (sR (mV rfl (bN dj rfl rfl (mV rfl ?_))))))))
   refine ca 8 (d := 29) (v := vb ((decide (x1 = 0)) || (decide (40 < (((ix x0 a0).Cond).length : Int))))) ?_ ?_
   ·intro S Q r
    cases b4 : (decide (x1 = 0))
    ·intro k
     have a3 := b4
     try simp only [qa, qaD] at a3
     refine ah rfl rfl (ax rfl) (ah rfl rfl (ax rfl) ?_)
     obtain ⟨d3, c2, b6⟩ := dh (i := a0) r0 (by omega) (by omega)
     refine ah rfl rfl (bn rfl rfl c2) ?_
     obtain ⟨d0, c4, a2⟩ := aj.g_Cond b6
     refine ah rfl rfl (bw rfl c4) (ah rfl rfl (bv rfl (TR.cnt (tSl ae.t) a2) (TR.agg (tSl ae.t) a2)) (ah rfl rfl (cq rfl (ci a2 Tryz.underlying32 _)) (ah rfl rfl (cb rfl rfl iu) ?_)))
     exact gK rfl rfl rfl rfl rfl k
    ·exact gN 7 rfl rfl rfl rfl rfl rfl
   refine nS ?_
   refine bz hres rfl ?_ ?_ <;> clear hres <;> intro c hres <;> try simp only [qa, qaD] at c
   ·refine sR (mI rfl (nS ?_))
    exact rR hres rfl rfl rfl
   ·refine az (au (aw (mV rfl (mV rfl (mV rfl ?_)))))
    obtain ⟨d5, c3, b8⟩ := dh (i := a0) r0 (by omega) (by omega)
    refine af (bn rfl rfl c3) ?_
    obtain ⟨c9, b7, a4⟩ := aj.g_Then b8
    refine fA rfl b7 (lD a4 rfl rfl rfl (mV rfl (bN xt rfl rfl ?_)))
    obtain ⟨c8, b2, hres⟩ := bp hres
    have b1 := ihR (z0 := (ix x0 a0).Then) (z1 := (wr (x1 - 1))) a4 (by first | assumption | omega | (rw [cv (by omega) (by omega)]; omega)) (by first | assumption | omega | (rw [cv (by omega) (by omega)]; omega)) (by (rw [cv (by omega) (by omega)]; omega))
    rw [b2] at b1
    refine cL b1 rfl rfl (ak (TR.clo (tSl aj.t) a4) (ak rfl bd)) (bN dp rfl rfl (mV rfl (mV rfl ?_)))
    obtain ⟨d6, b9, c1⟩ := dh (i := a0) r0 (by omega) (by omega)
    refine af (bn rfl rfl b9) (gL (aj.g_Else c1) rfl rfl rfl fun d4 b5 => (mV rfl (bN xt rfl rfl ?_)))
    obtain ⟨d2, b0, hres⟩ := bp hres
    have a9 := ihR (z0 := (ix x0 a0).Else) (z1 := (wr (x1 - 1))) b5 (by first | assumption | omega | (rw [cv (by omega) (by omega)]; omega)) (by first | assumption | omega | (rw [cv (by omega) (by omega)]; omega)) (by (rw [cv (by omega) (by omega)]; omega))
    rw [b0] at a9
    refine cL a9 rfl rfl (ak (TR.clo (tSl aj.t) b5) (ak rfl bd)) (bN dp rfl rfl (mV rfl (br (cy (au (aw (mV rfl (bN dp rfl rfl ?_))))))))
    refine mV rfl (br (cx ?_))
    have hbd := dc r0
    have hinc : wr (a0 + 1) = a0 + 1 := cv (by omega) (by omega)
    erw [hinc]
    exact wC (ih   (by omega) (by omega) hres) rfl
  ·refine dl (eh (de ?_))
   exact wP (c5  hres) rfl

theorem ch2 {rec_ : (List aj) → Int → Int} {mu_ : Nat} {x0 : List aj} {x1 : Int} {v0 : PV} (r0 : (tSl aj.t).R x0 v0) (hd : 0 ≤ x1) (a1 : x1 ≤ 100) (hmu : mu_ = x1.toNat) (ihR : ∀ {z0 : List aj} {z1 : Int} {a2 : PV} (a3 : (tSl aj.t).R z0 a2) (hd : 0 ≤ z1) (a1 : z1 ≤ 100), z1.toNat < mu_ → FnR Tryz.prog 56 [a2, vi z1] (vi (rec_ z0 z1))) : FnR Tryz.prog 56 [v0, vi x1] (vi (qh rec_ x0 x1)) := by
 refine fnS (R := RF56) dc3 (fun _ h => h) rfl fun res hres => ?_
 unfold qh at hres
 refine sR (mI rfl (nR (mV rfl (af (cq rfl (ci r0 Tryz.underlying28 _)) (mV rfl (nS (ap (sR ?_))))))))
 refine mI rfl (nS (bf ?_))
 refine wC (xw r0 hd a1 ihR hmu ?_  rfl (by omega) hres) rfl
 ·intro a0 hres
  refine em (au (sR (mV rfl (mV rfl (nS ?_)))))
  exact rR hres rfl rfl rfl
theorem co2 : ∀ (n_ : Nat) {x0 : List aj} {x1 : Int} {v0 : PV} (r0 : (tSl aj.t).R x0 v0) (hd : 0 ≤ x1) (a0 : x1 ≤ 100), x1.toNat < n_ → FnR Tryz.prog 56 [v0, vi x1] (vi (oc n_ x0 x1)) := by
 intro n_
 induction n_ with
 | zero => intros; rename_i hlt; exact absurd hlt (Nat.not_lt_zero _)
 | succ n_ ihn =>
  intro x0 x1 v0 r0 hd a0 hlt
  have e_ : oc (n_ + 1) x0 x1 = qh (oc n_) x0 x1 := by rw [oc]
  rw [e_]
  exact ch2 r0 hd a0 rfl (fun {z0} {z1} {zv0} zr0 hd a0 hz => ihn zr0 hd a0 (by omega))
theorem cx2 {x0 : List aj} {x1 : Int} {v0 : PV} (r0 : (tSl aj.t).R x0 v0) (hd : 0 ≤ x1) (a0 : x1 ≤ 100) : FnR Tryz.prog 56 [v0, vi x1] (vi (oo x0 x1)) := co2 _ r0 hd a0 (Nat.lt_succ_self _)

def RF57 (res : Bool) (r : PV) : Prop := r = vb res
theorem ye {S : List Fr} {res : Bool} {x0 : bg} {v0 : PV} (r0 : bg.t.R x0 v0) (a5 : ((decide (30 < (x0.Name.length : Int))) || (decide (20 < (x0.Fields.length : Int)))) = false) {K0 : Unit → Bool}
  (b2 : K0 () = res → PX Tryz.prog 0 S (QR Tryz.prog [(2, none)] (RF57 res)) [] ⟨0, []⟩) :
  ∀ {m : Nat} {a0 : Int} (b1 : m = Int.toNat ((x0.Fields.length : Int) - a0)) (a4 : 0 ≤ a0), ol x0 K0 m a0 = res → RC Tryz.prog (.loop ca0) S (QR Tryz.prog [(2, none)] (RF57 res)) [(3, vi a0), (1, .fp v0)] ⟨0, []⟩ := by
 have a1 := a5
 try simp only [qa, qaD] at a1
 intro m
 induction m with
 | zero =>
  intro a0 b1 a4 hres
  rw [ol] at hres
  refine cj (ap (sR (mV rfl (gL (bg.g_Fields r0) rfl rfl rfl fun b3 a9 => (af (cq rfl (ci a9 Tryz.underlying23 _)) (bN cn rfl rfl (nS ?_)))))))
  refine cd rfl ?_ ?_ <;> intro c <;> try simp only [qa, qaD] at c
  ·omega
  refine dl (eh (de ?_))
  exact wP (b2  hres) rfl
 | succ m ih =>
  intro a0 b1 a4 hres
  rw [ol] at hres
  refine cj (ap (sR (mV rfl ?_)))
  obtain ⟨b4, a8, a2⟩ := bg.g_Fields r0
  refine fA rfl a8 (lD a2 rfl rfl rfl (af (cq rfl (ci a2 Tryz.underlying23 _)) (bN cn rfl rfl (nS ?_))))
  refine cd rfl ?_ ?_ <;> intro c <;> try simp only [qa, qaD] at c
  rotate_left
  ·omega
  refine az (au (ap (bf (sR ?_))))
  obtain ⟨b5, a7, a3⟩ := bg.g_Fields r0
  refine fA rfl a7 (lD a3 rfl rfl rfl (mV rfl ?_))
  obtain ⟨b6, b0, a6⟩ := dh (i := a0) a3 (by omega) (by omega)
  refine af (bn rfl rfl b0) (fL rfl (ay.g_Name a6) rfl rfl (af (cq rfl (od Tryz.underlying9)) (bN iu rfl rfl (nS ?_))))
  refine bz hres rfl ?_ ?_ <;> clear hres <;> intro c hres <;> try simp only [qa, qaD] at c
  ·refine sR (mB rfl (nS ?_))
   exact rR hres rfl rfl rfl
  ·refine az (cy (au (aw (mV rfl (bN dp rfl rfl (mV rfl (br (cx ?_))))))))
   have hbd := dc a2
   have hinc : wr (a0 + 1) = a0 + 1 := cv (by omega) (by omega)
   erw [hinc]
   exact wC (ih   (by omega) (by omega) hres) rfl

theorem cv3 {x0 : bg} {v0 : PV} (r0 : bg.t.R x0 v0) : FnR Tryz.prog 57 [v0] (vb (qj x0)) := by
 refine fnS (R := RF57) dd7 (fun _ h => h) rfl fun res hres => ?_
 unfold qj at hres
 refine sR (af (dn rfl (TR.cnt bg.t r0)) (mB rfl (nS (ap (sR (fL rfl (bg.g_Name r0) rfl rfl (af (cq rfl (od Tryz.underlying9)) (bN iu rfl rfl ?_))))))))
 refine mV rfl ?_
 refine ca 5 (d := 13) (v := vb ((decide (30 < (x0.Name.length : Int))) || (decide (20 < (x0.Fields.length : Int))))) ?_ ?_
 ·intro S Q r
  cases a4 : (decide (30 < (x0.Name.length : Int)))
  ·intro k
   have a3 := a4
   try simp only [qa, qaD] at a3
   obtain ⟨a6, a5, a2⟩ := bg.g_Fields r0
   refine ah rfl rfl (bw rfl a5) (ah rfl rfl (bv rfl (TR.cnt (tSl ay.t) a2) (TR.agg (tSl ay.t) a2)) (ah rfl rfl (cq rfl (ci a2 Tryz.underlying23 _)) (ah rfl rfl (cb rfl rfl iu) ?_)))
   exact gK rfl rfl rfl rfl rfl k
  ·exact gN 4 rfl rfl rfl rfl rfl rfl
 refine nS ?_
 refine bz hres rfl ?_ ?_ <;> clear hres <;> intro a0 hres <;> have a1 := a0 <;> try simp only [qa, qaD] at a1
 ·refine sR (mB rfl (nS ?_))
  exact rR hres rfl rfl rfl
 ·refine az (au (ap (sR (mI rfl (nS (bf ?_))))))
  refine wC (ye r0 a0 ?_  rfl (by omega) hres) rfl
  ·intro  hres
   refine em (au (sR (mB rfl (nS ?_))))
   exact rR hres rfl rfl rfl

def RF58 (res : Bool) (r : PV) : Prop := r = vb res
theorem sg {S : List Fr} {res : Bool} {x0 : bc} {v0 : PV} (r0 : bc.t.R x0 v0) (a8 : (((decide (8 < (x0.Params.length : Int))) || (decide (16 < (x0.Body.length : Int)))) || (decide (60 < (x0.Name.length : Int)))) = false) {K0 : Unit → Bool}
  (c3 : K0 () = res → PX Tryz.prog 0 S (QR Tryz.prog [(2, none)] (RF58 res)) [] ⟨0, []⟩) :
  ∀ {m : Nat} {a0 : Int} (b8 : m = Int.toNat ((x0.Body.length : Int) - a0)) (a7 : 0 ≤ a0), lg x0 K0 m a0 = res → RC Tryz.prog (.loop cm7) S (QR Tryz.prog [(2, none)] (RF58 res)) [(3, vi a0), (1, .fp v0)] ⟨0, []⟩ := by
 have a1 := a8
 try simp only [qa, qaD] at a1
 intro m
 induction m with
 | zero =>
  intro a0 b8 a7 hres
  rw [lg] at hres
  refine cj (ap (sR (mV rfl (gL (bc.g_Body r0) rfl rfl rfl fun c5 b2 => (af (cq rfl (ci b2 Tryz.underlying95 _)) (bN cn rfl rfl (nS ?_)))))))
  refine cd rfl ?_ ?_ <;> intro c <;> try simp only [qa, qaD] at c
  ·omega
  refine dl (eh (de ?_))
  exact wP (c3  hres) rfl
 | succ m ih =>
  intro a0 b8 a7 hres
  rw [lg] at hres
  refine cj (ap (sR (mV rfl (gL (bc.g_Body r0) rfl rfl rfl fun c6 a6 => (af (cq rfl (ci a6 Tryz.underlying95 _)) (bN cn rfl rfl (nS ?_)))))))
  refine cd rfl ?_ ?_ <;> intro c <;> try simp only [qa, qaD] at c
  rotate_left
  ·omega
  refine az (au (ap (bf (sR (gL (bc.g_Body r0) rfl rfl rfl fun b9 b1 => (mV rfl ?_))))))
  obtain ⟨c7, b5, b6⟩ := dh (i := a0) b1 (by omega) (by omega)
  refine af (bn rfl rfl b5) (gL (aq.g_Index b6) rfl rfl rfl fun c8 b4 => (af (cq rfl (ci b4 Tryz.underlying32 _)) (bN iu rfl rfl (mV rfl ?_))))
  refine ca 9 (d := 44) (v := vb ((decide (40 < (((ix x0.Body a0).Index).length : Int))) || (decide (40 < (((ix x0.Body a0).Value).length : Int))))) ?_ ?_
  ·intro S Q r
   cases a5 : (decide (40 < (((ix x0.Body a0).Index).length : Int)))
   ·intro k
    have a4 := a5
    try simp only [qa, qaD] at a4
    obtain ⟨c4, b7, a3⟩ := bc.g_Body r0
    refine ah rfl rfl (bw rfl b7) (ah rfl rfl (bv rfl (TR.cnt (tSl aq.t) a3) (TR.agg (tSl aq.t) a3)) (ah rfl rfl (ax rfl) ?_))
    obtain ⟨c1, b3, b0⟩ := dh (i := a0) a3 (by omega) (by omega)
    refine ah rfl rfl (bn rfl rfl b3) ?_
    obtain ⟨c2, a9, a2⟩ := aq.g_Value b0
    refine ah rfl rfl (bw rfl a9) (ah rfl rfl (bv rfl (TR.cnt (tSl ae.t) a2) (TR.agg (tSl ae.t) a2)) (ah rfl rfl (cq rfl (ci a2 Tryz.underlying32 _)) (ah rfl rfl (cb rfl rfl iu) ?_)))
    exact gK rfl rfl rfl rfl rfl k
   ·exact gN 8 rfl rfl rfl rfl rfl rfl
  refine nS ?_
  refine bz hres rfl ?_ ?_ <;> clear hres <;> intro c hres <;> try simp only [qa, qaD] at c
  ·refine sR (mB rfl (nS ?_))
   exact rR hres rfl rfl rfl
  ·refine az (cy (au (aw (mV rfl (bN dp rfl rfl (mV rfl (br (cx ?_))))))))
   have hbd := dc a6
   have hinc : wr (a0 + 1) = a0 + 1 := cv (by omega) (by omega)
   erw [hinc]
   exact wC (ih   (by omega) (by omega) hres) rfl

theorem cy1 {x0 : bc} {v0 : PV} (r0 : bc.t.R x0 v0) : FnR Tryz.prog 58 [v0] (vb (pv x0)) := by
 refine fnS (R := RF58) dd2 (fun _ h => h) rfl fun res hres => ?_
 unfold pv at hres
 refine sR (af (dn rfl (TR.cnt bc.t r0)) (mB rfl (nS (ap (sR ?_)))))
 obtain ⟨b1, a9, a5⟩ := bc.g_Params r0
 refine fA rfl a9 (lD a5 rfl rfl rfl (af (cq rfl (ci a5 Tryz.underlying23 _)) (bN iu rfl rfl (mV rfl ?_))))
 refine ca 5 (d := 13) (v := vb ((decide (8 < (x0.Params.length : Int))) || (decide (16 < (x0.Body.length : Int))))) ?_ ?_
 ·intro S Q r
  cases a7 : (decide (8 < (x0.Params.length : Int)))
  ·intro k
   have a3 := a7
   try simp only [qa, qaD] at a3
   obtain ⟨b0, a8, a4⟩ := bc.g_Body r0
   refine ah rfl rfl (bw rfl a8) (ah rfl rfl (bv rfl (TR.cnt (tSl aq.t) a4) (TR.agg (tSl aq.t) a4)) (ah rfl rfl (cq rfl (ci a4 Tryz.underlying95 _)) (ah rfl rfl (cb rfl rfl iu) ?_)))
   exact gK rfl rfl rfl rfl rfl k
  ·exact gN 4 rfl rfl rfl rfl rfl rfl
 refine mV rfl ?_
 refine ca 5 (d := 19) (v := vb (((decide (8 < (x0.Params.length : Int))) || (decide (16 < (x0.Body.length : Int)))) || (decide (60 < (x0.Name.length : Int))))) ?_ ?_
 ·intro S Q r
  cases a6 : ((decide (8 < (x0.Params.length : Int))) || (decide (16 < (x0.Body.length : Int))))
  ·intro k
   have a2 := a6
   try simp only [qa, qaD] at a2
   refine ah rfl rfl (bw rfl (bc.g_Name r0)) (ah rfl rfl (bv rfl rfl rfl) (ah rfl rfl (cq rfl (od Tryz.underlying9)) (ah rfl rfl (cb rfl rfl iu) ?_)))
   exact gK rfl rfl rfl rfl rfl k
  ·exact gN 4 rfl rfl rfl rfl rfl rfl
 refine nS ?_
 refine bz hres rfl ?_ ?_ <;> clear hres <;> intro a0 hres <;> have a1 := a0 <;> try simp only [qa, qaD] at a1
 ·refine sR (mB rfl (nS ?_))
  exact rR hres rfl rfl rfl
 ·refine az (au (ap (sR (mI rfl (nS (bf ?_))))))
  refine wC (sg r0 a0 ?_  rfl (by omega) hres) rfl
  ·intro  hres
   refine em (au (sR (mB rfl (nS ?_))))
   exact rR hres rfl rfl rfl

def RF59 (res : Bool) (r : PV) : Prop := r = vb res
theorem ct4 {x0 : bm} {v0 : PV} (r0 : bm.t.R x0 v0) : FnR Tryz.prog 59 [v0] (vb (qc x0)) := by
 refine fnS (R := RF59) db3 (fun _ h => h) rfl fun res hres => ?_
 unfold qc at hres
 refine sR (af (dn rfl (TR.cnt bm.t r0)) (mB rfl (nR (gL (bm.g_Extract r0) rfl rfl rfl fun a8 a5 => (af (cq rfl (ci a5 Tryz.underlying29 _)) (bN iu rfl rfl (mV rfl ?_)))))))
 refine ca 5 (d := 12) (v := vb ((decide (8 < (x0.Extract.length : Int))) || (decide (12 < (x0.Cases.length : Int))))) ?_ ?_
 ·intro S Q r
  cases a4 : (decide (8 < (x0.Extract.length : Int)))
  ·intro k
   have a1 := a4
   try simp only [qa, qaD] at a1
   obtain ⟨a7, a6, a2⟩ := bm.g_Cases r0
   refine ah rfl rfl (bw rfl a6) (ah rfl rfl (bv rfl (TR.cnt (tSl fg.t) a2) (TR.agg (tSl fg.t) a2)) (ah rfl rfl (cq rfl (ci a2 Tryz.underlying108 _)) (ah rfl rfl (cb rfl rfl iu) ?_)))
   exact gK rfl rfl rfl rfl rfl k
  ·exact gN 4 rfl rfl rfl rfl rfl rfl
 refine mV rfl ?_
 refine ca 5 (d := 18) (v := vb (((decide (8 < (x0.Extract.length : Int))) || (decide (12 < (x0.Cases.length : Int)))) || (decide (60 < (x0.Name.length : Int))))) ?_ ?_
 ·intro S Q r
  cases a3 : ((decide (8 < (x0.Extract.length : Int))) || (decide (12 < (x0.Cases.length : Int))))
  ·intro k
   have a0 := a3
   try simp only [qa, qaD] at a0
   refine ah rfl rfl (bw rfl (bm.g_Name r0)) (ah rfl rfl (bv rfl rfl rfl) (ah rfl rfl (cq rfl (od Tryz.underlying9)) (ah rfl rfl (cb rfl rfl iu) ?_)))
   exact gK rfl rfl rfl rfl rfl k
  ·exact gN 4 rfl rfl rfl rfl rfl rfl
 refine mV rfl (nS ?_)
 exact rR hres rfl rfl rfl

def RF13 (res : Bool) (r : PV) : Prop := r = vb res
theorem uf {S : List Fr} {res : Bool} {x0 : ab} {v0 : PV} (r0 : ab.t.R x0 v0) (a7 : (((((((((decide (60 < (x0.Name.length : Int))) || (decide (16 < (x0.Headers.length : Int)))) || (decide (20 < (x0.Metadata.length : Int)))) || (decide (8 < (x0.Registers.length : Int)))) || (decide (24 < (x0.Actions.length : Int)))) || (decide (16 < (x0.Tables.length : Int)))) || (decide (16 < (x0.States.length : Int)))) || (decide (16 < (x0.Deparser.length : Int)))) || (decide (60 < (oo x0.Control 10)))) = false) {K0 : Unit → Bool}
  (b6 : K0 () = res → PX Tryz.prog 0 S (QR Tryz.prog [(2, none)] (RF13 res)) [(1, .fp v0)] ⟨0, []⟩) :
  ∀ {m : Nat} {a0 : Int} (b1 : m = Int.toNat ((x0.Headers.length : Int) - a0)) (a5 : 0 ≤ a0), ja x0 K0 m a0 = res → RC Tryz.prog (.loop cp0) S (QR Tryz.prog [(2, none)] (RF13 res)) [(3, vi a0), (1, .fp v0)] ⟨0, []⟩ := by
 have a1 := a7
 try simp only [qa, qaD] at a1
 intro m
 induction m with
 | zero =>
  intro a0 b1 a5 hres
  rw [ja] at hres
  refine cj (ap (sR (mV rfl (gL (ab.g_Headers r0) rfl rfl rfl fun b3 a9 => (af (cq rfl (ci a9 Tryz.underlying22 _)) (bN cn rfl rfl (nS ?_)))))))
  refine cd rfl ?_ ?_ <;> intro c <;> try simp only [qa, qaD] at c
  ·omega
  refine dl (eh (de ?_))
  exact wP (b6  hres) rfl
 | succ m ih =>
  intro a0 b1 a5 hres
  rw [ja] at hres
  refine cj (ap (sR (mV rfl (gL (ab.g_Headers r0) rfl rfl rfl fun b5 a4 => (af (cq rfl (ci a4 Tryz.underlying22 _)) (bN cn rfl rfl (nS ?_)))))))
  refine cd rfl ?_ ?_ <;> intro c <;> try simp only [qa, qaD] at c
  rotate_left
  ·omega
  refine az (au (ap (bf (sR (gL (ab.g_Headers r0) rfl rfl rfl fun b2 b0 => (mV rfl ?_))))))
  obtain ⟨b7, a8, a2⟩ := dh (i := a0) b0 (by omega) (by omega)
  refine af (bn rfl rfl a8) (lD a2 rfl rfl rfl ?_)
  obtain ⟨b4, a3, hres⟩ := bp hres
  have a6 := cv3  a2 
  rw [a3] at a6
  refine cL a6 rfl rfl (ak (TR.clo bg.t a2) bd) (af (kp rfl) (nS ?_))
  refine bz hres rfl ?_ ?_ <;> clear hres <;> intro c hres <;> try simp only [qa, qaD] at c
  ·refine sR (mB rfl (nS ?_))
   exact rR hres rfl rfl rfl
  ·refine az (cy (au (aw (mV rfl (bN dp rfl rfl (mV rfl (br (cx ?_))))))))
   have hbd := dc a4
   have hinc : wr (a0 + 1) = a0 + 1 := cv (by omega) (by omega)
   erw [hinc]
   exact wC (ih   (by omega) (by omega) hres) rfl

theorem ug {S : List Fr} {res : Bool} {x0 : ab} {v0 : PV} (r0 : ab.t.R x0 v0) (a7 : (((((((((decide (60 < (x0.Name.length : Int))) || (decide (16 < (x0.Headers.length : Int)))) || (decide (20 < (x0.Metadata.length : Int)))) || (decide (8 < (x0.Registers.length : Int)))) || (decide (24 < (x0.Actions.length : Int)))) || (decide (16 < (x0.Tables.length : Int)))) || (decide (16 < (x0.States.length : Int)))) || (decide (16 < (x0.Deparser.length : Int)))) || (decide (60 < (oo x0.Control 10)))) = false) {K2 : Unit → Bool}
  (b5 : K2 () = res → PX Tryz.prog 2 S (QR Tryz.prog [(2, none)] (RF13 res)) [(1, .fp v0)] ⟨0, []⟩) :
  ∀ {m : Nat} {a0 : Int} (b1 : m = Int.toNat ((x0.Actions.length : Int) - a0)) (a4 : 0 ≤ a0), jc x0 K2 m a0 = res → RC Tryz.prog (.loop ck7) S (QR Tryz.prog [(2, none)] (RF13 res)) [(4, vi a0), (1, .fp v0)] ⟨0, []⟩ := by
 have a2 := a7
 try simp only [qa, qaD] at a2
 intro m
 induction m with
 | zero =>
  intro a0 b1 a4 hres
  rw [jc] at hres
  refine cj (ap (sR (mV rfl (gL (ab.g_Actions r0) rfl rfl rfl fun b6 a9 => (af (cq rfl (ci a9 Tryz.underlying25 _)) (bN cn rfl rfl (nS ?_)))))))
  refine cd rfl ?_ ?_ <;> intro c <;> try simp only [qa, qaD] at c
  ·omega
  refine dl (eh (de ?_))
  exact wP (b5  hres) rfl
 | succ m ih =>
  intro a0 b1 a4 hres
  rw [jc] at hres
  refine cj (ap (sR (mV rfl (gL (ab.g_Actions r0) rfl rfl rfl fun b4 a5 => (af (cq rfl (ci a5 Tryz.underlying25 _)) (bN cn rfl rfl (nS ?_)))))))
  refine cd rfl ?_ ?_ <;> intro c <;> try simp only [qa, qaD] at c
  rotate_left
  ·omega
  refine az (au (ap (bf (sR (gL (ab.g_Actions r0) rfl rfl rfl fun b3 b0 => (mV rfl ?_))))))
  obtain ⟨b2, a8, a1⟩ := dh (i := a0) b0 (by omega) (by omega)
  refine af (bn rfl rfl a8) (lD a1 rfl rfl rfl ?_)
  obtain ⟨b7, a3, hres⟩ := bp hres
  have a6 := cy1  a1 
  rw [a3] at a6
  refine cL a6 rfl rfl (ak (TR.clo bc.t a1) bd) (nS ?_)
  refine bz hres rfl ?_ ?_ <;> clear hres <;> intro c hres <;> try simp only [qa, qaD] at c
  ·refine sR (mB rfl (nS ?_))
   exact rR hres rfl rfl rfl
  ·refine az (cy (au (aw (mV rfl (bN dp rfl rfl (mV rfl (br (cx ?_))))))))
   have hbd := dc a5
   have hinc : wr (a0 + 1) = a0 + 1 := cv (by omega) (by omega)
   erw [hinc]
   exact wC (ih   (by omega) (by omega) hres) rfl

theorem tu {S : List Fr} {res : Bool} {x0 : ab} {v0 : PV} (r0 : ab.t.R x0 v0) (b5 : (((((((((decide (60 < (x0.Name.length : Int))) || (decide (16 < (x0.Headers.length : Int)))) || (decide (20 < (x0.Metadata.length : Int)))) || (decide (8 < (x0.Registers.length : Int)))) || (decide (24 < (x0.Actions.length : Int)))) || (decide (16 < (x0.Tables.length : Int)))) || (decide (16 < (x0.States.length : Int)))) || (decide (16 < (x0.Deparser.length : Int)))) || (decide (60 < (oo x0.Control 10)))) = false) {K4 : Unit → Bool}
  (d9 : K4 () = res → PX Tryz.prog 4 S (QR Tryz.prog [(2, none)] (RF13 res)) [(1, .fp v0)] ⟨0, []⟩) :
  ∀ {m : Nat} {a0 : Int} (d5 : m = Int.toNat ((x0.Tables.length : Int) - a0)) (b4 : 0 ≤ a0), jv x0 K4 m a0 = res → RC Tryz.prog (.loop cl0) S (QR Tryz.prog [(2, none)] (RF13 res)) [(5, vi a0), (1, .fp v0)] ⟨0, []⟩ := by
 have a4 := b5
 try simp only [qa, qaD] at a4
 intro m
 induction m with
 | zero =>
  intro a0 d5 b4 hres
  rw [jv] at hres
  refine cj (ap (sR (mV rfl (gL (ab.g_Tables r0) rfl rfl rfl fun f0 d2 => (af (cq rfl (ci d2 Tryz.underlying26 _)) (bN cn rfl rfl (nS ?_)))))))
  refine cd rfl ?_ ?_ <;> intro c <;> try simp only [qa, qaD] at c
  ·omega
  refine dl (eh (de ?_))
  exact wP (d9  hres) rfl
 | succ m ih =>
  intro a0 d5 b4 hres
  rw [jv] at hres
  refine cj (ap (sR (mV rfl (gL (ab.g_Tables r0) rfl rfl rfl fun e3 b3 => (af (cq rfl (ci b3 Tryz.underlying26 _)) (bN cn rfl rfl (nS ?_)))))))
  refine cd rfl ?_ ?_ <;> intro c <;> try simp only [qa, qaD] at c
  rotate_left
  ·omega
  refine az (au (ap (bf (sR (gL (ab.g_Tables r0) rfl rfl rfl fun e5 b8 => (mV rfl ?_))))))
  obtain ⟨e1, d4, d0⟩ := dh (i := a0) b8 (by omega) (by omega)
  refine af (bn rfl rfl d4) (gL (bh.g_Keys d0) rfl rfl rfl fun e0 b9 => (af (cq rfl (ci b9 Tryz.underlying57 _)) (bN iu rfl rfl (mV rfl ?_))))
  refine ca 9 (d := 110) (v := vb ((decide (10 < (((ix x0.Tables a0).Keys).length : Int))) || (decide (24 < (((ix x0.Tables a0).Actions).length : Int))))) ?_ ?_
  ·intro S Q r
   cases b0 : (decide (10 < (((ix x0.Tables a0).Keys).length : Int)))
   ·intro k
    have a2 := b0
    try simp only [qa, qaD] at a2
    obtain ⟨e4, c3, a5⟩ := ab.g_Tables r0
    refine ah rfl rfl (bw rfl c3) (ah rfl rfl (bv rfl (TR.cnt (tSl bh.t) a5) (TR.agg (tSl bh.t) a5)) (ah rfl rfl (ax rfl) ?_))
    obtain ⟨d6, c1, b7⟩ := dh (i := a0) a5 (by omega) (by omega)
    refine ah rfl rfl (bn rfl rfl c1) ?_
    obtain ⟨e7, b6, a6⟩ := bh.g_Actions b7
    refine ah rfl rfl (bw rfl b6) (ah rfl rfl (bv rfl (TR.cnt (tSl tI) a6) (TR.agg (tSl tI) a6)) (ah rfl rfl (cq rfl (ci a6 Tryz.underlying29 _)) (ah rfl rfl (cb rfl rfl iu) ?_)))
    exact gK rfl rfl rfl rfl rfl k
   ·exact gN 8 rfl rfl rfl rfl rfl rfl
  refine mV rfl ?_
  refine ca 10 (d := 121) (v := vb (((decide (10 < (((ix x0.Tables a0).Keys).length : Int))) || (decide (24 < (((ix x0.Tables a0).Actions).length : Int)))) || (decide (8 < ((((ix x0.Tables a0).Default).Args).length : Int))))) ?_ ?_
  ·intro S Q r
   cases b1 : ((decide (10 < (((ix x0.Tables a0).Keys).length : Int))) || (decide (24 < (((ix x0.Tables a0).Actions).length : Int))))
   ·intro k
    have a8 := b1
    try simp only [qa, qaD] at a8
    obtain ⟨e2, c2, a1⟩ := ab.g_Tables r0
    refine ah rfl rfl (bw rfl c2) (ah rfl rfl (bv rfl (TR.cnt (tSl bh.t) a1) (TR.agg (tSl bh.t) a1)) (ah rfl rfl (ax rfl) ?_))
    obtain ⟨e8, c5, d1⟩ := dh (i := a0) a1 (by omega) (by omega)
    refine ah rfl rfl (bn rfl rfl c5) ?_
    obtain ⟨e9, d3, c7⟩ := bh.g_Default d1
    refine ah rfl rfl (bw rfl d3) ?_
    obtain ⟨d7, c4, a9⟩ := fh.g_Args c7
    refine ah rfl rfl (bw rfl c4) (ah rfl rfl (bv rfl (TR.cnt (tSl bi6) a9) (TR.agg (tSl bi6) a9)) (ah rfl rfl (cq rfl (ci a9 Tryz.underlying43 _)) (ah rfl rfl (cb rfl rfl iu) ?_)))
    exact gK rfl rfl rfl rfl rfl k
   ·exact gN 9 rfl rfl rfl rfl rfl rfl
  refine mV rfl ?_
  refine ca 9 (d := 131) (v := vb ((((decide (10 < (((ix x0.Tables a0).Keys).length : Int))) || (decide (24 < (((ix x0.Tables a0).Actions).length : Int)))) || (decide (8 < ((((ix x0.Tables a0).Default).Args).length : Int)))) || (decide (60 < (((ix x0.Tables a0).Name).length : Int))))) ?_ ?_
  ·intro S Q r
   cases b2 : (((decide (10 < (((ix x0.Tables a0).Keys).length : Int))) || (decide (24 < (((ix x0.Tables a0).Actions).length : Int)))) || (decide (8 < ((((ix x0.Tables a0).Default).Args).length : Int))))
   ·intro k
    have a7 := b2
    try simp only [qa, qaD] at a7
    obtain ⟨e6, c6, a3⟩ := ab.g_Tables r0
    refine ah rfl rfl (bw rfl c6) (ah rfl rfl (bv rfl (TR.cnt (tSl bh.t) a3) (TR.agg (tSl bh.t) a3)) (ah rfl rfl (ax rfl) ?_))
    obtain ⟨d8, c8, c9⟩ := dh (i := a0) a3 (by omega) (by omega)
    refine ah rfl rfl (bn rfl rfl c8) (ah rfl rfl (bw rfl (bh.g_Name c9)) (ah rfl rfl (bv rfl rfl rfl) (ah rfl rfl (cq rfl (od Tryz.underlying9)) (ah rfl rfl (cb rfl rfl iu) ?_))))
    exact gK rfl rfl rfl rfl rfl k
   ·exact gN 8 rfl rfl rfl rfl rfl rfl
  refine nS ?_
  refine bz hres rfl ?_ ?_ <;> clear hres <;> intro c hres <;> try simp only [qa, qaD] at c
  ·refine sR (mB rfl (nS ?_))
   exact rR hres rfl rfl rfl
  ·refine az (cy (au (aw (mV rfl (bN dp rfl rfl (mV rfl (br (cx ?_))))))))
   have hbd := dc b3
   have hinc : wr (a0 + 1) = a0 + 1 := cv (by omega) (by omega)
   erw [hinc]
   exact wC (ih   (by omega) (by omega) hres) rfl

theorem tv {S : List Fr} {res : Bool} {x0 : ab} {v0 : PV} (r0 : ab.t.R x0 v0) (a7 : (((((((((decide (60 < (x0.Name.length : Int))) || (decide (16 < (x0.Headers.length : Int)))) || (decide (20 < (x0.Metadata.length : Int)))) || (decide (8 < (x0.Registers.length : Int)))) || (decide (24 < (x0.Actions.length : Int)))) || (decide (16 < (x0.Tables.length : Int)))) || (decide (16 < (x0.States.length : Int)))) || (decide (16 < (x0.Deparser.length : Int)))) || (decide (60 < (oo x0.Control 10)))) = false) {K6 : Unit → Bool}
  (b5 : K6 () = res → PX Tryz.prog 6 S (QR Tryz.prog [(2, none)] (RF13 res)) [] ⟨0, []⟩) :
  ∀ {m : Nat} {a0 : Int} (b1 : m = Int.toNat ((x0.States.length : Int) - a0)) (a6 : 0 ≤ a0), mz x0 K6 m a0 = res → RC Tryz.prog (.loop bz9) S (QR Tryz.prog [(2, none)] (RF13 res)) [(6, vi a0), (1, .fp v0)] ⟨0, []⟩ := by
 have a1 := a7
 try simp only [qa, qaD] at a1
 intro m
 induction m with
 | zero =>
  intro a0 b1 a6 hres
  rw [mz] at hres
  refine cj (ap (sR (mV rfl (gL (ab.g_States r0) rfl rfl rfl fun b6 b0 => (af (cq rfl (ci b0 Tryz.underlying27 _)) (bN cn rfl rfl (nS ?_)))))))
  refine cd rfl ?_ ?_ <;> intro c <;> try simp only [qa, qaD] at c
  ·omega
  refine dl (eh (de ?_))
  exact wP (b5  hres) rfl
 | succ m ih =>
  intro a0 b1 a6 hres
  rw [mz] at hres
  refine cj (ap (sR (mV rfl (gL (ab.g_States r0) rfl rfl rfl fun b2 a4 => (af (cq rfl (ci a4 Tryz.underlying27 _)) (bN cn rfl rfl (nS ?_)))))))
  refine cd rfl ?_ ?_ <;> intro c <;> try simp only [qa, qaD] at c
  rotate_left
  ·omega
  refine az (au (ap (bf (sR (gL (ab.g_States r0) rfl rfl rfl fun b7 a9 => (mV rfl ?_))))))
  obtain ⟨b4, a8, a2⟩ := dh (i := a0) a9 (by omega) (by omega)
  refine af (bn rfl rfl a8) (lD a2 rfl rfl rfl ?_)
  obtain ⟨b3, a5, hres⟩ := bp hres
  have a3 := ct4  a2 
  rw [a5] at a3
  refine cL a3 rfl rfl (ak (TR.clo bm.t a2) bd) (nS ?_)
  refine bz hres rfl ?_ ?_ <;> clear hres <;> intro c hres <;> try simp only [qa, qaD] at c
  ·refine sR (mB rfl (nS ?_))
   exact rR hres rfl rfl rfl
  ·refine az (cy (au (aw (mV rfl (bN dp rfl rfl (mV rfl (br (cx ?_))))))))
   have hbd := dc a4
   have hinc : wr (a0 + 1) = a0 + 1 := cv (by omega) (by omega)
   erw [hinc]
   exact wC (ih   (by omega) (by omega) hres) rfl

theorem db7 {x0 : ab} {v0 : PV} (r0 : ab.t.R x0 v0) : FnR Tryz.prog 13 [v0] (vb (mh x0)) := by
 refine fnS (R := RF13) cv0 (fun _ h => h) rfl fun res hres => ?_
 unfold mh at hres
 refine sR (af (dn rfl (TR.cnt ab.t r0)) (mB rfl (nS (ap (sR (fL rfl (ab.g_Name r0) rfl rfl (af (cq rfl (od Tryz.underlying9)) (bN iu rfl rfl ?_))))))))
 refine mV rfl ?_
 refine ca 5 (d := 16) (v := vb ((decide (60 < (x0.Name.length : Int))) || (decide (16 < (x0.Headers.length : Int))))) ?_ ?_
 ·intro S Q r
  cases c4 : (decide (60 < (x0.Name.length : Int)))
  ·intro k
   have a9 := c4
   try simp only [qa, qaD] at a9
   obtain ⟨d7, c8, a7⟩ := ab.g_Headers r0
   refine ah rfl rfl (bw rfl c8) (ah rfl rfl (bv rfl (TR.cnt (tSl bg.t) a7) (TR.agg (tSl bg.t) a7)) (ah rfl rfl (cq rfl (ci a7 Tryz.underlying22 _)) (ah rfl rfl (cb rfl rfl iu) ?_)))
   exact gK rfl rfl rfl rfl rfl k
  ·exact gN 4 rfl rfl rfl rfl rfl rfl
 refine mV rfl ?_
 refine ca 5 (d := 22) (v := vb (((decide (60 < (x0.Name.length : Int))) || (decide (16 < (x0.Headers.length : Int)))) || (decide (20 < (x0.Metadata.length : Int))))) ?_ ?_
 ·intro S Q r
  cases b9 : ((decide (60 < (x0.Name.length : Int))) || (decide (16 < (x0.Headers.length : Int))))
  ·intro k
   have b6 := b9
   try simp only [qa, qaD] at b6
   obtain ⟨d9, d2, b7⟩ := ab.g_Metadata r0
   refine ah rfl rfl (bw rfl d2) (ah rfl rfl (bv rfl (TR.cnt (tSl ay.t) b7) (TR.agg (tSl ay.t) b7)) (ah rfl rfl (cq rfl (ci b7 Tryz.underlying23 _)) (ah rfl rfl (cb rfl rfl iu) ?_)))
   exact gK rfl rfl rfl rfl rfl k
  ·exact gN 4 rfl rfl rfl rfl rfl rfl
 refine mV rfl ?_
 refine ca 5 (d := 28) (v := vb ((((decide (60 < (x0.Name.length : Int))) || (decide (16 < (x0.Headers.length : Int)))) || (decide (20 < (x0.Metadata.length : Int)))) || (decide (8 < (x0.Registers.length : Int))))) ?_ ?_
 ·intro S Q r
  cases c6 : (((decide (60 < (x0.Name.length : Int))) || (decide (16 < (x0.Headers.length : Int)))) || (decide (20 < (x0.Metadata.length : Int))))
  ·intro k
   have a3 := c6
   try simp only [qa, qaD] at a3
   obtain ⟨e1, d4, a5⟩ := ab.g_Registers r0
   refine ah rfl rfl (bw rfl d4) (ah rfl rfl (bv rfl (TR.cnt (tSl cg.t) a5) (TR.agg (tSl cg.t) a5)) (ah rfl rfl (cq rfl (ci a5 Tryz.underlying24 _)) (ah rfl rfl (cb rfl rfl iu) ?_)))
   exact gK rfl rfl rfl rfl rfl k
  ·exact gN 4 rfl rfl rfl rfl rfl rfl
 refine mV rfl ?_
 refine ca 5 (d := 34) (v := vb (((((decide (60 < (x0.Name.length : Int))) || (decide (16 < (x0.Headers.length : Int)))) || (decide (20 < (x0.Metadata.length : Int)))) || (decide (8 < (x0.Registers.length : Int)))) || (decide (24 < (x0.Actions.length : Int))))) ?_ ?_
 ·intro S Q r
  cases c5 : ((((decide (60 < (x0.Name.length : Int))) || (decide (16 < (x0.Headers.length : Int)))) || (decide (20 < (x0.Metadata.length : Int)))) || (decide (8 < (x0.Registers.length : Int))))
  ·intro k
   have b1 := c5
   try simp only [qa, qaD] at b1
   obtain ⟨e2, d3, a6⟩ := ab.g_Actions r0
   refine ah rfl rfl (bw rfl d3) (ah rfl rfl (bv rfl (TR.cnt (tSl bc.t) a6) (TR.agg (tSl bc.t) a6)) (ah rfl rfl (cq rfl (ci a6 Tryz.underlying25 _)) (ah rfl rfl (cb rfl rfl iu) ?_)))
   exact gK rfl rfl rfl rfl rfl k
  ·exact gN 4 rfl rfl rfl rfl rfl rfl
 refine mV rfl ?_
 refine ca 5 (d := 40) (v := vb ((((((decide (60 < (x0.Name.length : Int))) || (decide (16 < (x0.Headers.length : Int)))) || (decide (20 < (x0.Metadata.length : Int)))) || (decide (8 < (x0.Registers.length : Int)))) || (decide (24 < (x0.Actions.length : Int)))) || (decide (16 < (x0.Tables.length : Int))))) ?_ ?_
 ·intro S Q r
  cases b8 : (((((decide (60 < (x0.Name.length : Int))) || (decide (16 < (x0.Headers.length : Int)))) || (decide (20 < (x0.Metadata.length : Int)))) || (decide (8 < (x0.Registers.length : Int)))) || (decide (24 < (x0.Actions.length : Int))))
  ·intro k
   have a8 := b8
   try simp only [qa, qaD] at a8
   obtain ⟨d6, c9, a4⟩ := ab.g_Tables r0
   refine ah rfl rfl (bw rfl c9) (ah rfl rfl (bv rfl (TR.cnt (tSl bh.t) a4) (TR.agg (tSl bh.t) a4)) (ah rfl rfl (cq rfl (ci a4 Tryz.underlying26 _)) (ah rfl rfl (cb rfl rfl iu) ?_)))
   exact gK rfl rfl rfl rfl rfl k
  ·exact gN 4 rfl rfl rfl rfl rfl rfl
 refine mV rfl ?_
 refine ca 5 (d := 46) (v := vb (((((((decide (60 < (x0.Name.length : Int))) || (decide (16 < (x0.Headers.length : Int)))) || (decide (20 < (x0.Metadata.length : Int)))) || (decide (8 < (x0.Registers.length : Int)))) || (decide (24 < (x0.Actions.length : Int)))) || (decide (16 < (x0.Tables.length : Int)))) || (decide (16 < (x0.States.length : Int))))) ?_ ?_
 ·intro S Q r
  cases c3 : ((((((decide (60 < (x0.Name.length : Int))) || (decide (16 < (x0.Headers.length : Int)))) || (decide (20 < (x0.Metadata.length : Int)))) || (decide (8 < (x0.Registers.length : Int)))) || (decide (24 < (x0.Actions.length : Int)))) || (decide (16 < (x0.Tables.length : Int))))
  ·intro k
   have a2 := c3
   try simp only [qa, qaD] at a2
   obtain ⟨e3, d0, b2⟩ := ab.g_States r0
   refine ah rfl rfl (bw rfl d0) (ah rfl rfl (bv rfl (TR.cnt (tSl bm.t) b2) (TR.agg (tSl bm.t) b2)) (ah rfl rfl (cq rfl (ci b2 Tryz.underlying27 _)) (ah rfl rfl (cb rfl rfl iu) ?_)))
   exact gK rfl rfl rfl rfl rfl k
  ·exact gN 4 rfl rfl rfl rfl rfl rfl
 refine mV rfl ?_
 refine ca 5 (d := 52) (v := vb ((((((((decide (60 < (x0.Name.length : Int))) || (decide (16 < (x0.Headers.length : Int)))) || (decide (20 < (x0.Metadata.length : Int)))) || (decide (8 < (x0.Registers.length : Int)))) || (decide (24 < (x0.Actions.length : Int)))) || (decide (16 < (x0.Tables.length : Int)))) || (decide (16 < (x0.States.length : Int)))) || (decide (16 < (x0.Deparser.length : Int))))) ?_ ?_
 ·intro S Q r
  cases c1 : (((((((decide (60 < (x0.Name.length : Int))) || (decide (16 < (x0.Headers.length : Int)))) || (decide (20 < (x0.Metadata.length : Int)))) || (decide (8 < (x0.Registers.length : Int)))) || (decide (24 < (x0.Actions.length : Int)))) || (decide (16 < (x0.Tables.length : Int)))) || (decide (16 < (x0.States.length : Int))))
  ·intro k
   have b5 := c1
   try simp only [qa, qaD] at b5
   obtain ⟨e0, d5, b4⟩ := ab.g_Deparser r0
   refine ah rfl rfl (bw rfl d5) (ah rfl rfl (bv rfl (TR.cnt (tSl tI) b4) (TR.agg (tSl tI) b4)) (ah rfl rfl (cq rfl (ci b4 Tryz.underlying29 _)) (ah rfl rfl (cb rfl rfl iu) ?_)))
   exact gK rfl rfl rfl rfl rfl k
  ·exact gN 4 rfl rfl rfl rfl rfl rfl
 refine mV rfl ?_
 refine ca 5 (d := 58) (v := vb (((((((((decide (60 < (x0.Name.length : Int))) || (decide (16 < (x0.Headers.length : Int)))) || (decide (20 < (x0.Metadata.length : Int)))) || (decide (8 < (x0.Registers.length : Int)))) || (decide (24 < (x0.Actions.length : Int)))) || (decide (16 < (x0.Tables.length : Int)))) || (decide (16 < (x0.States.length : Int)))) || (decide (16 < (x0.Deparser.length : Int)))) || (decide (60 < (oo x0.Control 10))))) ?_ ?_
 ·intro S Q r
  cases c2 : ((((((((decide (60 < (x0.Name.length : Int))) || (decide (16 < (x0.Headers.length : Int)))) || (decide (20 < (x0.Metadata.length : Int)))) || (decide (8 < (x0.Registers.length : Int)))) || (decide (24 < (x0.Actions.length : Int)))) || (decide (16 < (x0.Tables.length : Int)))) || (decide (16 < (x0.States.length : Int)))) || (decide (16 < (x0.Deparser.length : Int))))
  ·intro k
   have b3 := c2
   try simp only [qa, qaD] at b3
   obtain ⟨d8, c7, a1⟩ := ab.g_Control r0
   refine ah rfl rfl (bw rfl c7) (ah rfl rfl (bv rfl (TR.cnt (tSl aj.t) a1) (TR.agg (tSl aj.t) a1)) ?_)
   have d1 := cx2 (x1 := 10) a1 (by first | assumption | omega | (rw [cv (by omega) (by omega)]; omega)) (by first | assumption | omega | (rw [cv (by omega) (by omega)]; omega))
   refine mn rfl rfl (rp rfl rfl (ak (TR.clo (tSl aj.t) a1) (ak rfl bd)) d1) (ah rfl rfl (cb rfl rfl iu) ?_)
   exact gK rfl rfl rfl rfl rfl k
  ·exact gN 4 rfl rfl rfl rfl rfl rfl
 refine nS ?_
 refine bz hres rfl ?_ ?_ <;> clear hres <;> intro a0 hres <;> have b0 := a0 <;> try simp only [qa, qaD] at b0
 ·refine sR (mB rfl (nS ?_))
  exact rR hres rfl rfl rfl
 ·refine az (au (ap (sR (mI rfl (nS (bf ?_))))))
  refine wC (uf r0 a0 ?_  rfl (by omega) hres) rfl
  ·intro  hres
   refine em (au (ap (sR (mI rfl (nS (bf ?_))))))
   refine wC (ug r0 a0 ?_  rfl (by omega) hres) rfl
   ·intro  hres
    refine em (au (ap (sR (mI rfl (nS (bf ?_))))))
    refine wC (tu r0 a0 ?_  rfl (by omega) hres) rfl
    ·intro  hres
     refine em (au (ap (sR (mI rfl (nS (bf ?_))))))
     refine wC (tv r0 a0 ?_  rfl (by omega) hres) rfl
     ·intro  hres
      refine em (au (sR (mB rfl (nS ?_))))
      exact rR hres rfl rfl rfl

theorem bx4 : FnR Tryz.prog 14 [] (vb ri) := dg0

def RF206 (res : Bool) (r : PV) : Prop := r = vb res
theorem az3 {x0 : Int} : FnR Tryz.prog 206 [vi x0] (vb (pg x0)) := by
 refine fnS (R := RF206) bb0 (fun _ h => h) rfl fun res hres => ?_
 unfold pg at hres
 refine sR (mB rfl (nR (mV rfl (mV rfl (bN ks rfl rfl (mV rfl (nS ?_)))))))
 exact rR hres rfl rfl rfl

def RF141 (res : Int) (r : PV) : Prop := r = vi res
theorem aa9 {x0 x1 : Int} : FnR Tryz.prog 141 [vi x0, vi x1] (vi (kb x0 x1)) := by
 refine fnS (R := RF141) bd8 (fun _ h => h) rfl fun res hres => ?_
 unfold kb at hres
 refine sR (mI rfl (nR (mV rfl ?_)))
 obtain ⟨a4, a1, hres⟩ := bp hres
 have a0 := az3 (x0 := x0)  
 rw [a1] at a0
 refine cL a0 rfl rfl (ak rfl bd) (mV rfl (nR (mV rfl ?_)))
 obtain ⟨a5, a3, hres⟩ := bp hres
 have a2 := az3 (x0 := x1)  
 rw [a3] at a2
 refine cL a2 rfl rfl (ak rfl bd) (mV rfl (nS (ap (sR (mV rfl (nS ?_))))))
 refine bz hres rfl ?_ ?_ <;> clear hres <;> intro c hres <;> try simp only [qa, qaD] at c
 ·refine ap (sR (mV rfl (nS ?_)))
  refine bz hres rfl ?_ ?_ <;> clear hres <;> intro c hres <;> try simp only [qa, qaD] at c
  ·refine sR (mI rfl (nS ?_))
   exact rR hres rfl rfl rfl
  ·refine az (au (sR (mI rfl (nS ?_))))
   exact rR hres rfl rfl rfl
 ·refine az (au (ap (sR (mV rfl (nS ?_)))))
  refine bz hres rfl ?_ ?_ <;> clear hres <;> intro c hres <;> try simp only [qa, qaD] at c
  ·refine sR (mI rfl (nS ?_))
   exact rR hres rfl rfl rfl
  ·refine az (au (ap (sR (mV rfl (mV rfl (bN cn rfl rfl (nS ?_)))))))
   refine bz hres rfl ?_ ?_ <;> clear hres <;> intro c hres <;> try simp only [qa, qaD] at c
   ·refine sR (mI rfl (nS ?_))
    exact rR hres rfl rfl rfl
   ·refine az (au (ap (sR (mV rfl (mV rfl (bN iu rfl rfl (nS ?_)))))))
    refine bz hres rfl ?_ ?_ <;> clear hres <;> intro c hres <;> try simp only [qa, qaD] at c
    ·refine sR (mI rfl (nS ?_))
     exact rR hres rfl rfl rfl
    ·refine az (au (sR (mI rfl (nS ?_))))
     exact rR hres rfl rfl rfl

end Go.Proofs.YtmonnlkagniolaaGreat
