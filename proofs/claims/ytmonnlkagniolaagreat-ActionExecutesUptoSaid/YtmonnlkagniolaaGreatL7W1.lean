/-
 The code of each function does what its plain program says.
-/
import Derived.Test.YtmonnlkagniolaaGreatL7W0
set_option linter.unusedVariables false
set_option linter.unusedSimpArgs false
set_option maxRecDepth 100000
namespace Go.Proofs.YtmonnlkagniolaaGreat
open Go Go.Pb Go.RowKit
def RF203 (res : (List aw)) (r : PV) : Prop := (tSl aw.t).R res r
theorem co7 {x0 : af} {x1 : Int} {v0 : PV} (r0 : af.t.R x0 v0) : ∃ r, FnR Tryz.prog 203 [v0, vi x1] r ∧ (tSl aw.t).R (nt x0 x1) r := by
 refine fnT (R := RF203) bf7 rfl fun res s => ?_
 unfold nt at s
 refine sR (ae (cz rfl (TR.cnt af.t r0)) (ae (v := nilS) (ax rfl) (nS (au (sR (mV rfl (bN (dn (b := -1)) rfl rfl (nS ?_))))))))
 refine bt s rfl ?_ ?_ <;> clear s <;> intro c s <;> try simp only [qa] at c
 ·refine sR (gL (af.g_Metadata r0) rfl rfl rfl fun b0 a4 => (mV rfl (nS ?_)))
  exact rR s rfl (TR.clo (tSl aw.t) a4) a4
 ·refine ba (aq (sR ?_))
  obtain ⟨b1, a7, a0⟩ := af.g_Headers r0
  refine fA rfl a7 (lD a0 rfl rfl rfl (mV rfl ?_))
  obtain ⟨b2, a1, s⟩ := bn s
  obtain ⟨a8, a6, a3⟩ := cg9 (x1 := x1) a0 
  rw [a1] at a3
  refine cL a6 rfl rfl (ab (TR.clo (tSl cm.t) a0) (ab rfl ay)) ?_
  obtain ⟨a9, a5, a2⟩ := cm.g_Fields a3
  refine ae (yy rfl a5) (mV rfl (nS ?_))
  exact rR s rfl (TR.clo (tSl aw.t) a2) a2

def RF202 (res : aw) (r : PV) : Prop := aw.t.R res r
theorem ct7 {x0 : List aw} {x1 : Int} {v0 : PV} (r0 : (tSl aw.t).R x0 v0) : ∃ r, FnR Tryz.prog 202 [v0, vi x1] r ∧ aw.t.R (gu x0 x1) r := by
 refine fnT (R := RF202) bc4 rfl fun res s => ?_
 unfold gu at s
 refine sR ?_
 refine di (x := .agg [vs [], vi 0]) (Mem.nil ⟨0, []⟩) rfl rfl (fun a5 a8 b2 a7 => ?_)
 refine nR (ae (ak9 (x := .agg [vs [], vi 0]) rfl rfl) (nS (au (sR (mV rfl (bN ct rfl rfl (mV rfl ?_)))))))
 refine bw 5 (d := 13) (v := vb ((decide (x1 < 0)) || (decide ((x0.length : Int) ≤ x1)))) ?_ ?_
 ·intro S Q r
  cases a6 : (decide (x1 < 0))
  ·intro k
   have a2 := a6
   try simp only [qa] at a2
   refine ah rfl rfl (ax rfl) (ah rfl rfl (ax rfl) (ah rfl rfl (cy rfl (co r0 Tryz.underlying23 _)) (ah rfl rfl (bp rfl rfl ja) ?_)))
   exact gK rfl rfl rfl rfl rfl k
  ·exact gN 4 rfl rfl rfl rfl rfl rfl
 refine nS ?_
 refine bt s rfl ?_ ?_ <;> clear s <;> intro c s <;> try simp only [qa] at c
 ·refine sR (lR rfl rfl rfl ?_)
  refine ci (k := 0) (v := .agg [vs [], vi 0]) a7 rfl rfl rfl rfl (fun b1 a3 => ?_)
  replace a3 : Mem b1 [⟨.op a5 a8 0, 166, 2, [.agg [vs [], vi 0]]⟩] := a3
  refine nS ?_
  subst s
  exact dw (.cell rfl (cv (k := 0) a3 rfl rfl) .nil) (cd (TR.clo aw.t (show aw.t.R ({ Name := ([] : List UInt8), Width := 0 } : aw) (.agg [vs [], vi 0]) from rfl))) (show aw.t.R ({ Name := ([] : List UInt8), Width := 0 } : aw) (.agg [vs [], vi 0]) from rfl)
 ·refine ba (aq (sR (mV rfl (mV rfl ?_))))
  obtain ⟨a4, b0, a0⟩ := cr (i := x1) r0 (by omega) (by omega)
  refine ae (bh rfl rfl b0) (lD a0 rfl rfl rfl ?_)
  refine ci (k := 0) (v := a4) a7 rfl rfl rfl (TR.cnt aw.t a0) (fun a9 a1 => ?_)
  replace a1 : Mem a9 [⟨.op a5 a8 0, 166, 2, [a4]⟩] := a1
  refine nS ?_
  subst s
  exact dw (.cell rfl (cv (k := 0) a1 rfl (TR.agg aw.t a0)) .nil) (cd (TR.clo aw.t a0)) a0

def RF181 (res : Bool) (r : PV) : Prop := r = vb res
theorem ye {S : List Fr} {res : Bool} {x0 : List Int} {v0 : PV} (r0 : (tSl tI).R x0 v0) {K0 : Unit → Bool}
  (a5 : K0 () = res → PX Tryz.prog 0 S (QR Tryz.prog [(2, none)] (RF181 res)) [] ⟨0, []⟩) :
  ∀ {m : Nat} {a0 : Int} (a4 : m = Int.toNat ((x0.length : Int) - a0)) (a3 : 0 ≤ a0), jd x0 K0 m a0 = res → RC Tryz.prog (.loop ce4) S (QR Tryz.prog [(2, none)] (RF181 res)) [(7, vi a0), (6, vi (x0.length : Int)), (5, v0)] ⟨0, []⟩ := by
 intro m
 induction m with
 | zero =>
  intro a0 a4 a3 s
  rw [jd] at s
  refine de (sR (bN ct rfl rfl (nS (au ?_))))
  refine cw rfl ?_ ?_ <;> intro c <;> try simp only [qa] at c
  ·omega
  refine fc (gh (dy ?_))
  exact wP (a5  s) rfl
 | succ m ih =>
  intro a0 a4 a3 s
  rw [jd] at s
  refine de (sR (bN ct rfl rfl (nS (au ?_))))
  refine cw rfl ?_ ?_ <;> intro c <;> try simp only [qa] at c
  rotate_left
  ·omega
  refine ba (aq (au (cb (sR (ae (bh rfl rfl (slI r0 (by omega) (by omega))) (lR rfl rfl rfl (mV rfl (nR ?_))))))))
  refine mV rfl (bN ct rfl rfl (mV rfl ?_))
  refine bw 3 (d := 16) (v := vb ((decide ((ix x0 a0) < 1)) || (decide (32 < (ix x0 a0))))) ?_ ?_
  ·intro S Q r
   cases a2 : (decide ((ix x0 a0) < 1))
   ·intro k
    have a1 := a2
    try simp only [qa] at a1
    refine ah rfl rfl (ax rfl) (ah rfl rfl (bp rfl rfl ki) ?_)
    exact gK rfl rfl rfl rfl rfl k
   ·exact gN 2 rfl rfl rfl rfl rfl rfl
  refine nS ?_
  refine bt s rfl ?_ ?_ <;> clear s <;> intro c s <;> try simp only [qa] at c
  ·refine sR (mB rfl (nS ?_))
   exact rR s rfl rfl rfl
  ·refine ba (dj (aq (bb (bN fy rfl rfl (mV rfl (cf (du ?_)))))))
   have hbd := fg r0
   have u : wr (a0 + 1) = a0 + 1 := ek (by omega) (by omega)
   erw [u]
   exact wC (ih   (by omega) (by omega) s) rfl

theorem ad5 {x0 : List Int} {v0 : PV} (r0 : (tSl tI).R x0 v0) : FnR Tryz.prog 181 [v0] (vb (iq x0)) := by
 refine fnS (R := RF181) bj0 (fun _ h => h) rfl fun res s => ?_
 unfold iq at s
 refine sR (mB rfl (nS (au (sR (mV rfl (ae (cy rfl (co r0 Tryz.underlying29 _)) (mI rfl (nS ?_))))))))
 refine cb ?_
 refine wC (ye r0 ?_  rfl (by omega) s) rfl
 ·intro  s
  refine gy (aq (sR (mB rfl (nS ?_))))
  exact rR s rfl rfl rfl

def RF182 (res : (BitVec 32)) (r : PV) : Prop := r = bd res
theorem kt {x0 : Int} : FnR Tryz.prog 182 [vi x0] (bd (ca x0)) := by
 refine fnS (R := RF182) bm0 (fun _ h => h) rfl fun res s => ?_
 unfold ca at s
 refine sR (ae (v := bd 0#32) (ax rfl) (nS (au (sR (mV rfl (ae (v := .fs true [vi x0]) (ko rfl (all_cons rfl oa)) ?_))))))
 have a2 : (tSl tI).R ([x0] : List Int) (.fs true [vi x0]) := ah1 ⟨rfl, trivial⟩ (by simp)
 obtain ⟨a3, a1, s⟩ := bn s
 have a0 := ad5  a2 
 rw [a1] at a0
 refine cL a0 rfl rfl (ab (TR.clo (tSl tI) a2) ay) (ae (gv rfl) (nS ?_))
 refine bt s rfl ?_ ?_ <;> clear s <;> intro c s <;> try simp only [qa] at c
 ·refine sR (ae (v := bd 0#32) (ax rfl) (nS ?_))
  exact rR s rfl rfl rfl
 ·refine ba (aq (sR (mV rfl (bN au3 rfl rfl (ae (bp (a := bd 4294967295#32) (b := vi (wr (32 - x0))) rfl rfl (by6 (by exact ch7 (by assumption) (by assumption)))) (mV rfl (nS ?_)))))))
  exact rR s rfl rfl rfl

def RF136 (res : Int) (r : PV) : Prop := r = vi res
theorem ck5 {x0 : af} {x1 : ak} {v0 v1 : PV} (r0 : af.t.R x0 v0) (r1 : ak.t.R x1 v1) : FnR Tryz.prog 136 [v0, v1] (vi (ks x0 x1)) := by
 refine fnS (R := RF136) bf8 (fun _ h => h) rfl fun res s => ?_
 unfold ks at s
 refine sR (ae (cz rfl (TR.cnt af.t r0)) (ae (cz rfl (TR.cnt ak.t r1)) (mI rfl (nR (lD r0 rfl rfl rfl (fL rfl (ak.g_Header r1) rfl rfl ?_))))))
 obtain ⟨b2, a2, s⟩ := bn s
 obtain ⟨b0, a9, a0⟩ := co7 (x1 := x1.Header) r0 
 rw [a2] at a0
 refine cL a9 rfl rfl (ab (TR.clo af.t r0) (ab rfl ay)) (fL rfl (ak.g_Field r1) rfl rfl ?_)
 obtain ⟨a8, a5, s⟩ := bn s
 obtain ⟨b1, a7, a3⟩ := ct7 (x1 := x1.Field) a0 
 rw [a5] at a3
 refine cL a7 rfl rfl (ab (TR.clo (tSl aw.t) a0) (ab rfl ay)) (ae (yy rfl (aw.g_Width a3)) (mV rfl (nS (au (sR (mV rfl ?_))))))
 obtain ⟨a6, a1, s⟩ := bn s
 have a4 := kt (x0 := a8.Width)  
 rw [a1] at a4
 refine cL a4 rfl rfl (ab rfl ay) (ae (bp (a := bd a6) (b := bd 0#32) rfl rfl av6) (nS ?_))
 refine bt s rfl ?_ ?_ <;> clear s <;> intro c s <;> try simp only [qa] at c
 ·refine sR (mI rfl (nS ?_))
  exact rR s rfl rfl rfl
 ·refine ba (aq (sR (mV rfl (mV rfl (nS ?_)))))
  exact rR s rfl rfl rfl

def RF270 (res : Bool) (r : PV) : Prop := r = vb res
theorem ae3 {x0 : List (BitVec 32)} {x1 : Int} {v0 : PV} (r0 : (tSl dg).R x0 v0) : FnR Tryz.prog 270 [v0, vi x1] (vb (ga x0 x1)) := by
 refine fnS (R := RF270) bi3 (fun _ h => h) rfl fun res s => ?_
 unfold ga at s
 refine sR (mB rfl (nR (mV rfl (bN ja rfl rfl (mV rfl ?_)))))
 refine bw 5 (d := 12) (v := vb ((decide (0 ≤ x1)) && (decide (x1 < (x0.length : Int))))) ?_ ?_
 ·intro S Q r
  cases a1 : (decide (0 ≤ x1))
  ·exact gN 4 rfl rfl rfl rfl rfl rfl
  ·intro k
   have a0 := a1
   try simp only [qa] at a0
   refine ah rfl rfl (ax rfl) (ah rfl rfl (ax rfl) (ah rfl rfl (cy rfl (co r0 Tryz.underlying43 _)) (ah rfl rfl (bp rfl rfl ct) ?_)))
   exact gK rfl rfl rfl rfl rfl k
 refine mV rfl (nS ?_)
 exact rR s rfl rfl rfl

def RF271 (res : (List (BitVec 32))) (r : PV) : Prop := (tSl dg).R res r
theorem cj4 {x0 : List (List (BitVec 32))} {x1 : Int} {v0 : PV} (r0 : (tSl (tSl dg)).R x0 v0) : ∃ r, FnR Tryz.prog 271 [v0, vi x1] r ∧ (tSl dg).R (ii x0 x1) r := by
 refine fnT (R := RF271) aq1 rfl fun res s => ?_
 unfold ii at s
 refine sR (ae (v := nilS) (ax rfl) (nR (ae (v := nilS) (ax rfl) (nS (au (sR (mV rfl (bN ct rfl rfl ?_))))))))
 refine mV rfl ?_
 refine bw 5 (d := 13) (v := vb ((decide (x1 < 0)) || (decide ((x0.length : Int) ≤ x1)))) ?_ ?_
 ·intro S Q r
  cases a2 : (decide (x1 < 0))
  ·intro k
   have a1 := a2
   try simp only [qa] at a1
   refine ah rfl rfl (ax rfl) (ah rfl rfl (ax rfl) (ah rfl rfl (cy rfl (co r0 Tryz.underlying42 _)) (ah rfl rfl (bp rfl rfl ja) ?_)))
   exact gK rfl rfl rfl rfl rfl k
  ·exact gN 4 rfl rfl rfl rfl rfl rfl
 refine nS ?_
 refine bt s rfl ?_ ?_ <;> clear s <;> intro c s <;> try simp only [qa] at c
 ·refine sR (mV rfl (mV rfl (nS ?_)))
  exact rR s rfl (TR.clo (tSl dg) rk) rk
 ·refine ba (aq (sR (mV rfl (mV rfl ?_))))
  obtain ⟨a4, a3, a0⟩ := cr (i := x1) r0 (by omega) (by omega)
  refine ae (bh rfl rfl a3) (lD a0 rfl rfl rfl (mV rfl (nS ?_)))
  exact rR s rfl (TR.clo (tSl dg) a0) a0

def RF272 (res : Bool) (r : PV) : Prop := r = vb res
theorem bj8 {x0 : List Bool} {x1 : Int} {v0 : PV} (r0 : (tSl tB).R x0 v0) : FnR Tryz.prog 272 [v0, vi x1] (vb (nl x0 x1)) := by
 refine fnS (R := RF272) bi6 (fun _ h => h) rfl fun res s => ?_
 unfold nl at s
 refine sR (mB rfl (nR (mB rfl (nS (au (sR (mV rfl (bN ct rfl rfl ?_))))))))
 refine mV rfl ?_
 refine bw 5 (d := 13) (v := vb ((decide (x1 < 0)) || (decide ((x0.length : Int) ≤ x1)))) ?_ ?_
 ·intro S Q r
  cases a1 : (decide (x1 < 0))
  ·intro k
   have a0 := a1
   try simp only [qa] at a0
   refine ah rfl rfl (ax rfl) (ah rfl rfl (ax rfl) (ah rfl rfl (cy rfl (co r0 Tryz.underlying41 _)) (ah rfl rfl (bp rfl rfl ja) ?_)))
   exact gK rfl rfl rfl rfl rfl k
  ·exact gN 4 rfl rfl rfl rfl rfl rfl
 refine nS ?_
 refine bt s rfl ?_ ?_ <;> clear s <;> intro c s <;> try simp only [qa] at c
 ·refine sR (mV rfl (mV rfl (nS ?_)))
  exact rR s rfl rfl rfl
 ·refine ba (aq (sR (mV rfl (mV rfl (ae (bh rfl rfl (slB r0 (by omega) (by omega))) (lR rfl rfl rfl (mV rfl (nS ?_))))))))
  exact rR s rfl rfl rfl

def RF227 (res : (List (BitVec 32)) × Bool) (r : PV) : Prop := ∃ c0, r = .tup [c0, vb res.2] ∧ (tSl dg).R res.1 c0
theorem cj0 {x0 : ai} {x1 : ak} {v0 v1 : PV} (r0 : ai.t.R x0 v0) (r1 : ak.t.R x1 v1) : ∃ c0, FnR Tryz.prog 227 [v0, v1] (.tup [c0, vb ((fx x0 x1).2)]) ∧ (tSl dg).R (fx x0 x1).1 c0 := by
 obtain ⟨res, s⟩ : ∃ res, fx x0 x1 = res := ⟨_, rfl⟩
 suffices H : RC Tryz.prog da3 [] (QR Tryz.prog [(4, none), (5, none)] (RF227 res)) (argE 0 [v0, v1]) ⟨0, []⟩ by
  rw [s]
  obtain ⟨r, h1, c0, rfl, c1⟩ := fnE ao5 (by simp) H
  exact ⟨c0, h1, c1⟩
 unfold fx at s
 refine sR (ae (cz rfl (TR.cnt ai.t r0)) (ae (cz rfl (TR.cnt ak.t r1)) (ae (v := nilS) (ax rfl) (mB rfl (nS (au (sR (lD r1 rfl rfl rfl ?_))))))))
 refine fL rfl (ak.g_Field r1) rfl rfl (ae (v := .agg [vi (-1), vi x1.Field]) (eg (cs := [vi (-1), vi x1.Field]) rfl rfl) (bN (ak.eql_87 r1 (show ak.t.R ({ Header := (-1), Field := x1.Field } : ak) (.agg [vi (-1), vi x1.Field]) from rfl)) rfl rfl (nS ?_)))
 refine bt s rfl ?_ ?_ <;> clear s <;> intro c s <;> try simp only [qa] at c
 ·refine sR (gL (ai.g_Meta r0) rfl rfl rfl fun b4 a8 => (gL (ai.g_Meta r0) rfl rfl rfl fun b9 a2 => (fL rfl (ak.g_Field r1) rfl rfl ?_)))
  obtain ⟨c4, a3, s⟩ := bn s
  have a4 := ae3 (x1 := x1.Field) a2 
  rw [a3] at a4
  refine cL a4 rfl rfl (ab (TR.clo (tSl dg) a2) (ab rfl ay)) (mV rfl (mV rfl (nS ?_)))
  subst s
  exact dw (.tmp rfl (.tmp rfl .nil)) (cd (show closed (.tup _) = true from (ab (TR.clo (tSl dg) a8) (ab rfl ay)))) ⟨b4, rfl, a8⟩
 ·refine ba (aq (sR (gL (ai.g_Fields r0) rfl rfl rfl fun b8 a5 => (fL rfl (ak.g_Header r1) rfl rfl ?_))))
  obtain ⟨b5, a7, s⟩ := bn s
  obtain ⟨b6, b3, a0⟩ := cj4 (x1 := x1.Header) a5 
  rw [a7] at a0
  refine cL b3 rfl rfl (ab (TR.clo (tSl (tSl dg)) a5) (ab rfl ay)) (mV rfl (nR (mV rfl (gL (ai.g_Valid r0) rfl rfl rfl fun c5 b1 => (fL rfl (ak.g_Header r1) rfl rfl ?_)))))
  obtain ⟨b0, b2, s⟩ := bn s
  have a6 := bj8 (x1 := x1.Header) b1 
  rw [b2] at a6
  refine cL a6 rfl rfl (ab (TR.clo (tSl tB) b1) (ab rfl ay)) (mV rfl ?_)
  refine bw 5 (d := 35) (v := vb (b0 && (ga b5 x1.Field))) ?_ ?_
  ·intro S Q r
   cases a9 : b0
   ·exact gN 4 rfl rfl rfl rfl rfl rfl
   ·intro k
    have a1 := a9
    try simp only [qa] at a1
    refine ah rfl rfl (ax rfl) (ah rfl rfl (br rfl (ak.g_Field r1)) (ah rfl rfl (bq rfl rfl rfl) ?_))
    have b7 := ae3 (x1 := x1.Field) a0 
    refine jm rfl rfl (qq rfl rfl (ab (TR.clo (tSl dg) a0) (ab rfl ay)) b7) ?_
    exact gK rfl rfl rfl rfl rfl k
  refine mV rfl (mV rfl (nS ?_))
  subst s
  exact dw (.tmp rfl (.tmp rfl .nil)) (cd (show closed (.tup _) = true from (ab (TR.clo (tSl dg) a0) (ab rfl ay)))) ⟨b6, rfl, a0⟩

section
variable {h : Heap} {e : ai} {a b c d : PV} {eb ef em ep : List PV} {I R : List Ent}
theorem dc6 {L : List Ent} {k : Nat} (M : Mem h L) (hk : L[k]? = some ⟨b, 43, 1, ef⟩) (nb : isL b = true) (wb : Wri b ef) (ha : ∀ x ∈ ef, x.isAgg = false) {i : Int} :
  FnX Tryz.prog 271 [b, vi i] h (if 0 ≤ i ∧ i < (ef.length : Int) then ef.getD i.toNat nilS else nilS) h := by
 obtain ⟨r, h', X, rfl, rfl⟩ := fnX (P := Tryz.prog) (h := h) aq1 (args := [b, vi i]) (Φ := fun r k => r = (if 0 ≤ i ∧ i < (ef.length : Int) then ef.getD i.toNat nilS else nilS) ∧ k = h) (by simp) (by
  refine sR (ae (v := nilS) (ax rfl) (nR (ae (v := nilS) (ax rfl) (nS ?_))))
  refine au (sR (mV rfl (bN ct rfl rfl (mV rfl ?_))))
  refine bw 5 (d := 13) (v := vb ((decide (i < 0)) || (decide ((ef.length : Int) ≤ i)))) ?_ ?_
  ·intro S Q r
   cases a0 : (decide (i < 0))
   ·intro k
    refine ah rfl rfl (ax rfl) (ah rfl rfl (ax rfl) (ah rfl rfl (cy rfl (ap4 (M.at hk) Tryz.underlying42 nb _)) (ah rfl rfl (bp rfl rfl ja) ?_)))
    exact gK rfl rfl rfl rfl rfl k
   ·exact gN 4 rfl rfl rfl rfl rfl rfl
  refine nS (cw rfl (fun hc => ?_) fun hc => ?_)
  ·simp only [Bool.or_eq_true, decide_eq_true_eq] at hc
   refine sR (mV rfl (mV rfl (nS ?_)))
   exact kj (.tmp rfl .nil) ⟨by rw [if_neg (by omega)]; rfl, rfl⟩
  ·simp only [Bool.or_eq_false_iff, decide_eq_false_iff_not] at hc
   refine ba (aq (sR (mV rfl (mV rfl ?_))))
   have hlt : i.toNat < ef.length := by omega
   rcases wb with rfl | ⟨id, ver, n, rfl⟩
   ·simp at hlt
   have hn := oi M hk
   refine ae (bh rfl rfl (qs 1 (i := i) (by omega) (by omega))) ?_
   refine ae (vd M rfl hk (List.getElem?_eq_getElem hlt) (ha _ (List.getElem_mem hlt))) (mV rfl (nS ?_))
   exact kj (.tmp rfl .nil) ⟨by rw [if_pos (by omega), List.getD_eq_getElem?_getD, List.getElem?_eq_getElem hlt]; rfl, rfl⟩)
 exact X
theorem OE.aggs (H : OE h e a b c d eb ef em ep I R) : ∀ x ∈ ef, x.isAgg = false := by
 intro x hx
 obtain ⟨k, hk, rfl⟩ := List.getElem_of_mem hx
 have hl := H.f.len.1
 obtain ⟨v, es, g1, g2, g3, g4, g5, g6, g7⟩ := H.inner (i := (k : Int)) (by omega) (by omega)
 rw [Int.toNat_natCast, List.getElem?_eq_getElem hk, Option.some.injEq] at g1
 rw [g1]
 exact (gx H.M g3 g5).2
theorem OE.elv_ok (H : OE h e a b c d eb ef em ep I R) (r : ak) (hr : ¬r.Header = -1) : ∃ d', Deep Tryz.prog h (elv c ef r) d' ∧ (tSl dg).R (ii e.Fields r.Header) d' := by
 unfold elv ii
 rw [if_neg hr]
 have hl := H.f.len.1
 by_cases hi : 0 ≤ r.Header ∧ r.Header < (ef.length : Int)
 ·rw [if_pos hi, if_neg (by simp; omega)]
  obtain ⟨v, es, g1, g2, g3, g4, g5, g6, g7⟩ := H.inner (i := r.Header) hi.1 (by omega)
  rw [List.getD_eq_getElem?_getD, g1]
  exact sf (t := dg) H.M g3 g5 g4 (by omega)
 ·rw [if_neg hi, if_pos (by simp; omega)]
  exact ⟨nilS, cd rfl, rk⟩
theorem eb8 (H : OE h e a b c d eb ef em ep I R) (hE : EB e) {x1 : ak} {v1 : PV} (r1 : ak.t.R x1 v1) :
  FnX Tryz.prog 227 [.agg [a, b, c, d], v1] h (.tup [elv c ef x1, vb (fx e x1).2]) h := by
 obtain ⟨r, h', X, rfl, rfl⟩ := fnX (P := Tryz.prog) (h := h) ao5 (args := [.agg [a, b, c, d], v1]) (Φ := fun r k => r = .tup [elv c ef x1, vb (fx e x1).2] ∧ k = h) (by simp) (by
  refine sR (ae (cz rfl rfl) (ae (cz rfl (TR.cnt ak.t r1)) (ae (v := nilS) (ax rfl) (mB rfl (nS ?_)))))
  refine au (sR (lD r1 rfl rfl rfl (fL rfl (ak.g_Field r1) rfl rfl ?_)))
  refine ae (v := .agg [vi (-1), vi x1.Field]) (eg (cs := [vi (-1), vi x1.Field]) rfl rfl) (bN (ak.eql_87 r1 (show ak.t.R ({ Header := (-1), Field := x1.Field } : ak) (.agg [vi (-1), vi x1.Field]) from rfl)) rfl rfl ?_)
  have ec : (x1 = ({ Header := -1, Field := x1.Field } : ak)) ↔ x1.Header = -1 := by
   cases x1; simp [ak.mk.injEq]
  obtain ⟨d0, a3, s0⟩ := sf (P := Tryz.prog) (t := tB) H.M (k := 0) rfl H.na H.v (by have := hE.v; omega)
  obtain ⟨d2, a2, s2⟩ := sf (P := Tryz.prog) (t := dg) H.M (k := 2) rfl H.nc H.m (by have := hE.m; omega)
  have g2 : fieldR 2 1 false (.agg [a, b, c, d]) = some c := mk1 (gx H.M (k := 2) rfl H.nc).2
  have g1 : fieldR 1 1 false (.agg [a, b, c, d]) = some b := mk1 (gx H.M (k := 1) rfl H.nb).2
  have g0 : fieldR 0 1 false (.agg [a, b, c, d]) = some a := mk1 (gx H.M (k := 0) rfl H.na).2
  refine nS (cw rfl (fun hc => ?_) fun hc => ?_)
  ·simp only [decide_eq_true_eq, ec] at hc
   refine sR (fA rfl g2 (lR rfl (pv H.M (k := 2) rfl H.nc) (gx H.M (k := 2) rfl H.nc).2 (fA rfl g2 (lR rfl (pv H.M (k := 2) rfl H.nc) (gx H.M (k := 2) rfl H.nc).2 (fL rfl (ak.g_Field r1) rfl rfl ?_)))))
   refine rp (ro rfl rfl (lc a2 (lc (cd rfl) tx)) (ae3 (x1 := x1.Field) s2) rfl) (mV rfl (mV rfl (nS ?_)))
   refine kj (.tmp rfl (.tmp rfl .nil)) ⟨?_, rfl⟩
   have e2 : (fx e x1).2 = ga e.Metd x1.Field := by
    unfold fx
    simp only [LET]
    rw [if_pos (by simp only [decide_eq_true_eq, ec]; exact hc)]
   rw [e2]
   unfold elv
   rw [if_pos hc]
   rfl
  ·simp only [decide_eq_false_iff_not, ec] at hc
   obtain ⟨d1, a1, s1⟩ := H.elv_ok x1 hc
   have e1 : (if 0 ≤ x1.Header ∧ x1.Header < (ef.length : Int) then ef.getD x1.Header.toNat nilS else nilS) = elv c ef x1 := by unfold elv; rw [if_neg hc]
   have f1 := dc6 H.M (k := 1) rfl H.nb H.wb H.aggs (i := x1.Header)
   rw [e1] at f1
   refine ba (aq (au (gc ?_)))
   refine db (ae (br rfl g1) (da (db (ae (bq rfl (pv H.M (k := 1) rfl H.nb) (gx H.M (k := 1) rfl H.nb).2) (da ?_)))))
   refine db (ae (br rfl (ak.g_Header r1)) (da (db (ae (bq rfl rfl rfl) (da ?_)))))
   refine iw rfl rfl f1 ?_
   refine db (ae (ax rfl) (da (mc ?_)))
   refine aq (sR (ae (ax rfl) ?_))
   refine ae (br rfl g0) (ae (bq rfl (pv H.M (k := 0) rfl H.na) (gx H.M (k := 0) rfl H.na).2) (fL rfl (ak.g_Header r1) rfl rfl ?_))
   refine rp (ro rfl rfl (lc a3 (lc (cd rfl) tx)) (bj8 (x1 := x1.Header) s0) rfl) (mV rfl ?_)
   refine bw 5 (d := 35) (v := vb ((nl e.Valid x1.Header) && (ga (ii e.Fields x1.Header) x1.Field))) ?_ ?_
   ·intro S Q r
    cases a0 : (nl e.Valid x1.Header)
    ·exact gN 4 rfl rfl rfl rfl rfl rfl
    ·intro k
     refine ah rfl rfl (ax rfl) (ah rfl rfl (br rfl (ak.g_Field r1)) (ah rfl rfl (bq rfl rfl rfl) (jm rfl rfl (ro rfl rfl (lc a1 (lc (cd rfl) tx)) (ae3 (x1 := x1.Field) s1) rfl) ?_)))
     exact gK rfl rfl rfl rfl rfl k
   refine mV rfl (mV rfl (nS ?_))
   refine kj (.tmp rfl (.tmp rfl .nil)) ⟨?_, rfl⟩
   have e2 : (fx e x1).2 = ((nl e.Valid x1.Header) && (ga (ii e.Fields x1.Header) x1.Field)) := by
    unfold fx
    simp only [LET]
    rw [if_neg (by simp only [decide_eq_true_eq, ec]; exact hc)]
   rw [e2]
   rfl)
 exact X
end
theorem qj {S : List Fr} {E : TEnv} {h : Heap} {e : ai} {a b c d : PV} {eb ef em ep : List PV} {I R : List Ent} {i8 w8 i9 w9 dl t8 t9 : Nat} {x : PV} (H : OE h e a b c d eb ef em ep I (⟨.op i9 w9 0, 46, 4, [.agg [a, b, c, d]]⟩ :: ⟨.op i8 w8 0, 46, 4, [x]⟩ :: R)) (hE : EB e)
  (h9 : Pb.look t9 E = some (.op i9 w9 0)) (h8 : Pb.look t8 E = some (.op i8 w8 0)) (hd : Nat.beq t8 dl = false) : RC Tryz.prog (.seq (.region false [⟨some dl, .load 4 true (.tmp t9), none, false⟩, ⟨none, .store 4 (.tmp t8) (.tmp dl), none, false⟩]) .ret) S (QR Tryz.prog [(t8, some (4, true))] (ai.t.R e)) E h := by
 have e8 : evE ((dl, .agg [a, b, c, d]) :: E) (.tmp t8) = some (.op i8 w8 0) := by
  have : Nat.beq t8 dl = false := hd
  simp only [evE, Pb.look, this, cond_false]; exact h8
 have a0 : Pb.look t8 ((dl, .agg [a, b, c, d]) :: E) = some (.op i8 w8 0) := e8
 have ed : evE ((dl, .agg [a, b, c, d]) :: E) (.tmp dl) = some (.agg [a, b, c, d]) := by simp [evE, Pb.look]
 refine sR (ae (fq (k := 0) H.pull h9 rfl rfl) ?_)
 have M := H.pull
 have hk : (⟨a, 4, 1, eb⟩ :: ⟨b, 43, 1, ef⟩ :: ⟨c, 89, 1, em⟩ :: ⟨d, 5, 1, ep⟩ :: (I ++ (⟨.op i9 w9 0, 46, 4, [.agg [a, b, c, d]]⟩ :: ⟨.op i8 w8 0, 46, 4, [x]⟩ :: R)))[I.length + 5]? = some (⟨.op i8 w8 0, 46, 4, [x]⟩ : Ent) := by
  simp only [List.getElem?_cons_succ]
  rw [List.getElem?_append_right (by omega), show I.length + 1 - I.length = 1 by omega]; rfl
 refine ci (k := I.length + 5) (v := .agg [a, b, c, d]) H.M e8 ed hk rfl (fun h' M' => nS ?_)
 have hset : (I ++ (⟨.op i9 w9 0, 46, 4, [.agg [a, b, c, d]]⟩ :: ⟨.op i8 w8 0, 46, 4, [x]⟩ :: R)).set (I.length + 1) ⟨.op i8 w8 0, 46, 4, [.agg [a, b, c, d]]⟩ = I ++ (⟨.op i9 w9 0, 46, 4, [.agg [a, b, c, d]]⟩ :: ⟨.op i8 w8 0, 46, 4, [.agg [a, b, c, d]]⟩ :: R) := by
  rw [List.set_append_right _ _ (by omega), show I.length + 1 - I.length = 1 by omega]; rfl
 have H' : OE h' e a b c d eb ef em ep I (⟨.op i9 w9 0, 46, 4, [.agg [a, b, c, d]]⟩ :: ⟨.op i8 w8 0, 46, 4, [.agg [a, b, c, d]]⟩ :: R) := H.mem (by
  simp only [List.set_cons_succ] at M'
  rwa [hset] at M')
 obtain ⟨d', hd', hr⟩ := H'.deep hE
 have hk' : (⟨a, 4, 1, eb⟩ :: ⟨b, 43, 1, ef⟩ :: ⟨c, 89, 1, em⟩ :: ⟨d, 5, 1, ep⟩ :: (I ++ (⟨.op i9 w9 0, 46, 4, [.agg [a, b, c, d]]⟩ :: ⟨.op i8 w8 0, 46, 4, [.agg [a, b, c, d]]⟩ :: R)))[I.length + 5]? = some (⟨.op i8 w8 0, 46, 4, [.agg [a, b, c, d]]⟩ : Ent) := by
  simp only [List.getElem?_cons_succ]
  rw [List.getElem?_append_right (by omega), show I.length + 1 - I.length = 1 by omega]; rfl
 exact dw (.cell a0 (cv (k := I.length + 5) H'.M hk' rfl) .nil) hd' hr
theorem bt8 {l : List (BitVec 32)} {i : Int} (h : ga l i = true) : 0 ≤ i ∧ i < l.length := by
 unfold ga at h
 simpa using h
theorem ed4 {l : List (List (BitVec 32))} {i j : Int} (h : ga (ii l i) j = true) : (0 ≤ i ∧ i < l.length) ∧ 0 ≤ j ∧ j < (ix l i).length := by
 unfold ii at h
 split at h
 ·have := bt8 h
  simp at this
  omega
 ·rename_i hc
  simp only [Bool.or_eq_true, decide_eq_true_eq, not_or] at hc
  exact ⟨by omega, bt8 h⟩
theorem bj6 {x0 : af} {x1 : ai} {x2 : ak} {x3 : BitVec 32} {v0 v1 v2 : PV} (r0 : af.t.R x0 v0) (r1 : ai.t.R x1 v1) (r2 : ak.t.R x2 v2) (hE : EB x1) : ∃ r, FnR Tryz.prog 188 [v0, v1, v2, bd x3] r ∧ ai.t.R (ql x0 x1 x2 x3) r := by
 refine fnE bm6 (by simp) ?_
 refine au (bb ?_)
 refine ae (cz rfl (TR.cnt af.t r0)) (ae (cz rfl (TR.cnt ai.t r1)) (ae (cz rfl (TR.cnt ak.t r2)) ?_))
 refine di (x := .agg [nilS, nilS, nilS, nilS]) (Mem.nil _) rfl rfl (fun i8 w8 h8 M8 => ?_)
 refine cf (aq (au (gc ?_)))
 refine db (ae (bq rfl (TR.cnt ai.t r1) (TR.agg ai.t r1)) (da ?_))
 obtain ⟨rr, k, X, a, b, c, d, eb, ef, em, ep, I, rfl, H⟩ := af7 r1 hE M8
 refine iw rfl rfl X ?_
 refine db (di (x := .agg [nilS, nilS, nilS, nilS]) H.M rfl rfl (fun i9 w9 h9 M9 => da ?_))
 refine db (ci (k := 0) (v := .agg [a, b, c, d]) M9 rfl rfl rfl rfl (fun a1 a0 => da (mc ?_)))
 replace H := H.push (g := ⟨.op i9 w9 0, 46, 4, [.agg [a, b, c, d]]⟩) a0
 clear M8 M9 a0 X
 refine aq (au (bb ?_))
 refine lD r0 rfl rfl rfl (lD r2 rfl rfl rfl ?_)
 refine cL (ck5 r0 r2) rfl rfl (ab (TR.clo _ r0) (ab (TR.clo _ r2) ay)) (mV rfl ?_)
 refine cf (aq (au (au (gc ?_))))
 refine db (ae (fq (k := 0) H.pull rfl rfl rfl) (da ?_))
 refine db (ae (bq rfl (TR.cnt ak.t r2) (TR.agg ak.t r2)) (da ?_))
 refine iw rfl rfl (eb8 H hE r2) ?_
 refine db (ae (ax rfl) (da (db (ae (yf rfl rfl) (da (db (ae (yf rfl rfl) (da ?_))))))))
 refine db (ae (ax rfl) (da (db (ae (ax rfl) (da (mc ?_))))))
 refine aq (au (bb (mV rfl (mV rfl ?_))))
 refine bw 3 (d := 28) (v := vb ((fx x1 x2).2 && decide (0 < ks x0 x2))) ?_ ?_
 ·intro S Q r
  cases hb : (fx x1 x2).2
  ·exact gN 2 rfl rfl rfl rfl rfl rfl
  ·intro k
   refine ah rfl rfl (ax rfl) (ah rfl rfl (bp rfl rfl ki) ?_)
   exact gK rfl rfl rfl rfl rfl k
 refine cf (aq (cw rfl (fun hc => ?_) fun hc => ?_))
 ·have hs : ql x0 x1 x2 x3 = putF x1 x2 (x3 &&& ca (ks x0 x2)) := by unfold ql; rw [if_pos hc]
  rw [hs]
  simp only [Bool.and_eq_true] at hc
  have el := hc.1
  unfold fx at el
  simp only [LET] at el
  refine bb (mV rfl (fL rfl (ak.g_Field r2) rfl rfl (mV rfl (mV rfl ?_))))
  refine cL (kt (x0 := ks x0 x2)) rfl rfl (ab rfl ay) (bN qe rfl rfl ?_)
  have ec : (x2 = ({ Header := -1, Field := x2.Field } : ak)) ↔ x2.Header = -1 := by
   cases x2; simp [ak.mk.injEq]
  by_cases hm : x2.Header = -1
  ·rw [if_pos (by simp only [decide_eq_true_eq, ec]; exact hm)] at el
   have hi := bt8 el
   have e2 : elv c ef x2 = c := by unfold elv; rw [if_pos hm]
   have e3 : putF x1 x2 (x3 &&& ca (ks x0 x2)) = { x1 with Metd := x1.Metd.set x2.Field.toNat (x3 &&& ca (ks x0 x2)) } := by unfold putF; rw [if_pos hm]
   rw [e2, e3]
   obtain ⟨id, ver, n, rfl⟩ := ut H.wc H.m hi.1 hi.2
   have hn := oi H.M (k := 2) rfl
   have hl := H.m.length
   refine ae (bh rfl rfl (qs 1 (i := x2.Field) hi.1 (by omega))) ?_
   exact rq (k := 2) (i := x2.Field.toNat) H.M rfl rfl rfl (by omega) rfl (fun h' M' => cf (aq (qj (H.setM M' ⟨_, _, _, rfl⟩) hE.setM rfl rfl rfl)))
  ·rw [if_neg (by simp only [decide_eq_true_eq, ec]; exact hm)] at el
   simp only [Bool.and_eq_true] at el
   obtain ⟨hr, hi⟩ := ed4 el.2
   have hlen := H.f.len.1
   obtain ⟨v, es, g1, g2, g3, g4, g5, g6, g7⟩ := H.inner hr.1 hr.2
   have e2 : elv c ef x2 = v := by unfold elv; rw [if_neg hm, if_pos ⟨hr.1, by omega⟩, List.getD_eq_getElem?_getD, g1]; rfl
   have e3 : putF x1 x2 (x3 &&& ca (ks x0 x2)) = { x1 with Fields := x1.Fields.set x2.Header.toNat ((ix x1.Fields x2.Header).set x2.Field.toNat (x3 &&& ca (ks x0 x2))) } := by unfold putF; rw [if_neg hm]
   rw [e2, e3]
   obtain ⟨id, ver, n, rfl⟩ := ut g7 g4 hi.1 hi.2
   have hn := oi H.M g3
   have hl := g4.length
   refine ae (bh rfl rfl (qs 1 (i := x2.Field) hi.1 (by omega))) ?_
   exact rq (i := x2.Field.toNat) H.M rfl rfl g3 (by omega) rfl (fun h' M' => cf (aq (qj (H.setF g1 g2 g4 g5 g6 M' ⟨_, _, _, rfl⟩) (hE.setF (by rw [List.length_set]; exact hE.i _ (xz hr.1 hr.2))) rfl rfl rfl)))
 ·have hs : ql x0 x1 x2 x3 = x1 := by unfold ql; rw [if_neg (by rw [hc]; simp)]
  rw [hs]
  exact ba (aq (qj H hE rfl rfl rfl))

theorem ee2 {α : Type} [Inhabited α] {l : List (List α)} {i : Nat} (hi : i < l.length) : (l.take i ++ List.replicate (l.length - i) []).set i l[i] = l.take (i + 1) ++ List.replicate (l.length - (i + 1)) [] := by
 have e1 : (l.take i).length = i := by simp; omega
 rw [List.set_append_right _ _ (by omega), e1, Nat.sub_self, show l.length - i = (l.length - (i + 1)) + 1 by omega, List.replicate_succ, List.set_cons_zero, List.take_succ_eq_append_getElem hi, List.append_assoc]
 rfl
structure OR (h : Heap) (rs : List (List (BitVec 32))) (b : PV) (ef : List PV) (I R : List Ent) : Prop where
 M : Mem h (⟨b, 43, 1, ef⟩ :: (I ++ R))
 f : Ns dg 89 rs ef I
 nb : isL b = true
 wb : Wri b ef
theorem cb4 {S : List Fr} {Q : Post} {x0 : List (List (BitVec 32))} {v0 : PV} (q1 : (tSl (tSl dg)).R x0 v0) (hE : RB x0) {id ver : Nat} {R_ : List Ent}
  (K : ∀ {h : Heap} {ef : List PV} {I : List Ent}, OR h x0 (.os id ver 0 x0.length) ef I R_ → PX Tryz.prog 0 S Q [(3, .os id ver 0 x0.length)] h) :
  ∀ (m : Nat) {i : Int} {ef : List PV} {I : List Ent} {h : Heap}, m = Int.toNat ((x0.length : Int) - i) → 0 ≤ i → i ≤ x0.length →
   OR h (x0.take i.toNat ++ List.replicate (x0.length - i.toNat) []) (.os id ver 0 x0.length) ef I R_ →
   RC Tryz.prog (.loop cb8) S Q [(11, vi i), (10, vi (x0.length : Int)), (9, v0), (3, .os id ver 0 x0.length)] h
 | 0, i, ef, I, h, hm, h0, h1, H => by
  refine de ?_
  refine au (bb (ae (bp rfl rfl ct) (cf (aq (au (cw rfl (fun hc => ?_) fun hc => ?_))))))
  ·simp only [decide_eq_true_eq] at hc; omega
  ·have e : i = x0.length := by omega
   subst e
   rw [Int.toNat_natCast, List.take_length, Nat.sub_self, List.replicate_zero, List.append_nil] at H
   exact fc (gh (dy (wP (K H) rfl)))
 | m + 1, i, ef, I, h, hm, h0, h1, H => by
  have hlt : i < (x0.length : Int) := by omega
  refine de ?_
  refine au (bb (ae (bp rfl rfl ct) (cf (aq (au (cw rfl (fun hc => ?_) fun hc => ?_))))))
  ·refine ba (aq (au (cb ?_)))
   obtain ⟨g0, e0, q0⟩ := cr (i := i) q1 h0 hlt
   have hb := ol hE.i h0 hlt
   have hen : ef.length = x0.length := by rw [H.f.len.1]; simp; omega
   have hIn : I.length = x0.length := by rw [H.f.len.2]; simp; omega
   refine au (bb ?_)
   refine mV rfl (ae (bh rfl rfl e0) (ae (bq rfl (TR.cnt _ q0) (TR.agg _ q0)) (mV rfl (mV rfl ?_))))
   refine cf (aq (au (bb ?_)))
   refine mV rfl (mV rfl (mV rfl (ae (cy rfl (co q0 Tryz.underlying43 _)) ?_)))
   have ff : fits (ix x0 i).length 4 = true := li (by omega) (by omega)
   refine ag7 (sz := 1) (ty := 89) (n := (ix x0 i).length) (zz := bd 0#32) H.M rfl rfl rfl rfl rfl ff (fun j w h2 M2 => ?_)
   refine ae (bh rfl rfl (qs 1 (i := i) h0 (by omega))) ?_
   refine rq (k := 1) (i := i.toNat) M2 rfl rfl rfl (by omega) rfl (fun h3 M3 => ?_)
   have M4 : Mem h3 (⟨.os id ver 0 x0.length, 43, 1, ef.set i.toNat (.os j w 0 (ix x0 i).length)⟩ :: (I.set i.toNat ⟨.os j w 0 (ix x0 i).length, 89, 1, List.replicate (ix x0 i).length (bd 0#32)⟩ ++ R_)) :=
    bk4 (C := [⟨.os id ver 0 x0.length, 43, 1, ef.set i.toNat (.os j w 0 (ix x0 i).length)⟩]) (Mem.sub M3 (.cons_cons _ (.cons_cons _ (List.Sublist.append_right (List.eraseIdx_sublist ..) _)))) (by omega)
   refine cf (aq (bb (mV rfl (mV rfl ?_))))
   refine ae (bh rfl rfl (qs 1 (i := i) h0 (by omega))) ?_
   refine ae (vd (k := 0) M4 rfl rfl (List.getElem?_set_self (by omega)) rfl) (mV rfl ?_)
   obtain ⟨nw, sr, ar⟩ := qr (t := dg) (h := h3) q0
   have hk : (⟨.os id ver 0 x0.length, 43, 1, ef.set i.toNat (.os j w 0 (ix x0 i).length)⟩ :: (I.set i.toNat ⟨.os j w 0 (ix x0 i).length, 89, 1, List.replicate (ix x0 i).length (bd 0#32)⟩ ++ R_))[i.toNat + 1]? = some (⟨.os j w 0 (ix x0 i).length, 89, 1, List.replicate (ix x0 i).length (bd 0#32)⟩ : Ent) := by
    rw [List.getElem?_cons_succ, List.getElem?_append_left (by rw [List.length_set]; omega), List.getElem?_set_self (by omega)]
   refine cn2 M4 rfl rfl hk sr (by rw [ar.length, List.length_replicate]) (fun h5 M5 => ?_)
   rw [List.set_cons_succ, List.set_append_left _ _ (by rw [List.length_set]; omega), List.set_set] at M5
   refine cf (dj (aq (bb (ae (bp rfl rfl fy) (mV rfl (cf (du ?_)))))))
   have u : wr (i + 1) = i + 1 := ek (by omega) (by have := hE.o; omega)
   refine xa ?_ (cb4 q1 hE K m (i := i + 1) (by omega) (by omega) (by omega) ⟨M5, ?_, rfl, .inr ⟨_, _, _, rfl⟩⟩)
   ·exact ul (by show some (vi (wr (i + 1))) = _; rw [u]) (sB rfl)
   ·have e := ee2 (l := x0) (i := i.toNat) (by omega)
    rw [← vw h0 hlt] at e
    rw [show (i + 1).toNat = i.toNat + 1 by omega, ← e]
    exact ba8 H.f ar rfl (by omega) (.inr ⟨_, _, _, rfl⟩)
  ·simp only [decide_eq_false_iff_not] at hc; omega
theorem bg7 {f n : Nat} (X : FnText Tryz.prog f [] n 1 cf3 [(2, none)]) {x0 : List (List (BitVec 32))} {v0 : PV} (r0 : (tSl (tSl dg)).R x0 v0) (hE : RB x0) {h_ : Heap} {R_ : List Ent} (M_ : Mem h_ R_) : ∃ r k, FnX Tryz.prog f [v0] h_ r k ∧ ∃ ef I, OR k x0 r ef I R_ := by
 refine fnX X (by simp) ?_
 refine au (bb (ae (v := nilS) (ax rfl) (cf (aq (au (bb ?_))))))
 refine mV rfl (ae (cy rfl (co r0 Tryz.underlying42 _)) ?_)
 have ff : fits x0.length 24 = true := li (by have := hE.o; omega) (by have := hE.o; omega)
 refine ag7 (sz := 1) (ty := 43) (n := x0.length) (zz := nilS) M_ rfl rfl rfl rfl rfl ff (fun id ver h2 M2 => ?_)
 have M3 := dq2 (C := [⟨.os id ver 0 x0.length, 43, 1, List.replicate x0.length nilS⟩]) M2 89 1 x0.length
 refine mV rfl (cf (aq (au (au (bb ?_)))))
 refine mV rfl (ae (cy rfl (co r0 Tryz.underlying42 _)) (mV rfl (cf (aq (cb ?_)))))
 refine wC (cb4 (x0 := x0) r0 hE (R_ := R_) ?_ x0.length (i := 0) (by omega) (by omega) (by omega) ⟨M3, (by rw [show Int.toNat 0 = 0 from rfl, List.take_zero, List.nil_append, Nat.sub_zero]; exact dh9 (t := dg) (ty := 89) x0.length), rfl, .inr ⟨_, _, _, rfl⟩⟩) rfl
 ·intro h ef I H
  refine gy (aq (au (bb (mV rfl (mV rfl (cf (aq ?_)))))))
  exact kj (.tmp rfl .nil) ⟨ef, I, H⟩
theorem OR.deep {h : Heap} {rs : List (List (BitVec 32))} {b : PV} {ef : List PV} {I R : List Ent} (H : OR h rs b ef I R) (hb : RB rs) : ∃ r, Deep Tryz.prog h b r ∧ (tSl (tSl dg)).R rs r :=
 bf0 (P := Tryz.prog) (C := [⟨b, 43, 1, ef⟩]) (k := 0) H.M rfl H.nb H.f (by have := hb.o; omega)
theorem ch0 {x0 : List (List (BitVec 32))} {v0 : PV} (r0 : (tSl (tSl dg)).R x0 v0) (hE : RB x0) : ∃ r, FnR Tryz.prog 117 [v0] r ∧ (tSl (tSl dg)).R (po x0) r := by
 obtain ⟨r, k, X, ef, I, H⟩ := bg7 bd4 r0 hE (Mem.nil ⟨0, []⟩)
 obtain ⟨d, hd, hr⟩ := H.deep hE
 exact ⟨d, FnR.of_X X hd, hr⟩

def RF221 (res : Bool) (r : PV) : Prop := r = vb res
theorem bh7 {x0 : UInt8} : FnR Tryz.prog 221 [vu8 x0] (vb (ky x0)) := by
 refine fnS (R := RF221) bi8 (fun _ h => h) rfl fun res s => ?_
 unfold ky at s
 refine sR (mB rfl (nR (mV rfl (ae (bp (a := vu8 x0) (b := vu8 (97 : UInt8)) rfl rfl al1) (mV rfl ?_)))))
 refine bw 3 (d := 8) (v := vb ((decide ((97 : UInt8) ≤ x0)) && (decide (x0 ≤ (122 : UInt8))))) ?_ ?_
 ·intro S Q r
  cases a3 : (decide ((97 : UInt8) ≤ x0))
  ·exact gN 2 rfl rfl rfl rfl rfl rfl
  ·intro k
   have a2 := a3
   try simp only [qa] at a2
   refine ah rfl rfl (ax rfl) (ah rfl rfl (bp (a := vu8 x0) (b := vu8 (122 : UInt8)) rfl rfl al2) ?_)
   exact gK rfl rfl rfl rfl rfl k
 refine mV rfl ?_
 refine bw 7 (d := 16) (v := vb (((decide ((97 : UInt8) ≤ x0)) && (decide (x0 ≤ (122 : UInt8)))) || ((decide ((65 : UInt8) ≤ x0)) && (decide (x0 ≤ (90 : UInt8)))))) ?_ ?_
 ·intro S Q r
  cases a5 : ((decide ((97 : UInt8) ≤ x0)) && (decide (x0 ≤ (122 : UInt8))))
  ·intro k
   have a1 := a5
   try simp only [qa] at a1
   refine ah rfl rfl (ax rfl) (ah rfl rfl (bp (a := vu8 x0) (b := vu8 (65 : UInt8)) rfl rfl al1) (ah rfl rfl (ax rfl) ?_))
   refine bw 3 (d := 15) (v := vb ((decide ((65 : UInt8) ≤ x0)) && (decide (x0 ≤ (90 : UInt8))))) ?_ ?_
   ·intro S Q r
    cases a4 : (decide ((65 : UInt8) ≤ x0))
    ·intro k
     refine lh rfl rfl (lh rfl rfl (ah (v := vb false) rfl rfl (ob rfl rfl rfl rfl) ?_))
     exact wD k rfl
    ·intro k
     have a0 := a4
     try simp only [qa] at a0
     refine ah rfl rfl (ax rfl) (ah rfl rfl (bp (a := vu8 x0) (b := vu8 (90 : UInt8)) rfl rfl al2) (ah (v := vb (decide (x0 ≤ (90 : UInt8)))) rfl rfl (ob rfl rfl rfl rfl) ?_))
     exact wD k rfl
   exact gK rfl rfl rfl rfl rfl k
  ·exact gN 6 rfl rfl rfl rfl rfl rfl
 refine mV rfl (nS ?_)
 exact rR s rfl rfl rfl

def RF222 (res : Int) (r : PV) : Prop := r = vi res
theorem yb {S : List Fr} {res : Int} {x0 : List UInt8} {x1 : UInt8 → Bool} {v1 : PV} (r1 : (tFn Tryz.prog tU8 tB).R x1 v1) (hs : x0.length ≤ 1000) {K0 : Int → Int}
  (b1 : ∀ {a0 : Int}, K0 a0 = res → PX Tryz.prog 0 S (QR Tryz.prog [(4, none)] (RF222 res)) [(5, vi a0)] ⟨0, []⟩) :
  ∀ {m : Nat} {a0 : Int} (b0 : m = Int.toNat ((x0.length : Int) - a0)) (a6 : 0 ≤ a0), lf x0 x1 K0 m a0 = res → RC Tryz.prog (.loop bw4) S (QR Tryz.prog [(4, none)] (RF222 res)) [(5, vi a0), (1, v1), (0, vs x0)] ⟨0, []⟩ := by
 intro m
 induction m with
 | zero =>
  intro a0 b0 a6 s
  rw [lf] at s
  refine de (au (sR (mV rfl (mV rfl (ae (cy rfl (tk Tryz.underlying9)) (bN ct rfl rfl (mV rfl ?_)))))))
  refine bw 6 (d := 16) (v := vb ((decide (a0 < (x0.length : Int))) && (x1 (ix x0 a0)))) ?_ ?_
  ·intro S Q r
   cases a5 : (decide (a0 < (x0.length : Int)))
   ·exact gN 5 rfl rfl rfl rfl rfl rfl
   ·intro k
    have a1 := a5
    try simp only [qa] at a1
    refine ah rfl rfl (ax rfl) (ah rfl rfl (ax rfl) (ah rfl rfl (ax rfl) (ah rfl rfl (qt rfl rfl (uq Tryz.underlying9 (by omega) (by omega))) ?_)))
    refine ak5 rfl rfl rfl r1 rfl (show tU8.R (ix x0 a0) (vu8 (ix x0 a0)) from rfl) (fun a9 a4 => ?_)
    have a4 : a9 = vb (x1 (ix x0 a0)) := a4; subst a4
    exact gK rfl rfl rfl rfl rfl k
  refine nS ?_
  refine cw rfl ?_ ?_ <;> intro c <;> try simp only [qa] at c
  ·omega
  refine fc (gh (dy ?_))
  exact wP (b1  s) rfl
 | succ m ih =>
  intro a0 b0 a6 s
  rw [lf] at s
  refine de (au (sR (mV rfl (mV rfl (ae (cy rfl (tk Tryz.underlying9)) (bN ct rfl rfl (mV rfl ?_)))))))
  refine bw 6 (d := 16) (v := vb ((decide (a0 < (x0.length : Int))) && (x1 (ix x0 a0)))) ?_ ?_
  ·intro S Q r
   cases a7 : (decide (a0 < (x0.length : Int)))
   ·exact gN 5 rfl rfl rfl rfl rfl rfl
   ·intro k
    have a2 := a7
    try simp only [qa] at a2
    refine ah rfl rfl (ax rfl) (ah rfl rfl (ax rfl) (ah rfl rfl (ax rfl) (ah rfl rfl (qt rfl rfl (uq Tryz.underlying9 (by omega) (by omega))) ?_)))
    refine ak5 rfl rfl rfl r1 rfl (show tU8.R (ix x0 a0) (vu8 (ix x0 a0)) from rfl) (fun a8 a3 => ?_)
    have a3 : a8 = vb (x1 (ix x0 a0)) := a3; subst a3
    exact gK rfl rfl rfl rfl rfl k
  refine nS ?_
  refine bt s rfl ?_ ?_ <;> clear s <;> intro c s <;> try simp only [qa] at c
  ·refine ba (aq (cb (bb (mV rfl (bN fy rfl rfl (mV rfl (cf (dj ?_))))))))
   refine du ?_
   have u : wr (a0 + 1) = a0 + 1 := ek (by omega) (by omega)
   erw [u]
   exact wC (ih   (by omega) (by omega) s) rfl
  ·refine fc (gh (dy ?_))
   exact wP (b1  s) rfl

theorem cm1 {x0 : List UInt8} {x1 : UInt8 → Bool} {v1 : PV} (r1 : (tFn Tryz.prog tU8 tB).R x1 v1) (hs : x0.length ≤ 1000) : FnR Tryz.prog 222 [vs x0, v1] (vi (si x0 x1)) := by
 refine fnS (R := RF222) bc1 (fun _ h => h) rfl fun res s => ?_
 unfold si at s
 refine sR (mI rfl (nR (mI rfl (nS (au (cb ?_))))))
 refine wC (yb r1 hs ?_  rfl (by omega) s) rfl
 ·intro a0 s
  refine gy (aq (sR (mV rfl (mV rfl (nS ?_)))))
  exact rR s rfl rfl rfl

def RF224 (res : Bool) (r : PV) : Prop := r = vb res
theorem ck2 {x0 : UInt8} : FnR Tryz.prog 224 [vu8 x0] (vb (ll x0)) := by
 refine fnS (R := RF224) bd8 (fun _ h => h) rfl fun res s => ?_
 unfold ll at s
 refine sR (mB rfl (nR (mV rfl (ae (bp (a := vu8 x0) (b := vu8 (48 : UInt8)) rfl rfl al1) (mV rfl ?_)))))
 refine bw 3 (d := 8) (v := vb ((decide ((48 : UInt8) ≤ x0)) && (decide (x0 ≤ (57 : UInt8))))) ?_ ?_
 ·intro S Q r
  cases a1 : (decide ((48 : UInt8) ≤ x0))
  ·exact gN 2 rfl rfl rfl rfl rfl rfl
  ·intro k
   have a0 := a1
   try simp only [qa] at a0
   refine ah rfl rfl (ax rfl) (ah rfl rfl (bp (a := vu8 x0) (b := vu8 (57 : UInt8)) rfl rfl al2) ?_)
   exact gK rfl rfl rfl rfl rfl k
 refine mV rfl (nS ?_)
 exact rR s rfl rfl rfl

def RF223 (res : Bool) (r : PV) : Prop := r = vb res
theorem cy5 {x0 : UInt8} : FnR Tryz.prog 223 [vu8 x0] (vb (jt x0)) := by
 refine fnS (R := RF223) bj7 (fun _ h => h) rfl fun res s => ?_
 unfold jt at s
 refine sR (mB rfl (nR (mV rfl ?_)))
 obtain ⟨a0, a6, s⟩ := bn s
 have a3 := bh7 (x0 := x0)  
 rw [a6] at a3
 refine cL a3 rfl rfl (ab rfl ay) (mV rfl ?_)
 refine bw 3 (d := 8) (v := vb (a0 || (ll x0))) ?_ ?_
 ·intro S Q r
  cases a4 : a0
  ·intro k
   have a1 := a4
   try simp only [qa] at a1
   refine ah rfl rfl (ax rfl) ?_
   have a7 := ck2 (x0 := x0)  
   refine jm rfl rfl (qq rfl rfl (ab rfl ay) a7) ?_
   exact gK rfl rfl rfl rfl rfl k
  ·exact gN 2 rfl rfl rfl rfl rfl rfl
 refine mV rfl ?_
 refine bw 3 (d := 12) (v := vb ((a0 || (ll x0)) || (decide (x0 = (95 : UInt8))))) ?_ ?_
 ·intro S Q r
  cases a5 : (a0 || (ll x0))
  ·intro k
   have a2 := a5
   try simp only [qa] at a2
   refine ah rfl rfl (ax rfl) (ah rfl rfl (bp (a := vu8 x0) (b := vu8 (95 : UInt8)) rfl rfl du2) ?_)
   exact gK rfl rfl rfl rfl rfl k
  ·exact gN 2 rfl rfl rfl rfl rfl rfl
 refine mV rfl (nS ?_)
 exact rR s rfl rfl rfl

theorem do7 : (tFn Tryz.prog tU8 tB).R jt (.fn (.func 223) [] []) := dg4 fun a va ra => by obtain rfl := ra; exact ⟨_, cy5, rfl⟩

def RF169 (res : Bool) (r : PV) : Prop := r = vb res
theorem bl2 {x0 : List UInt8} : FnR Tryz.prog 169 [vs x0] (vb (jp x0)) := by
 refine fnS (R := RF169) bg5 (fun _ h => h) rfl fun res s => ?_
 unfold jp at s
 refine sR (mB rfl (nS (au (sR (mV rfl (ae (cy rfl (tk Tryz.underlying9)) (bN dn rfl rfl (mV rfl ?_))))))))
 refine bw 4 (d := 10) (v := vb ((decide ((x0.length : Int) = 0)) || (decide (16 < (x0.length : Int))))) ?_ ?_
 ·intro S Q r
  cases a2 : (decide ((x0.length : Int) = 0))
  ·intro k
   have a1 := a2
   try simp only [qa] at a1
   refine ah rfl rfl (ax rfl) (ah rfl rfl (cy rfl (tk Tryz.underlying9)) (ah rfl rfl (bp rfl rfl ki) ?_))
   exact gK rfl rfl rfl rfl rfl k
  ·exact gN 3 rfl rfl rfl rfl rfl rfl
 refine mV rfl ?_
 refine bw 5 (d := 16) (v := vb (((decide ((x0.length : Int) = 0)) || (decide (16 < (x0.length : Int)))) || (!(ky (ix x0 0))))) ?_ ?_
 ·intro S Q r
  cases a4 : ((decide ((x0.length : Int) = 0)) || (decide (16 < (x0.length : Int))))
  ·intro k
   have a0 := a4
   try simp only [qa] at a0
   refine ah rfl rfl (ax rfl) (ah rfl rfl (qt rfl rfl (uq (i := 0) Tryz.underlying9 (by omega) (by omega))) ?_)
   have a6 := bh7 (x0 := (ix x0 0))  
   refine jm rfl rfl (qq rfl rfl (ab rfl ay) a6) (ah rfl rfl (gv rfl) ?_)
   exact gK rfl rfl rfl rfl rfl k
  ·exact gN 4 rfl rfl rfl rfl rfl rfl
 refine nS ?_
 refine bt s rfl ?_ ?_ <;> clear s <;> intro c s <;> try simp only [qa] at c
 ·refine sR (mB rfl (nS ?_))
  exact rR s rfl rfl rfl
 ·refine ba (aq (sR (mV rfl ?_)))
  obtain ⟨a7, a5, s⟩ := bn s
  have a3 := cm1 (x0 := x0) do7 (by omega)
  rw [a5] at a3
  refine cL a3 rfl rfl (ab rfl (ab rfl ay)) (mV rfl (ae (cy rfl (tk Tryz.underlying9)) (bN dn rfl rfl (mV rfl (nS ?_)))))
  exact rR s rfl rfl rfl

def RF171 (res : Bool) (r : PV) : Prop := r = vb res
theorem cf4 {x0 : aw} {c0 : aw} {v0 w0 : PV} (r0 : aw.t.R x0 v0) (a0 : aw.t.R c0 w0) : FnR Tryz.prog 171 [v0, .fp w0] (vb (fk x0 c0)) := by
 refine fnS (R := RF171) bk3 (fun _ h => h) rfl fun res s => ?_
 unfold fk at s
 refine sR (ae (cz rfl (TR.cnt aw.t r0)) (mB rfl (nR (fL rfl (aw.g_Name r0) rfl rfl (fL rfl (aw.g_Name a0) rfl rfl (ae (bp (a := vs x0.Name) (b := vs c0.Name) rfl rfl an1) (mV rfl (nS ?_))))))))
 exact rR s rfl rfl rfl

def RF225 (res : Int) (r : PV) : Prop := r = vi res
theorem ni {S : List Fr} {res : Int} {x0 : List aw} {x1 : aw → Bool} {v0 v1 : PV} (r0 : (tSl aw.t).R x0 v0) (r1 : (tFn Tryz.prog aw.t tB).R x1 v1) {K0 : Unit → Int}
  (a8 : K0 () = res → PX Tryz.prog 0 S (QR Tryz.prog [(4, none)] (RF225 res)) [] ⟨0, []⟩) :
  ∀ {m : Nat} {a0 : Int} (a7 : m = Int.toNat ((x0.length : Int) - a0)) (a3 : 0 ≤ a0), dk x0 x1 K0 m a0 = res → RC Tryz.prog (.loop bw8) S (QR Tryz.prog [(4, none)] (RF225 res)) [(8, vi a0), (7, vi (x0.length : Int)), (1, v1), (0, v0)] ⟨0, []⟩ := by
 intro m
 induction m with
 | zero =>
  intro a0 a7 a3 s
  rw [dk] at s
  refine de (sR (bN ct rfl rfl (nS (au ?_))))
  refine cw rfl ?_ ?_ <;> intro c <;> try simp only [qa] at c
  ·omega
  refine fc (gh (dy ?_))
  exact wP (a8  s) rfl
 | succ m ih =>
  intro a0 a7 a3 s
  rw [dk] at s
  refine de (sR (bN ct rfl rfl (nS (au ?_))))
  refine cw rfl ?_ ?_ <;> intro c <;> try simp only [qa] at c
  rotate_left
  ·omega
  refine ba (aq (au (cb (sR (mV rfl (mV rfl (nR (mV rfl ?_))))))))
  refine mV rfl (mV rfl ?_)
  obtain ⟨a5, a6, a2⟩ := cr (i := a0) r0 (by omega) (by omega)
  refine ae (bh rfl rfl a6) (lD a2 rfl rfl rfl ?_)
  refine bt1 rfl r1 rfl (show aw.t.R (ix x0 a0) a5 from a2) (fun a4 a1 => ?_)
  have a1 : a4 = vb (x1 (ix x0 a0)) := a1; subst a1
  refine nS ?_
  refine bt s rfl ?_ ?_ <;> clear s <;> intro c s <;> try simp only [qa] at c
  ·refine sR (mV rfl (mV rfl (nS ?_)))
   exact rR s rfl rfl rfl
  ·refine ba (dj (aq (bb (bN fy rfl rfl (mV rfl (cf (du ?_)))))))
   have hbd := fg r0
   have u : wr (a0 + 1) = a0 + 1 := ek (by omega) (by omega)
   erw [u]
   exact wC (ih   (by omega) (by omega) s) rfl

theorem ch4 {x0 : List aw} {x1 : aw → Bool} {v0 v1 : PV} (r0 : (tSl aw.t).R x0 v0) (r1 : (tFn Tryz.prog aw.t tB).R x1 v1) : FnR Tryz.prog 225 [v0, v1] (vi (gg x0 x1)) := by
 refine fnS (R := RF225) bc9 (fun _ h => h) rfl fun res s => ?_
 unfold gg at s
 refine sR (mI rfl (nS (au (sR (mV rfl (ae (cy rfl (co r0 Tryz.underlying23 _)) (mI rfl (nS ?_))))))))
 refine cb ?_
 refine wC (ni r0 r1 ?_  rfl (by omega) s) rfl
 ·intro  s
  refine gy (aq (sR (mI rfl (nS ?_))))
  exact rR s rfl rfl rfl

def RF170 (res : Bool) (r : PV) : Prop := r = vb res
theorem cy0 {x0 : List aw} {x1 : aw → Bool} {v0 v1 : PV} (r0 : (tSl aw.t).R x0 v0) (r1 : (tFn Tryz.prog aw.t tB).R x1 v1) : FnR Tryz.prog 170 [v0, v1] (vb (ft x0 x1)) := by
 refine fnS (R := RF170) bf9 (fun _ h => h) rfl fun res s => ?_
 unfold ft at s
 refine sR (mB rfl (nR (mV rfl (mV rfl ?_))))
 obtain ⟨a2, a1, s⟩ := bn s
 have a0 := ch4  r0 r1 
 rw [a1] at a0
 refine cL a0 rfl rfl (ab (TR.clo (tSl aw.t) r0) (ab (TR.clo (tFn Tryz.prog aw.t tB) r1) ay)) (bN ja rfl rfl (mV rfl (nS ?_)))
 exact rR s rfl rfl rfl

def RF103 (res : Int) (r : PV) : Prop := r = vi res
theorem ua {S : List Fr} {res : Int} {x0 : bz} {b6 : Bool} {v0 a4 : PV} (r0 : bz.t.R x0 v0) (d7 : jp x0.Name = b6) (b7 : (!b6) = false) (c1 : ((decide (4 < (x0.Params.length : Int))) || (decide (12 < (x0.Body.length : Int)))) = false) (c4 : (tSl aw.t).R x0.Params a4) {K1 : Unit → Int}
  (e0 : ∀ {h : Heap} (M0 : Mem h []), K1 () = res → PX Tryz.prog 1 S (QR Tryz.prog [(2, none)] (RF103 res)) [] h) :
  ∀ {m : Nat} {a0 : Int} (d6 : m = Int.toNat ((x0.Params.length : Int) - a0)) (b9 : 0 ≤ a0) {h : Heap} (M0 : Mem h []), gj x0 K1 m a0 = res → RC Tryz.prog (.loop cc2) S (QR Tryz.prog [(2, none)] (RF103 res)) [(24, vi a0), (23, vi (x0.Params.length : Int)), (22, a4), (1, .fp v0)] h := by
 have a9 := b7
 try simp only [qa] at a9
 have a7 := c1
 try simp only [qa] at a7
 intro m
 induction m with
 | zero =>
  intro a0 d6 b9 h M0 s
  rw [gj] at s
  refine de (sR (bN ct rfl rfl (nS (au ?_))))
  refine cw rfl ?_ ?_ <;> intro c <;> try simp only [qa] at c
  ·omega
  refine fc (gh (dy ?_))
  exact wP (e0 (Mem.sub M0 .slnil) s) rfl
 | succ m ih =>
  intro a0 d6 b9 h M0 s
  rw [gj] at s
  refine de (sR (bN ct rfl rfl (nS (au ?_))))
  refine cw rfl ?_ ?_ <;> intro c <;> try simp only [qa] at c
  rotate_left
  ·omega
  refine ba (aq (au (cb (sR (mV rfl ?_)))))
  obtain ⟨a1, d3, a3⟩ := cr (i := a0) c4 (by omega) (by omega)
  refine ae (bh rfl rfl d3) (lD a3 rfl rfl rfl ?_)
  refine di (x := .agg [vs [], vi 0]) M0 rfl rfl (fun c8 d4 d9 d2 => ?_)
  refine mV rfl ?_
  refine ci (k := 0) (v := a1) d2 rfl rfl rfl (TR.cnt aw.t a3) (fun d0 a6 => ?_)
  replace a6 : Mem d0 [⟨.op c8 d4 0, 166, 2, [a1]⟩] := a6
  refine nS (cb (au (gc (db (ae (bv rfl) (da (db (ae (cq (k := 0) a6 rfl rfl (aw.g_Name a3)) ?_))))))))
  refine da (db ?_)
  obtain ⟨a2, b8, s⟩ := bn s
  have c5 := bl2 (x0 := (ix x0.Params a0).Name)  
  rw [b8] at c5
  refine cL c5 rfl rfl (ab rfl ay) (da (db (ae (gv rfl) (da (db (mV rfl (da ?_)))))))
  refine ag3 (k := 0) (E' := [(29, vb (!a2)), (33, vb (!a2)), (32, vb a2), (31, vs ((ix x0.Params a0).Name)), (3, vi a0), (4, .fp a1), (28, a1), (27, .fp a1), (26, vi a0), (25, vb (decide (a0 < (x0.Params.length : Int)))), (24, vi a0), (23, vi (x0.Params.length : Int)), (22, a4), (1, .fp v0)]) a6 rfl (df rfl (df rfl (df rfl (df rfl (df rfl (wj rfl (df rfl (df rfl (df rfl (df rfl (df rfl (df rfl (df rfl (df rfl ad9)))))))))))))) (fun b2 a8 => ?_)
  replace a8 : Mem b2 [] := a8
  refine mc (aq ?_)
  refine bt s rfl ?_ ?_ <;> clear s <;> intro c s <;> try simp only [qa] at c
  ·refine sR (mI rfl (nS ?_))
   exact rR s rfl rfl rfl
  ·refine sR (fL rfl (aw.g_Width a3) rfl rfl (bN ct rfl rfl (mV rfl ?_)))
   refine bw 4 (d := 42) (v := vb ((decide (((ix x0.Params a0).Width) < 1)) || (decide (32 < ((ix x0.Params a0).Width))))) ?_ ?_
   ·intro S Q r
    cases b5 : (decide (((ix x0.Params a0).Width) < 1))
    ·intro k
     have b0 := b5
     try simp only [qa] at b0
     refine ah rfl rfl (br rfl (aw.g_Width a3)) (ah rfl rfl (bq rfl rfl rfl) (ah rfl rfl (bp rfl rfl ki) ?_))
     exact gK rfl rfl rfl rfl rfl k
    ·exact gN 3 rfl rfl rfl rfl rfl rfl
   refine mV rfl (nS ?_)
   refine bt s rfl ?_ ?_ <;> clear s <;> intro c s <;> try simp only [qa] at c
   ·refine sR (mI rfl (nS ?_))
    exact rR s rfl rfl rfl
   ·refine sR (gL (bz.g_Params r0) rfl rfl rfl fun a5 d1 => (mV rfl (an4 (E0 := [(46, vi a0), (45, a5), (44, .fp a5), (34, vb ((decide (((ix x0.Params a0).Width) < 1)) || (decide (32 < ((ix x0.Params a0).Width))))), (42, vb ((decide (((ix x0.Params a0).Width) < 1)) || (decide (32 < ((ix x0.Params a0).Width))))), (38, vb (decide (((ix x0.Params a0).Width) < 1))), (37, vb (decide (((ix x0.Params a0).Width) < 1))), (36, vi ((ix x0.Params a0).Width)), (35, .fp (vi ((ix x0.Params a0).Width))), (29, vb (!a2)), (33, vb (!a2)), (32, vb a2), (31, vs ((ix x0.Params a0).Name)), (3, vi a0), (4, .fp a1), (28, a1), (27, .fp a1), (26, vi a0), (25, vb (decide (a0 < (x0.Params.length : Int)))), (24, vi a0), (23, vi (x0.Params.length : Int)), (22, a4), (1, .fp v0)]) (sB rfl) ?_)))
    obtain ⟨c7, c9, b3⟩ := dm0 (P := Tryz.prog) (hf := false) (E := [(46, vi a0), (45, a5), (44, .fp a5), (34, vb ((decide (((ix x0.Params a0).Width) < 1)) || (decide (32 < ((ix x0.Params a0).Width))))), (42, vb ((decide (((ix x0.Params a0).Width) < 1)) || (decide (32 < ((ix x0.Params a0).Width))))), (38, vb (decide (((ix x0.Params a0).Width) < 1))), (37, vb (decide (((ix x0.Params a0).Width) < 1))), (36, vi ((ix x0.Params a0).Width)), (35, .fp (vi ((ix x0.Params a0).Width))), (29, vb (!a2)), (33, vb (!a2)), (32, vb a2), (31, vs ((ix x0.Params a0).Name)), (3, vi a0), (4, .fp a1), (28, a1), (27, .fp a1), (26, vi a0), (25, vb (decide (a0 < (x0.Params.length : Int)))), (24, vi a0), (23, vi (x0.Params.length : Int)), (22, a4), (1, .fp v0)]) (h := b2) (t := aw.t) (tt := 23) (x := (.tmp 45)) (lo := none) (hi := (some (.tmp 46))) (a := 0) (b := a0) d1 rfl rfl rfl (show 0 ≤ 0 by omega) (show 0 ≤ a0 by omega) (show a0 ≤ (x0.Params.length : Int) by omega) (fun ad => by kernel_rfl)
    have d5 := be4 (l := x0.Params) (show 0 ≤ 0 by omega) (show 0 ≤ a0 by omega) (show a0 ≤ (x0.Params.length : Int) by omega)
    refine ae (v := c7) (c9) ?_
    have c6 : (tFn Tryz.prog aw.t tB).R (fun a_ => fk a_ (ix x0.Params a0)) (.fn (.func 171) [] [.fp a1]) := ck1 (ab (di9 (TR.clo aw.t a3)) ay) fun a va ra => by exact ⟨_, cf4  ra a3 , rfl⟩
    refine ae (v := .fn (.func 171) [] [.fp a1]) (bq6 rfl rfl) ?_
    obtain ⟨d8, b4, s⟩ := bn s
    have b1 := cy0  b3 c6 
    rw [b4] at b1
    refine cL b1 rfl rfl (ab (TR.clo (tSl aw.t) b3) (ab (TR.clo (tFn Tryz.prog aw.t tB) c6) ay)) (mV rfl (nS ?_))
    refine bt s rfl ?_ ?_ <;> clear s <;> intro c s <;> try simp only [qa] at c
    ·refine sR (mI rfl (nS ?_))
     exact rR s rfl rfl rfl
    ·refine ba (dj (dj (aq (bb (bN fy rfl rfl (mV rfl (cf (du ?_))))))))
     have hbd := fg c4
     have u : wr (a0 + 1) = a0 + 1 := ek (by omega) (by omega)
     erw [u]
     exact wC (ih   (by omega) (by omega) (Mem.sub a8 .slnil) s) rfl

theorem cw9 {x0 : bz} {v0 : PV} (r0 : bz.t.R x0 v0) : FnR Tryz.prog 103 [v0] (vi (ly x0)) := by
 refine fnS (R := RF103) bm2 (fun _ h => h) rfl fun res s => ?_
 unfold ly at s
 refine sR (ae (cz rfl (TR.cnt bz.t r0)) (mI rfl (nS (au (cb (sR (fL rfl (bz.g_Name r0) rfl rfl ?_)))))))
 obtain ⟨b6, a0, s⟩ := bn s
 have a9 := bl2 (x0 := x0.Name)  
 rw [a0] at a9
 refine cL a9 rfl rfl (ab rfl ay) (ae (gv rfl) (mV rfl (nS ?_)))
 refine bt s rfl ?_ ?_ <;> clear s <;> intro a1 s <;> have a6 := a1 <;> try simp only [qa] at a6
 ·refine sR (mI rfl (nS ?_))
  exact rR s rfl rfl rfl
 ·refine sR (gL (bz.g_Params r0) rfl rfl rfl fun b5 b0 => (ae (cy rfl (co b0 Tryz.underlying23 _)) (bN ki rfl rfl (mV rfl ?_))))
  refine bw 5 (d := 20) (v := vb ((decide (4 < (x0.Params.length : Int))) || (decide (12 < (x0.Body.length : Int))))) ?_ ?_
  ·intro S Q r
   cases a7 : (decide (4 < (x0.Params.length : Int)))
   ·intro k
    have a4 := a7
    try simp only [qa] at a4
    obtain ⟨b2, b1, a5⟩ := bz.g_Body r0
    refine ah rfl rfl (br rfl b1) (ah rfl rfl (bq rfl (TR.cnt (tSl av.t) a5) (TR.agg (tSl av.t) a5)) (ah rfl rfl (cy rfl (co a5 Tryz.underlying95 _)) (ah rfl rfl (bp rfl rfl ki) ?_)))
    exact gK rfl rfl rfl rfl rfl k
   ·exact gN 4 rfl rfl rfl rfl rfl rfl
  refine mV rfl (nS ?_)
  refine bt s rfl ?_ ?_ <;> clear s <;> intro a2 s <;> have a3 := a2 <;> try simp only [qa] at a3
  ·refine sR (mI rfl (nS ?_))
   exact rR s rfl rfl rfl
  ·refine ba (dj (aq (au (sR (gL (bz.g_Params r0) rfl rfl rfl fun b4 a8 => (ae (cy rfl (co a8 Tryz.underlying23 _)) (mI rfl (nS ?_))))))))
   refine cb ?_
   refine wC (ua r0 a0 a1 a2 a8 ?_  rfl (by omega) (Mem.sub (Mem.nil ⟨0, []⟩) .slnil) s) rfl
   ·intro b7 b3 s
    refine gy (aq (sR (mI rfl (nS ?_))))
    exact rR s rfl rfl rfl

end Go.Proofs.YtmonnlkagniolaaGreat
