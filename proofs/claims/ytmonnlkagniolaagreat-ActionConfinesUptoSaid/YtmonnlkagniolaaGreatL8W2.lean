/-
 The code of each function does what its plain program says.
-/
import Derived.Test.YtmonnlkagniolaaGreatL8W1
set_option linter.unusedVariables false
set_option linter.unusedSimpArgs false
set_option maxRecDepth 100000
namespace Go.Proofs.YtmonnlkagniolaaGreat
open Go Go.Pb Go.RowKit
def RF182 (res : (BitVec 32)) (r : PV) : Prop := r = bh res
theorem ky {x0 : Int} : FnR Tryz.prog 182 [vi x0] (bh (ck x0)) := by
 refine fnS (R := RF182) bm5 (fun _ h => h) rfl fun res s => ?_
 unfold ck at s
 refine sR (ae (v := bh 0#32) (av rfl) (nS (am (sR (mV rfl (ae (v := .fs true [vi x0]) (kt rfl (all_cons rfl nn)) ?_))))))
 have a2 : (tSl tI).R ([x0] : List Int) (.fs true [vi x0]) := vj ⟨rfl, trivial⟩ (by simp)
 obtain ⟨a3, a1, s⟩ := bt s
 have a0 := ad7  a2 
 rw [a1] at a0
 refine cL a0 rfl rfl (ai (TR.clo (tSl tI) a2) bf) (ae (ju rfl) (nS ?_))
 refine cg s rfl ?_ ?_ <;> clear s <;> intro c s <;> try simp only [qa] at c
 ·refine sR (ae (v := bh 0#32) (av rfl) (nS ?_))
  exact rR s rfl rfl rfl
 ·refine az (aq (sR (mV rfl (bN ah5 rfl rfl (ae (bq (a := bh 4294967295#32) (b := vi (wr (32 - x0))) rfl rfl (bz1 (by first | omega | exact yr (by assumption) (by assumption)))) (mV rfl (nS ?_)))))))
  exact rR s rfl rfl rfl

def RF136 (res : Int) (r : PV) : Prop := r = vi res
theorem ct5 {x0 : ab} {x1 : aa} {v0 v1 : PV} (r0 : ab.t.R x0 v0) (r1 : aa.t.R x1 v1) : FnR Tryz.prog 136 [v0, v1] (vi (ks x0 x1)) := by
 refine fnS (R := RF136) bf6 (fun _ h => h) rfl fun res s => ?_
 unfold ks at s
 refine sR (ae (dm rfl (TR.cnt ab.t r0)) (ae (dm rfl (TR.cnt aa.t r1)) (mI rfl (nR (lD r0 rfl rfl rfl (fL rfl (aa.g_Header r1) rfl rfl ?_))))))
 obtain ⟨b1, a2, s⟩ := bt s
 obtain ⟨b2, a9, a0⟩ := cj3 (x1 := x1.Header) r0 
 rw [a2] at a0
 refine cL a9 rfl rfl (ai (TR.clo ab.t r0) (ai rfl bf)) (fL rfl (aa.g_Field r1) rfl rfl ?_)
 obtain ⟨a7, a4, s⟩ := bt s
 obtain ⟨b0, a6, a5⟩ := ce8 (x1 := x1.Field) a0 
 rw [a4] at a5
 refine cL a6 rfl rfl (ai (TR.clo (tSl ax.t) a0) (ai rfl bf)) (ae (ag7 rfl (ax.g_Width a5)) (mV rfl (nS (am (sR (mV rfl ?_))))))
 obtain ⟨a8, a3, s⟩ := bt s
 have a1 := ky (x0 := a7.Width)  
 rw [a3] at a1
 refine cL a1 rfl rfl (ai rfl bf) (ae (bq (a := bh a8) (b := bh 0#32) rfl rfl ca5) (nS ?_))
 refine cg s rfl ?_ ?_ <;> clear s <;> intro c s <;> try simp only [qa] at c
 ·refine sR (mI rfl (nS ?_))
  exact rR s rfl rfl rfl
 ·refine az (aq (sR (mV rfl (mV rfl (nS ?_)))))
  exact rR s rfl rfl rfl

def RF270 (res : Bool) (r : PV) : Prop := r = vb res
theorem ae5 {x0 : List (BitVec 32)} {x1 : Int} {v0 : PV} (r0 : (tSl dn).R x0 v0) : FnR Tryz.prog 270 [v0, vi x1] (vb (ik x0 x1)) := by
 refine fnS (R := RF270) bh4 (fun _ h => h) rfl fun res s => ?_
 unfold ik at s
 refine sR (mB rfl (nR (mV rfl (bN mo rfl rfl (mV rfl ?_)))))
 refine cq 5 (d := 12) (v := vb ((decide (0 ≤ x1)) && (decide (x1 < (x0.length : Int))))) ?_ ?_
 ·intro S Q r
  cases a1 : (decide (0 ≤ x1))
  ·exact gN 4 rfl rfl rfl rfl rfl rfl
  ·intro k
   have a0 := a1
   try simp only [qa] at a0
   refine ah rfl rfl (av rfl) (ah rfl rfl (av rfl) (ah rfl rfl (cv rfl (ci r0 Tryz.underlying43 _)) (ah rfl rfl (bq rfl rfl cw) ?_)))
   exact gK rfl rfl rfl rfl rfl k
 refine mV rfl (nS ?_)
 exact rR s rfl rfl rfl

def RF271 (res : (List (BitVec 32))) (r : PV) : Prop := (tSl dn).R res r
theorem cm3 {x0 : List (List (BitVec 32))} {x1 : Int} {v0 : PV} (r0 : (tSl (tSl dn)).R x0 v0) : ∃ r, FnR Tryz.prog 271 [v0, vi x1] r ∧ (tSl dn).R (ja x0 x1) r := by
 refine fnT (R := RF271) aq9 rfl fun res s => ?_
 unfold ja at s
 refine sR (ae (v := nilS) (av rfl) (nR (ae (v := nilS) (av rfl) (nS (am (sR (mV rfl (bN cw rfl rfl ?_))))))))
 refine mV rfl ?_
 refine cq 5 (d := 13) (v := vb ((decide (x1 < 0)) || (decide ((x0.length : Int) ≤ x1)))) ?_ ?_
 ·intro S Q r
  cases a2 : (decide (x1 < 0))
  ·intro k
   have a1 := a2
   try simp only [qa] at a1
   refine ah rfl rfl (av rfl) (ah rfl rfl (av rfl) (ah rfl rfl (cv rfl (ci r0 Tryz.underlying42 _)) (ah rfl rfl (bq rfl rfl mo) ?_)))
   exact gK rfl rfl rfl rfl rfl k
  ·exact gN 4 rfl rfl rfl rfl rfl rfl
 refine nS ?_
 refine cg s rfl ?_ ?_ <;> clear s <;> intro c s <;> try simp only [qa] at c
 ·refine sR (mV rfl (mV rfl (nS ?_)))
  exact rR s rfl (TR.clo (tSl dn) rm) rm
 ·refine az (aq (sR (mV rfl (mV rfl ?_))))
  obtain ⟨a4, a3, a0⟩ := dq (i := x1) r0 (by omega) (by omega)
  refine ae (bg rfl rfl a3) (lD a0 rfl rfl rfl (mV rfl (nS ?_)))
  exact rR s rfl (TR.clo (tSl dn) a0) a0

def RF272 (res : Bool) (r : PV) : Prop := r = vb res
theorem bg3 {x0 : List Bool} {x1 : Int} {v0 : PV} (r0 : (tSl tB).R x0 v0) : FnR Tryz.prog 272 [v0, vi x1] (vb (ot x0 x1)) := by
 refine fnS (R := RF272) bf4 (fun _ h => h) rfl fun res s => ?_
 unfold ot at s
 refine sR (mB rfl (nR (mB rfl (nS (am (sR (mV rfl (bN cw rfl rfl ?_))))))))
 refine mV rfl ?_
 refine cq 5 (d := 13) (v := vb ((decide (x1 < 0)) || (decide ((x0.length : Int) ≤ x1)))) ?_ ?_
 ·intro S Q r
  cases a1 : (decide (x1 < 0))
  ·intro k
   have a0 := a1
   try simp only [qa] at a0
   refine ah rfl rfl (av rfl) (ah rfl rfl (av rfl) (ah rfl rfl (cv rfl (ci r0 Tryz.underlying41 _)) (ah rfl rfl (bq rfl rfl mo) ?_)))
   exact gK rfl rfl rfl rfl rfl k
  ·exact gN 4 rfl rfl rfl rfl rfl rfl
 refine nS ?_
 refine cg s rfl ?_ ?_ <;> clear s <;> intro c s <;> try simp only [qa] at c
 ·refine sR (mV rfl (mV rfl (nS ?_)))
  exact rR s rfl rfl rfl
 ·refine az (aq (sR (mV rfl (mV rfl (ae (bg rfl rfl (slB r0 (by omega) (by omega))) (lR rfl rfl rfl (mV rfl (nS ?_))))))))
  exact rR s rfl rfl rfl

def RF227 (res : (List (BitVec 32)) × Bool) (r : PV) : Prop := ∃ c0, r = .tup [c0, vb res.2] ∧ (tSl dn).R res.1 c0
theorem cq2 {x0 : au} {x1 : aa} {v0 v1 : PV} (r0 : au.t.R x0 v0) (r1 : aa.t.R x1 v1) : ∃ c0, FnR Tryz.prog 227 [v0, v1] (.tup [c0, vb ((gi x0 x1).2)]) ∧ (tSl dn).R (gi x0 x1).1 c0 := by
 obtain ⟨res, s⟩ : ∃ res, gi x0 x1 = res := ⟨_, rfl⟩
 suffices H : RC Tryz.prog cw5 [] (QR Tryz.prog [(4, none), (5, none)] (RF227 res)) (argE 0 [v0, v1]) ⟨0, []⟩ by
  rw [s]
  obtain ⟨r, h1, c0, rfl, c1⟩ := fnE aq1 (by simp) H
  exact ⟨c0, h1, c1⟩
 unfold gi at s
 refine sR (ae (dm rfl (TR.cnt au.t r0)) (ae (dm rfl (TR.cnt aa.t r1)) (ae (v := nilS) (av rfl) (mB rfl (nS (am (sR (lD r1 rfl rfl rfl ?_))))))))
 refine fL rfl (aa.g_Field r1) rfl rfl (ae (v := .agg [vi (-1), vi x1.Field]) (fk (cs := [vi (-1), vi x1.Field]) rfl rfl) (bN (aa.eql_87 r1 (show aa.t.R ({ Header := (-1), Field := x1.Field } : aa) (.agg [vi (-1), vi x1.Field]) from rfl)) rfl rfl (nS ?_)))
 refine cg s rfl ?_ ?_ <;> clear s <;> intro c s <;> try simp only [qa] at c
 ·refine sR (gL (au.g_Meta r0) rfl rfl rfl fun b7 a9 => (gL (au.g_Meta r0) rfl rfl rfl fun c2 a2 => (fL rfl (aa.g_Field r1) rfl rfl ?_)))
  obtain ⟨b8, a5, s⟩ := bt s
  have a4 := ae5 (x1 := x1.Field) a2 
  rw [a5] at a4
  refine cL a4 rfl rfl (ai (TR.clo (tSl dn) a2) (ai rfl bf)) (mV rfl (mV rfl (nS ?_)))
  subst s
  exact fu (.tmp rfl (.tmp rfl .nil)) (cp (show closed (.tup _) = true from (ai (TR.clo (tSl dn) a9) (ai rfl bf)))) ⟨b7, rfl, a9⟩
 ·refine az (aq (sR (gL (au.g_Fields r0) rfl rfl rfl fun b9 a6 => (fL rfl (aa.g_Header r1) rfl rfl ?_))))
  obtain ⟨b6, a7, s⟩ := bt s
  obtain ⟨b5, b3, a0⟩ := cm3 (x1 := x1.Header) a6 
  rw [a7] at a0
  refine cL b3 rfl rfl (ai (TR.clo (tSl (tSl dn)) a6) (ai rfl bf)) (mV rfl (nR (mV rfl (gL (au.g_Valid r0) rfl rfl rfl fun c3 b0 => (fL rfl (aa.g_Header r1) rfl rfl ?_)))))
  obtain ⟨b1, a8, s⟩ := bt s
  have b2 := bg3 (x1 := x1.Header) b0 
  rw [a8] at b2
  refine cL b2 rfl rfl (ai (TR.clo (tSl tB) b0) (ai rfl bf)) (mV rfl ?_)
  refine cq 5 (d := 35) (v := vb (b1 && (ik b6 x1.Field))) ?_ ?_
  ·intro S Q r
   cases a3 : b1
   ·exact gN 4 rfl rfl rfl rfl rfl rfl
   ·intro k
    have a1 := a3
    try simp only [qa] at a1
    refine ah rfl rfl (av rfl) (ah rfl rfl (bw rfl (aa.g_Field r1)) (ah rfl rfl (bv rfl rfl rfl) ?_))
    have b4 := ae5 (x1 := x1.Field) a0 
    refine ld rfl rfl (ru rfl rfl (ai (TR.clo (tSl dn) a0) (ai rfl bf)) b4) ?_
    exact gK rfl rfl rfl rfl rfl k
  refine mV rfl (mV rfl (nS ?_))
  subst s
  exact fu (.tmp rfl (.tmp rfl .nil)) (cp (show closed (.tup _) = true from (ai (TR.clo (tSl dn) a0) (ai rfl bf)))) ⟨b5, rfl, a0⟩

section
variable {h : Heap} {e : au} {a b c d : PV} {eb ef em ep : List PV} {I R : List Ent}
theorem cy2 {L : List Ent} {k : Nat} (M : Mem h L) (hk : L[k]? = some ⟨b, 43, 1, ef⟩) (nb : isL b = true) (wb : Wri b ef) (ha : ∀ x ∈ ef, x.isAgg = false) {i : Int} :
  FnX Tryz.prog 271 [b, vi i] h (if 0 ≤ i ∧ i < (ef.length : Int) then ef.getD i.toNat nilS else nilS) h := by
 obtain ⟨r, h', X, rfl, rfl⟩ := fnX (P := Tryz.prog) (h := h) aq9 (args := [b, vi i]) (Φ := fun r k => r = (if 0 ≤ i ∧ i < (ef.length : Int) then ef.getD i.toNat nilS else nilS) ∧ k = h) (by simp) (by
  refine sR (ae (v := nilS) (av rfl) (nR (ae (v := nilS) (av rfl) (nS ?_))))
  refine am (sR (mV rfl (bN cw rfl rfl (mV rfl ?_))))
  refine cq 5 (d := 13) (v := vb ((decide (i < 0)) || (decide ((ef.length : Int) ≤ i)))) ?_ ?_
  ·intro S Q r
   cases a0 : (decide (i < 0))
   ·intro k
    refine ah rfl rfl (av rfl) (ah rfl rfl (av rfl) (ah rfl rfl (cv rfl (bi6 (M.at hk) Tryz.underlying42 nb _)) (ah rfl rfl (bq rfl rfl mo) ?_)))
    exact gK rfl rfl rfl rfl rfl k
   ·exact gN 4 rfl rfl rfl rfl rfl rfl
  refine nS (cd rfl (fun hc => ?_) fun hc => ?_)
  ·simp only [Bool.or_eq_true, decide_eq_true_eq] at hc
   refine sR (mV rfl (mV rfl (nS ?_)))
   exact iy (.tmp rfl .nil) ⟨by rw [if_neg (by omega)]; rfl, rfl⟩
  ·simp only [Bool.or_eq_false_iff, decide_eq_false_iff_not] at hc
   refine az (aq (sR (mV rfl (mV rfl ?_))))
   have hlt : i.toNat < ef.length := by omega
   rcases wb with rfl | ⟨id, ver, n, rfl⟩
   ·simp at hlt
   have hn := qn M hk
   refine ae (bg rfl rfl (qe 1 (i := i) (by omega) (by omega))) ?_
   refine ae (oc M rfl hk (List.getElem?_eq_getElem hlt) (ha _ (List.getElem_mem hlt))) (mV rfl (nS ?_))
   exact iy (.tmp rfl .nil) ⟨by rw [if_pos (by omega), List.getD_eq_getElem?_getD, List.getElem?_eq_getElem hlt]; rfl, rfl⟩)
 exact X
theorem OE.aggs (H : OE h e a b c d eb ef em ep I R) : ∀ x ∈ ef, x.isAgg = false := by
 intro x hx
 obtain ⟨k, hk, rfl⟩ := List.getElem_of_mem hx
 have hl := H.f.len.1
 obtain ⟨v, es, g1, g2, g3, g4, g5, g6, g7⟩ := H.inner (i := (k : Int)) (by omega) (by omega)
 rw [Int.toNat_natCast, List.getElem?_eq_getElem hk, Option.some.injEq] at g1
 rw [g1]
 exact (ft H.M g3 g5).2
theorem OE.elv_ok (H : OE h e a b c d eb ef em ep I R) (r : aa) (hr : ¬r.Header = -1) : ∃ d', Deep Tryz.prog h (elv c ef r) d' ∧ (tSl dn).R (ja e.Fields r.Header) d' := by
 unfold elv ja
 rw [if_neg hr]
 have hl := H.f.len.1
 by_cases hi : 0 ≤ r.Header ∧ r.Header < (ef.length : Int)
 ·rw [if_pos hi, if_neg (by simp; omega)]
  obtain ⟨v, es, g1, g2, g3, g4, g5, g6, g7⟩ := H.inner (i := r.Header) hi.1 (by omega)
  rw [List.getD_eq_getElem?_getD, g1]
  exact qj (t := dn) H.M g3 g5 g4 (by omega)
 ·rw [if_neg hi, if_pos (by simp; omega)]
  exact ⟨nilS, cp rfl, rm⟩
theorem dn9 (H : OE h e a b c d eb ef em ep I R) (hE : EB e) {x1 : aa} {v1 : PV} (r1 : aa.t.R x1 v1) :
  FnX Tryz.prog 227 [.agg [a, b, c, d], v1] h (.tup [elv c ef x1, vb (gi e x1).2]) h := by
 obtain ⟨r, h', X, rfl, rfl⟩ := fnX (P := Tryz.prog) (h := h) aq1 (args := [.agg [a, b, c, d], v1]) (Φ := fun r k => r = .tup [elv c ef x1, vb (gi e x1).2] ∧ k = h) (by simp) (by
  refine sR (ae (dm rfl rfl) (ae (dm rfl (TR.cnt aa.t r1)) (ae (v := nilS) (av rfl) (mB rfl (nS ?_)))))
  refine am (sR (lD r1 rfl rfl rfl (fL rfl (aa.g_Field r1) rfl rfl ?_)))
  refine ae (v := .agg [vi (-1), vi x1.Field]) (fk (cs := [vi (-1), vi x1.Field]) rfl rfl) (bN (aa.eql_87 r1 (show aa.t.R ({ Header := (-1), Field := x1.Field } : aa) (.agg [vi (-1), vi x1.Field]) from rfl)) rfl rfl ?_)
  have ec : (x1 = ({ Header := -1, Field := x1.Field } : aa)) ↔ x1.Header = -1 := by
   cases x1; simp [aa.mk.injEq]
  obtain ⟨d0, a3, s0⟩ := qj (P := Tryz.prog) (t := tB) H.M (k := 0) rfl H.na H.v (by have := hE.v; omega)
  obtain ⟨d2, a2, s2⟩ := qj (P := Tryz.prog) (t := dn) H.M (k := 2) rfl H.nc H.m (by have := hE.m; omega)
  have g2 : fieldR 2 1 false (.agg [a, b, c, d]) = some c := mk1 (ft H.M (k := 2) rfl H.nc).2
  have g1 : fieldR 1 1 false (.agg [a, b, c, d]) = some b := mk1 (ft H.M (k := 1) rfl H.nb).2
  have g0 : fieldR 0 1 false (.agg [a, b, c, d]) = some a := mk1 (ft H.M (k := 0) rfl H.na).2
  refine nS (cd rfl (fun hc => ?_) fun hc => ?_)
  ·simp only [decide_eq_true_eq, ec] at hc
   refine sR (fA rfl g2 (lR rfl (nu H.M (k := 2) rfl H.nc) (ft H.M (k := 2) rfl H.nc).2 (fA rfl g2 (lR rfl (nu H.M (k := 2) rfl H.nc) (ft H.M (k := 2) rfl H.nc).2 (fL rfl (aa.g_Field r1) rfl rfl ?_)))))
   refine st (sm rfl rfl (lz a2 (lz (cp rfl) ua)) (ae5 (x1 := x1.Field) s2) rfl) (mV rfl (mV rfl (nS ?_)))
   refine iy (.tmp rfl (.tmp rfl .nil)) ⟨?_, rfl⟩
   have e2 : (gi e x1).2 = ik e.Metd x1.Field := by
    unfold gi
    simp only [LET]
    rw [if_pos (by simp only [decide_eq_true_eq, ec]; exact hc)]
   rw [e2]
   unfold elv
   rw [if_pos hc]
   rfl
  ·simp only [decide_eq_false_iff_not, ec] at hc
   obtain ⟨d1, a1, s1⟩ := H.elv_ok x1 hc
   have e1 : (if 0 ≤ x1.Header ∧ x1.Header < (ef.length : Int) then ef.getD x1.Header.toNat nilS else nilS) = elv c ef x1 := by unfold elv; rw [if_neg hc]
   have f1 := cy2 H.M (k := 1) rfl H.nb H.wb H.aggs (i := x1.Header)
   rw [e1] at f1
   refine az (aq (am (fq ?_)))
   refine cb (ae (bw rfl g1) (ca (cb (ae (bv rfl (nu H.M (k := 1) rfl H.nb) (ft H.M (k := 1) rfl H.nb).2) (ca ?_)))))
   refine cb (ae (bw rfl (aa.g_Header r1)) (ca (cb (ae (bv rfl rfl rfl) (ca ?_)))))
   refine im rfl rfl f1 ?_
   refine cb (ae (av rfl) (ca (kj ?_)))
   refine aq (sR (ae (av rfl) ?_))
   refine ae (bw rfl g0) (ae (bv rfl (nu H.M (k := 0) rfl H.na) (ft H.M (k := 0) rfl H.na).2) (fL rfl (aa.g_Header r1) rfl rfl ?_))
   refine st (sm rfl rfl (lz a3 (lz (cp rfl) ua)) (bg3 (x1 := x1.Header) s0) rfl) (mV rfl ?_)
   refine cq 5 (d := 35) (v := vb ((ot e.Valid x1.Header) && (ik (ja e.Fields x1.Header) x1.Field))) ?_ ?_
   ·intro S Q r
    cases a0 : (ot e.Valid x1.Header)
    ·exact gN 4 rfl rfl rfl rfl rfl rfl
    ·intro k
     refine ah rfl rfl (av rfl) (ah rfl rfl (bw rfl (aa.g_Field r1)) (ah rfl rfl (bv rfl rfl rfl) (ld rfl rfl (sm rfl rfl (lz a1 (lz (cp rfl) ua)) (ae5 (x1 := x1.Field) s1) rfl) ?_)))
     exact gK rfl rfl rfl rfl rfl k
   refine mV rfl (mV rfl (nS ?_))
   refine iy (.tmp rfl (.tmp rfl .nil)) ⟨?_, rfl⟩
   have e2 : (gi e x1).2 = ((ot e.Valid x1.Header) && (ik (ja e.Fields x1.Header) x1.Field)) := by
    unfold gi
    simp only [LET]
    rw [if_neg (by simp only [decide_eq_true_eq, ec]; exact hc)]
   rw [e2]
   rfl)
 exact X
end
theorem wm {S : List Fr} {E : TEnv} {h : Heap} {e : au} {a b c d : PV} {eb ef em ep : List PV} {I R : List Ent} {i8 w8 i9 w9 dl t8 t9 : Nat} {x : PV} (H : OE h e a b c d eb ef em ep I (⟨.op i9 w9 0, 46, 4, [.agg [a, b, c, d]]⟩ :: ⟨.op i8 w8 0, 46, 4, [x]⟩ :: R)) (hE : EB e)
  (h9 : Pb.look t9 E = some (.op i9 w9 0)) (h8 : Pb.look t8 E = some (.op i8 w8 0)) (hd : Nat.beq t8 dl = false) : RC Tryz.prog (.seq (.region false [⟨some dl, .load 4 true (.tmp t9), none, false⟩, ⟨none, .store 4 (.tmp t8) (.tmp dl), none, false⟩]) .ret) S (QR Tryz.prog [(t8, some (4, true))] (au.t.R e)) E h := by
 have e8 : evE ((dl, .agg [a, b, c, d]) :: E) (.tmp t8) = some (.op i8 w8 0) := by
  have : Nat.beq t8 dl = false := hd
  simp only [evE, Pb.look, this, cond_false]; exact h8
 have a0 : Pb.look t8 ((dl, .agg [a, b, c, d]) :: E) = some (.op i8 w8 0) := e8
 have ed : evE ((dl, .agg [a, b, c, d]) :: E) (.tmp dl) = some (.agg [a, b, c, d]) := by simp [evE, Pb.look]
 refine sR (ae (ir (k := 0) H.pull h9 rfl rfl) ?_)
 have M := H.pull
 have hk : (⟨a, 4, 1, eb⟩ :: ⟨b, 43, 1, ef⟩ :: ⟨c, 89, 1, em⟩ :: ⟨d, 5, 1, ep⟩ :: (I ++ (⟨.op i9 w9 0, 46, 4, [.agg [a, b, c, d]]⟩ :: ⟨.op i8 w8 0, 46, 4, [x]⟩ :: R)))[I.length + 5]? = some (⟨.op i8 w8 0, 46, 4, [x]⟩ : Ent) := by
  simp only [List.getElem?_cons_succ]
  rw [List.getElem?_append_right (by omega), show I.length + 1 - I.length = 1 by omega]; rfl
 refine ct (k := I.length + 5) (v := .agg [a, b, c, d]) H.M e8 ed hk rfl (fun h' M' => nS ?_)
 have hset : (I ++ (⟨.op i9 w9 0, 46, 4, [.agg [a, b, c, d]]⟩ :: ⟨.op i8 w8 0, 46, 4, [x]⟩ :: R)).set (I.length + 1) ⟨.op i8 w8 0, 46, 4, [.agg [a, b, c, d]]⟩ = I ++ (⟨.op i9 w9 0, 46, 4, [.agg [a, b, c, d]]⟩ :: ⟨.op i8 w8 0, 46, 4, [.agg [a, b, c, d]]⟩ :: R) := by
  rw [List.set_append_right _ _ (by omega), show I.length + 1 - I.length = 1 by omega]; rfl
 have H' : OE h' e a b c d eb ef em ep I (⟨.op i9 w9 0, 46, 4, [.agg [a, b, c, d]]⟩ :: ⟨.op i8 w8 0, 46, 4, [.agg [a, b, c, d]]⟩ :: R) := H.mem (by
  simp only [List.set_cons_succ] at M'
  rwa [hset] at M')
 obtain ⟨d', hd', hr⟩ := H'.deep hE
 have hk' : (⟨a, 4, 1, eb⟩ :: ⟨b, 43, 1, ef⟩ :: ⟨c, 89, 1, em⟩ :: ⟨d, 5, 1, ep⟩ :: (I ++ (⟨.op i9 w9 0, 46, 4, [.agg [a, b, c, d]]⟩ :: ⟨.op i8 w8 0, 46, 4, [.agg [a, b, c, d]]⟩ :: R)))[I.length + 5]? = some (⟨.op i8 w8 0, 46, 4, [.agg [a, b, c, d]]⟩ : Ent) := by
  simp only [List.getElem?_cons_succ]
  rw [List.getElem?_append_right (by omega), show I.length + 1 - I.length = 1 by omega]; rfl
 exact fu (.cell a0 (dg (k := I.length + 5) H'.M hk' rfl) .nil) hd' hr
theorem bu7 {l : List (BitVec 32)} {i : Int} (h : ik l i = true) : 0 ≤ i ∧ i < l.length := by
 unfold ik at h
 simpa using h
theorem dq0 {l : List (List (BitVec 32))} {i j : Int} (h : ik (ja l i) j = true) : (0 ≤ i ∧ i < l.length) ∧ 0 ≤ j ∧ j < (ix l i).length := by
 unfold ja at h
 split at h
 ·have := bu7 h
  simp at this
  omega
 ·rename_i hc
  simp only [Bool.or_eq_true, decide_eq_true_eq, not_or] at hc
  exact ⟨by omega, bu7 h⟩
theorem bh0 {x0 : ab} {x1 : au} {x2 : aa} {x3 : BitVec 32} {v0 v1 v2 : PV} (r0 : ab.t.R x0 v0) (r1 : au.t.R x1 v1) (r2 : aa.t.R x2 v2) (hE : EB x1) : ∃ r, FnR Tryz.prog 188 [v0, v1, v2, bh x3] r ∧ au.t.R (mr x0 x1 x2 x3) r := by
 refine fnE bg6 (by simp) ?_
 refine am (ay ?_)
 refine ae (dm rfl (TR.cnt ab.t r0)) (ae (dm rfl (TR.cnt au.t r1)) (ae (dm rfl (TR.cnt aa.t r2)) ?_))
 refine ej (x := .agg [nilS, nilS, nilS, nilS]) (Mem.nil _) rfl rfl (fun i8 w8 h8 M8 => ?_)
 refine br (aq (am (fq ?_)))
 refine cb (ae (bv rfl (TR.cnt au.t r1) (TR.agg au.t r1)) (ca ?_))
 obtain ⟨rr, k, X, a, b, c, d, eb, ef, em, ep, I, rfl, H⟩ := ag1 r1 hE M8
 refine im rfl rfl X ?_
 refine cb (ej (x := .agg [nilS, nilS, nilS, nilS]) H.M rfl rfl (fun i9 w9 h9 M9 => ca ?_))
 refine cb (ct (k := 0) (v := .agg [a, b, c, d]) M9 rfl rfl rfl rfl (fun a1 a0 => ca (kj ?_)))
 replace H := H.push (g := ⟨.op i9 w9 0, 46, 4, [.agg [a, b, c, d]]⟩) a0
 clear M8 M9 a0 X
 refine aq (am (ay ?_))
 refine lD r0 rfl rfl rfl (lD r2 rfl rfl rfl ?_)
 refine cL (ct5 r0 r2) rfl rfl (ai (TR.clo _ r0) (ai (TR.clo _ r2) bf)) (mV rfl ?_)
 refine br (aq (am (am (fq ?_))))
 refine cb (ae (ir (k := 0) H.pull rfl rfl rfl) (ca ?_))
 refine cb (ae (bv rfl (TR.cnt aa.t r2) (TR.agg aa.t r2)) (ca ?_))
 refine im rfl rfl (dn9 H hE r2) ?_
 refine cb (ae (av rfl) (ca (cb (ae (xh rfl rfl) (ca (cb (ae (xh rfl rfl) (ca ?_))))))))
 refine cb (ae (av rfl) (ca (cb (ae (av rfl) (ca (kj ?_))))))
 refine aq (am (ay (mV rfl (mV rfl ?_))))
 refine cq 3 (d := 28) (v := vb ((gi x1 x2).2 && decide (0 < ks x0 x2))) ?_ ?_
 ·intro S Q r
  cases hb : (gi x1 x2).2
  ·exact gN 2 rfl rfl rfl rfl rfl rfl
  ·intro k
   refine ah rfl rfl (av rfl) (ah rfl rfl (bq rfl rfl nj) ?_)
   exact gK rfl rfl rfl rfl rfl k
 refine br (aq (cd rfl (fun hc => ?_) fun hc => ?_))
 ·have hs : mr x0 x1 x2 x3 = putF x1 x2 (x3 &&& ck (ks x0 x2)) := by unfold mr; rw [if_pos hc]
  rw [hs]
  simp only [Bool.and_eq_true] at hc
  have el := hc.1
  unfold gi at el
  simp only [LET] at el
  refine ay (mV rfl (fL rfl (aa.g_Field r2) rfl rfl (mV rfl (mV rfl ?_))))
  refine cL (ky (x0 := ks x0 x2)) rfl rfl (ai rfl bf) (bN qd rfl rfl ?_)
  have ec : (x2 = ({ Header := -1, Field := x2.Field } : aa)) ↔ x2.Header = -1 := by
   cases x2; simp [aa.mk.injEq]
  by_cases hm : x2.Header = -1
  ·rw [if_pos (by simp only [decide_eq_true_eq, ec]; exact hm)] at el
   have hi := bu7 el
   have e2 : elv c ef x2 = c := by unfold elv; rw [if_pos hm]
   have e3 : putF x1 x2 (x3 &&& ck (ks x0 x2)) = { x1 with Metd := x1.Metd.set x2.Field.toNat (x3 &&& ck (ks x0 x2)) } := by unfold putF; rw [if_pos hm]
   rw [e2, e3]
   obtain ⟨id, ver, n, rfl⟩ := xy H.wc H.m hi.1 hi.2
   have hn := qn H.M (k := 2) rfl
   have hl := H.m.length
   refine ae (bg rfl rfl (qe 1 (i := x2.Field) hi.1 (by omega))) ?_
   exact ug (k := 2) (i := x2.Field.toNat) H.M rfl rfl rfl (by omega) rfl (fun h' M' => br (aq (wm (H.setM M' ⟨_, _, _, rfl⟩) hE.setM rfl rfl rfl)))
  ·rw [if_neg (by simp only [decide_eq_true_eq, ec]; exact hm)] at el
   simp only [Bool.and_eq_true] at el
   obtain ⟨hr, hi⟩ := dq0 el.2
   have hlen := H.f.len.1
   obtain ⟨v, es, g1, g2, g3, g4, g5, g6, g7⟩ := H.inner hr.1 hr.2
   have e2 : elv c ef x2 = v := by unfold elv; rw [if_neg hm, if_pos ⟨hr.1, by omega⟩, List.getD_eq_getElem?_getD, g1]; rfl
   have e3 : putF x1 x2 (x3 &&& ck (ks x0 x2)) = { x1 with Fields := x1.Fields.set x2.Header.toNat ((ix x1.Fields x2.Header).set x2.Field.toNat (x3 &&& ck (ks x0 x2))) } := by unfold putF; rw [if_neg hm]
   rw [e2, e3]
   obtain ⟨id, ver, n, rfl⟩ := xy g7 g4 hi.1 hi.2
   have hn := qn H.M g3
   have hl := g4.length
   refine ae (bg rfl rfl (qe 1 (i := x2.Field) hi.1 (by omega))) ?_
   exact ug (i := x2.Field.toNat) H.M rfl rfl g3 (by omega) rfl (fun h' M' => br (aq (wm (H.setF g1 g2 g4 g5 g6 M' ⟨_, _, _, rfl⟩) (hE.setF (by rw [List.length_set]; exact hE.i _ (aq2 hr.1 hr.2))) rfl rfl rfl)))
 ·have hs : mr x0 x1 x2 x3 = x1 := by unfold mr; rw [if_neg (by rw [hc]; simp)]
  rw [hs]
  exact az (aq (wm H hE rfl rfl rfl))

theorem dk2 {α : Type} [Inhabited α] {l : List (List α)} {i : Nat} (hi : i < l.length) : (l.take i ++ List.replicate (l.length - i) []).set i l[i] = l.take (i + 1) ++ List.replicate (l.length - (i + 1)) [] := by
 have e1 : (l.take i).length = i := by simp; omega
 rw [List.set_append_right _ _ (by omega), e1, Nat.sub_self, show l.length - i = (l.length - (i + 1)) + 1 by omega, List.replicate_succ, List.set_cons_zero, List.take_succ_eq_append_getElem hi, List.append_assoc]
 rfl
structure OR (h : Heap) (rs : List (List (BitVec 32))) (b : PV) (ef : List PV) (I R : List Ent) : Prop where
 M : Mem h (⟨b, 43, 1, ef⟩ :: (I ++ R))
 f : Ns dn 89 rs ef I
 nb : isL b = true
 wb : ∃ id ver n, b = .os id ver 0 n
theorem cd6 {S : List Fr} {Q : Post} {x0 : List (List (BitVec 32))} {v0 : PV} (q1 : (tSl (tSl dn)).R x0 v0) (hE : RB x0) {id ver : Nat} {R_ : List Ent}
  (K : ∀ {h : Heap} {ef : List PV} {I : List Ent}, OR h x0 (.os id ver 0 x0.length) ef I R_ → PX Tryz.prog 0 S Q [(3, .os id ver 0 x0.length)] h) :
  ∀ (m : Nat) {i : Int} {ef : List PV} {I : List Ent} {h : Heap}, m = Int.toNat ((x0.length : Int) - i) → 0 ≤ i → i ≤ x0.length →
   OR h (x0.take i.toNat ++ List.replicate (x0.length - i.toNat) []) (.os id ver 0 x0.length) ef I R_ →
   RC Tryz.prog (.loop bz2) S Q [(11, vi i), (10, vi (x0.length : Int)), (9, v0), (3, .os id ver 0 x0.length)] h
 | 0, i, ef, I, h, hm, h0, h1, H => by
  refine co ?_
  refine am (ay (ae (bq rfl rfl cw) (br (aq (am (cd rfl (fun hc => ?_) fun hc => ?_))))))
  ·simp only [decide_eq_true_eq] at hc; omega
  ·have e : i = x0.length := by omega
   subst e
   rw [Int.toNat_natCast, List.take_length, Nat.sub_self, List.replicate_zero, List.append_nil] at H
   exact fj (gg (dw (wP (K H) rfl)))
 | m + 1, i, ef, I, h, hm, h0, h1, H => by
  have hlt : i < (x0.length : Int) := by omega
  refine co ?_
  refine am (ay (ae (bq rfl rfl cw) (br (aq (am (cd rfl (fun hc => ?_) fun hc => ?_))))))
  ·refine az (aq (am (bm ?_)))
   obtain ⟨g0, e0, q0⟩ := dq (i := i) q1 h0 hlt
   have hb := pe hE.i h0 hlt
   have hen : ef.length = x0.length := by rw [H.f.len.1]; simp; omega
   have hIn : I.length = x0.length := by rw [H.f.len.2]; simp; omega
   refine am (ay ?_)
   refine mV rfl (ae (bg rfl rfl e0) (ae (bv rfl (TR.cnt _ q0) (TR.agg _ q0)) (mV rfl (mV rfl ?_))))
   refine br (aq (am (ay ?_)))
   refine mV rfl (mV rfl (mV rfl (ae (cv rfl (ci q0 Tryz.underlying43 _)) ?_)))
   have ff : fits (ix x0 i).length 4 = true := pa (by omega) (by omega)
   refine ar8 (sz := 1) (ty := 89) (n := (ix x0 i).length) (zz := bh 0#32) H.M rfl rfl rfl rfl rfl ff (fun j w h2 M2 => ?_)
   refine ae (bg rfl rfl (qe 1 (i := i) h0 (by omega))) ?_
   refine ug (k := 1) (i := i.toNat) M2 rfl rfl rfl (by omega) rfl (fun h3 M3 => ?_)
   have M4 : Mem h3 (⟨.os id ver 0 x0.length, 43, 1, ef.set i.toNat (.os j w 0 (ix x0 i).length)⟩ :: (I.set i.toNat ⟨.os j w 0 (ix x0 i).length, 89, 1, List.replicate (ix x0 i).length (bh 0#32)⟩ ++ R_)) :=
    cn4 (C := [⟨.os id ver 0 x0.length, 43, 1, ef.set i.toNat (.os j w 0 (ix x0 i).length)⟩]) (Mem.sub M3 (.cons_cons _ (.cons_cons _ (List.Sublist.append_right (List.eraseIdx_sublist ..) _)))) (by omega)
   refine br (aq (ay (mV rfl (mV rfl ?_))))
   refine ae (bg rfl rfl (qe 1 (i := i) h0 (by omega))) ?_
   refine ae (oc (k := 0) M4 rfl rfl (List.getElem?_set_self (by omega)) rfl) (mV rfl ?_)
   obtain ⟨nw, sr, ar⟩ := rt (t := dn) (h := h3) q0
   have hk : (⟨.os id ver 0 x0.length, 43, 1, ef.set i.toNat (.os j w 0 (ix x0 i).length)⟩ :: (I.set i.toNat ⟨.os j w 0 (ix x0 i).length, 89, 1, List.replicate (ix x0 i).length (bh 0#32)⟩ ++ R_))[i.toNat + 1]? = some (⟨.os j w 0 (ix x0 i).length, 89, 1, List.replicate (ix x0 i).length (bh 0#32)⟩ : Ent) := by
    rw [List.getElem?_cons_succ, List.getElem?_append_left (by rw [List.length_set]; omega), List.getElem?_set_self (by omega)]
   refine cu4 M4 rfl rfl hk sr (by rw [ar.length, List.length_replicate]) (fun h5 M5 => ?_)
   rw [List.set_cons_succ, List.set_append_left _ _ (by rw [List.length_set]; omega), List.set_set] at M5
   refine br (de (aq (ay (ae (bq rfl rfl gv) (mV rfl (br (di ?_)))))))
   have hinc : wr (i + 1) = i + 1 := ee (by omega) (by have := hE.o; omega)
   refine ov ?_ (cd6 q1 hE K m (i := i + 1) (by omega) (by omega) (by omega) ⟨M5, ?_, rfl, _, _, _, rfl⟩)
   ·exact fe (by show some (vi (wr (i + 1))) = _; rw [hinc]) (sB rfl)
   ·have e := dk2 (l := x0) (i := i.toNat) (by omega)
    rw [← xc h0 hlt] at e
    rw [show (i + 1).toNat = i.toNat + 1 by omega, ← e]
    exact bv3 H.f ar rfl (by omega) (.inr ⟨_, _, _, rfl⟩)
  ·simp only [decide_eq_false_iff_not] at hc; omega
theorem bh3 {f n : Nat} (X : FnText Tryz.prog f [] n 1 cd5 [(2, none)]) {x0 : List (List (BitVec 32))} {v0 : PV} (r0 : (tSl (tSl dn)).R x0 v0) (hE : RB x0) {h_ : Heap} {R_ : List Ent} (M_ : Mem h_ R_) : ∃ r k, FnX Tryz.prog f [v0] h_ r k ∧ ∃ ef I, OR k x0 r ef I R_ := by
 refine fnX X (by simp) ?_
 refine am (ay (ae (v := nilS) (av rfl) (br (aq (am (ay ?_))))))
 refine mV rfl (ae (cv rfl (ci r0 Tryz.underlying42 _)) ?_)
 have ff : fits x0.length 24 = true := pa (by have := hE.o; omega) (by have := hE.o; omega)
 refine ar8 (sz := 1) (ty := 43) (n := x0.length) (zz := nilS) M_ rfl rfl rfl rfl rfl ff (fun id ver h2 M2 => ?_)
 have M3 := df3 (C := [⟨.os id ver 0 x0.length, 43, 1, List.replicate x0.length nilS⟩]) M2 89 1 x0.length
 refine mV rfl (br (aq (am (am (ay ?_)))))
 refine mV rfl (ae (cv rfl (ci r0 Tryz.underlying42 _)) (mV rfl (br (aq (bm ?_)))))
 refine wC (cd6 (x0 := x0) r0 hE (R_ := R_) ?_ x0.length (i := 0) (by omega) (by omega) (by omega) ⟨M3, (by rw [show Int.toNat 0 = 0 from rfl, List.take_zero, List.nil_append, Nat.sub_zero]; exact da6 (t := dn) (ty := 89) x0.length), rfl, _, _, _, rfl⟩) rfl
 ·intro h ef I H
  refine gm (aq (am (ay (mV rfl (mV rfl (br (aq ?_)))))))
  exact iy (.tmp rfl .nil) ⟨ef, I, H⟩
theorem OR.deep {h : Heap} {rs : List (List (BitVec 32))} {b : PV} {ef : List PV} {I R : List Ent} (H : OR h rs b ef I R) (hb : RB rs) : ∃ r, Deep Tryz.prog h b r ∧ (tSl (tSl dn)).R rs r :=
 bn2 (P := Tryz.prog) (C := [⟨b, 43, 1, ef⟩]) (k := 0) H.M rfl H.nb H.f (by have := hb.o; omega)
theorem cm8 {x0 : List (List (BitVec 32))} {v0 : PV} (r0 : (tSl (tSl dn)).R x0 v0) (hE : RB x0) : ∃ r, FnR Tryz.prog 117 [v0] r ∧ (tSl (tSl dn)).R (pb x0) r := by
 obtain ⟨r, k, X, ef, I, H⟩ := bh3 bm3 r0 hE (Mem.nil ⟨0, []⟩)
 obtain ⟨d, hd, hr⟩ := H.deep hE
 exact ⟨d, FnR.of_X X hd, hr⟩

def RF221 (res : Bool) (r : PV) : Prop := r = vb res
theorem bf3 {x0 : UInt8} : FnR Tryz.prog 221 [vu8 x0] (vb (oo x0)) := by
 refine fnS (R := RF221) bj1 (fun _ h => h) rfl fun res s => ?_
 unfold oo at s
 refine sR (mB rfl (nR (mV rfl (ae (bq (a := vu8 x0) (b := vu8 (97 : UInt8)) rfl rfl bt1) (mV rfl ?_)))))
 refine cq 3 (d := 8) (v := vb ((decide ((97 : UInt8) ≤ x0)) && (decide (x0 ≤ (122 : UInt8))))) ?_ ?_
 ·intro S Q r
  cases a3 : (decide ((97 : UInt8) ≤ x0))
  ·exact gN 2 rfl rfl rfl rfl rfl rfl
  ·intro k
   have a2 := a3
   try simp only [qa] at a2
   refine ah rfl rfl (av rfl) (ah rfl rfl (bq (a := vu8 x0) (b := vu8 (122 : UInt8)) rfl rfl cb9) ?_)
   exact gK rfl rfl rfl rfl rfl k
 refine mV rfl ?_
 refine cq 7 (d := 16) (v := vb (((decide ((97 : UInt8) ≤ x0)) && (decide (x0 ≤ (122 : UInt8)))) || ((decide ((65 : UInt8) ≤ x0)) && (decide (x0 ≤ (90 : UInt8)))))) ?_ ?_
 ·intro S Q r
  cases a5 : ((decide ((97 : UInt8) ≤ x0)) && (decide (x0 ≤ (122 : UInt8))))
  ·intro k
   have a1 := a5
   try simp only [qa] at a1
   refine ah rfl rfl (av rfl) (ah rfl rfl (bq (a := vu8 x0) (b := vu8 (65 : UInt8)) rfl rfl bt1) (ah rfl rfl (av rfl) ?_))
   refine cq 3 (d := 15) (v := vb ((decide ((65 : UInt8) ≤ x0)) && (decide (x0 ≤ (90 : UInt8))))) ?_ ?_
   ·intro S Q r
    cases a4 : (decide ((65 : UInt8) ≤ x0))
    ·intro k
     refine pr rfl rfl (pr rfl rfl (ah (v := vb false) rfl rfl (qx rfl rfl rfl rfl) ?_))
     exact wD k rfl
    ·intro k
     have a0 := a4
     try simp only [qa] at a0
     refine ah rfl rfl (av rfl) (ah rfl rfl (bq (a := vu8 x0) (b := vu8 (90 : UInt8)) rfl rfl cb9) (ah (v := vb (decide (x0 ≤ (90 : UInt8)))) rfl rfl (qx rfl rfl rfl rfl) ?_))
     exact wD k rfl
   exact gK rfl rfl rfl rfl rfl k
  ·exact gN 6 rfl rfl rfl rfl rfl rfl
 refine mV rfl (nS ?_)
 exact rR s rfl rfl rfl

def RF222 (res : Int) (r : PV) : Prop := r = vi res
theorem xw {S : List Fr} {res : Int} {x0 : List UInt8} {x1 : UInt8 → Bool} {v1 : PV} (r1 : (tFn Tryz.prog tU8 tB).R x1 v1) (hs : x0.length ≤ 1000) {K0 : Int → Int}
  (b1 : ∀ {a0 : Int}, K0 a0 = res → PX Tryz.prog 0 S (QR Tryz.prog [(4, none)] (RF222 res)) [(5, vi a0)] ⟨0, []⟩) :
  ∀ {m : Nat} {a0 : Int} (b0 : m = Int.toNat ((x0.length : Int) - a0)) (a6 : 0 ≤ a0), nt x0 x1 K0 m a0 = res → RC Tryz.prog (.loop cb3) S (QR Tryz.prog [(4, none)] (RF222 res)) [(5, vi a0), (1, v1), (0, vs x0)] ⟨0, []⟩ := by
 intro m
 induction m with
 | zero =>
  intro a0 b0 a6 s
  rw [nt] at s
  refine co (am (sR (mV rfl (mV rfl (ae (cv rfl (zj Tryz.underlying9)) (bN cw rfl rfl (mV rfl ?_)))))))
  refine cq 6 (d := 16) (v := vb ((decide (a0 < (x0.length : Int))) && (x1 (ix x0 a0)))) ?_ ?_
  ·intro S Q r
   cases a5 : (decide (a0 < (x0.length : Int)))
   ·exact gN 5 rfl rfl rfl rfl rfl rfl
   ·intro k
    have a4 := a5
    try simp only [qa] at a4
    refine ah rfl rfl (av rfl) (ah rfl rfl (av rfl) (ah rfl rfl (av rfl) (ah rfl rfl (ab3 rfl rfl (ao7 Tryz.underlying9 (by omega) (by omega))) ?_)))
    refine aj4 rfl rfl rfl r1 rfl (show tU8.R (ix x0 a0) (vu8 (ix x0 a0)) from rfl) (fun a9 a3 => ?_)
    have a3 : a9 = vb (x1 (ix x0 a0)) := a3; subst a3
    exact gK rfl rfl rfl rfl rfl k
  refine nS ?_
  refine cd rfl ?_ ?_ <;> intro c <;> try simp only [qa] at c
  ·omega
  refine fj (gg (dw ?_))
  exact wP (b1  s) rfl
 | succ m ih =>
  intro a0 b0 a6 s
  rw [nt] at s
  refine co (am (sR (mV rfl (mV rfl (ae (cv rfl (zj Tryz.underlying9)) (bN cw rfl rfl (mV rfl ?_)))))))
  refine cq 6 (d := 16) (v := vb ((decide (a0 < (x0.length : Int))) && (x1 (ix x0 a0)))) ?_ ?_
  ·intro S Q r
   cases a7 : (decide (a0 < (x0.length : Int)))
   ·exact gN 5 rfl rfl rfl rfl rfl rfl
   ·intro k
    have a2 := a7
    try simp only [qa] at a2
    refine ah rfl rfl (av rfl) (ah rfl rfl (av rfl) (ah rfl rfl (av rfl) (ah rfl rfl (ab3 rfl rfl (ao7 Tryz.underlying9 (by omega) (by omega))) ?_)))
    refine aj4 rfl rfl rfl r1 rfl (show tU8.R (ix x0 a0) (vu8 (ix x0 a0)) from rfl) (fun a8 a1 => ?_)
    have a1 : a8 = vb (x1 (ix x0 a0)) := a1; subst a1
    exact gK rfl rfl rfl rfl rfl k
  refine nS ?_
  refine cg s rfl ?_ ?_ <;> clear s <;> intro c s <;> try simp only [qa] at c
  ·refine az (aq (bm (ay (mV rfl (bN gv rfl rfl (mV rfl (br (de ?_))))))))
   refine di ?_
   have hinc : wr (a0 + 1) = a0 + 1 := ee (by omega) (by omega)
   erw [hinc]
   exact wC (ih   (by omega) (by omega) s) rfl
  ·refine fj (gg (dw ?_))
   exact wP (b1  s) rfl

theorem ci9 {x0 : List UInt8} {x1 : UInt8 → Bool} {v1 : PV} (r1 : (tFn Tryz.prog tU8 tB).R x1 v1) (hs : x0.length ≤ 1000) : FnR Tryz.prog 222 [vs x0, v1] (vi (tv x0 x1)) := by
 refine fnS (R := RF222) bd1 (fun _ h => h) rfl fun res s => ?_
 unfold tv at s
 refine sR (mI rfl (nR (mI rfl (nS (am (bm ?_))))))
 refine wC (xw r1 hs ?_  rfl (by omega) s) rfl
 ·intro a0 s
  refine gm (aq (sR (mV rfl (mV rfl (nS ?_)))))
  exact rR s rfl rfl rfl

def RF224 (res : Bool) (r : PV) : Prop := r = vb res
theorem ci1 {x0 : UInt8} : FnR Tryz.prog 224 [vu8 x0] (vb (oa x0)) := by
 refine fnS (R := RF224) bk8 (fun _ h => h) rfl fun res s => ?_
 unfold oa at s
 refine sR (mB rfl (nR (mV rfl (ae (bq (a := vu8 x0) (b := vu8 (48 : UInt8)) rfl rfl bt1) (mV rfl ?_)))))
 refine cq 3 (d := 8) (v := vb ((decide ((48 : UInt8) ≤ x0)) && (decide (x0 ≤ (57 : UInt8))))) ?_ ?_
 ·intro S Q r
  cases a1 : (decide ((48 : UInt8) ≤ x0))
  ·exact gN 2 rfl rfl rfl rfl rfl rfl
  ·intro k
   have a0 := a1
   try simp only [qa] at a0
   refine ah rfl rfl (av rfl) (ah rfl rfl (bq (a := vu8 x0) (b := vu8 (57 : UInt8)) rfl rfl cb9) ?_)
   exact gK rfl rfl rfl rfl rfl k
 refine mV rfl (nS ?_)
 exact rR s rfl rfl rfl

def RF223 (res : Bool) (r : PV) : Prop := r = vb res
theorem ce7 {x0 : UInt8} : FnR Tryz.prog 223 [vu8 x0] (vb (mn x0)) := by
 refine fnS (R := RF223) bm7 (fun _ h => h) rfl fun res s => ?_
 unfold mn at s
 refine sR (mB rfl (nR (mV rfl ?_)))
 obtain ⟨a0, a4, s⟩ := bt s
 have a3 := bf3 (x0 := x0)  
 rw [a4] at a3
 refine cL a3 rfl rfl (ai rfl bf) (mV rfl ?_)
 refine cq 3 (d := 8) (v := vb (a0 || (oa x0))) ?_ ?_
 ·intro S Q r
  cases a6 : a0
  ·intro k
   have a1 := a6
   try simp only [qa] at a1
   refine ah rfl rfl (av rfl) ?_
   have a7 := ci1 (x0 := x0)  
   refine ld rfl rfl (ru rfl rfl (ai rfl bf) a7) ?_
   exact gK rfl rfl rfl rfl rfl k
  ·exact gN 2 rfl rfl rfl rfl rfl rfl
 refine mV rfl ?_
 refine cq 3 (d := 12) (v := vb ((a0 || (oa x0)) || (decide (x0 = (95 : UInt8))))) ?_ ?_
 ·intro S Q r
  cases a5 : (a0 || (oa x0))
  ·intro k
   have a2 := a5
   try simp only [qa] at a2
   refine ah rfl rfl (av rfl) (ah rfl rfl (bq (a := vu8 x0) (b := vu8 (95 : UInt8)) rfl rfl di8) ?_)
   exact gK rfl rfl rfl rfl rfl k
  ·exact gN 2 rfl rfl rfl rfl rfl rfl
 refine mV rfl (nS ?_)
 exact rR s rfl rfl rfl

theorem df5 : (tFn Tryz.prog tU8 tB).R mn (.fn (.func 223) [] []) := df7 fun a va ra => by obtain rfl := ra; exact ⟨_, ce7, rfl⟩

def RF169 (res : Bool) (r : PV) : Prop := r = vb res
theorem bm6 {x0 : List UInt8} : FnR Tryz.prog 169 [vs x0] (vb (mh x0)) := by
 refine fnS (R := RF169) be3 (fun _ h => h) rfl fun res s => ?_
 unfold mh at s
 refine sR (mB rfl (nS (am (sR (mV rfl (ae (cv rfl (zj Tryz.underlying9)) (bN fi rfl rfl (mV rfl ?_))))))))
 refine cq 4 (d := 10) (v := vb ((decide ((x0.length : Int) = 0)) || (decide (16 < (x0.length : Int))))) ?_ ?_
 ·intro S Q r
  cases a4 : (decide ((x0.length : Int) = 0))
  ·intro k
   have a1 := a4
   try simp only [qa] at a1
   refine ah rfl rfl (av rfl) (ah rfl rfl (cv rfl (zj Tryz.underlying9)) (ah rfl rfl (bq rfl rfl nj) ?_))
   exact gK rfl rfl rfl rfl rfl k
  ·exact gN 3 rfl rfl rfl rfl rfl rfl
 refine mV rfl ?_
 refine cq 5 (d := 16) (v := vb (((decide ((x0.length : Int) = 0)) || (decide (16 < (x0.length : Int)))) || (!(oo (ix x0 0))))) ?_ ?_
 ·intro S Q r
  cases a3 : ((decide ((x0.length : Int) = 0)) || (decide (16 < (x0.length : Int))))
  ·intro k
   have a0 := a3
   try simp only [qa] at a0
   refine ah rfl rfl (av rfl) (ah rfl rfl (ab3 rfl rfl (ao7 (i := 0) Tryz.underlying9 (by omega) (by omega))) ?_)
   have a6 := bf3 (x0 := (ix x0 0))  
   refine ld rfl rfl (ru rfl rfl (ai rfl bf) a6) (ah rfl rfl (ju rfl) ?_)
   exact gK rfl rfl rfl rfl rfl k
  ·exact gN 4 rfl rfl rfl rfl rfl rfl
 refine nS ?_
 refine cg s rfl ?_ ?_ <;> clear s <;> intro c s <;> try simp only [qa] at c
 ·refine sR (mB rfl (nS ?_))
  exact rR s rfl rfl rfl
 ·refine az (aq (sR (mV rfl ?_)))
  obtain ⟨a7, a5, s⟩ := bt s
  have a2 := ci9 (x0 := x0) df5 (by first | assumption | omega | (rw [ee (by omega) (by omega)]; omega) | (have hk := rval rfl (And.right (And.left (by assumption))); omega) | (have hk := rval (by assumption) (by assumption); omega) | (have hk := rval (by assumption) (And.left (by assumption)); omega) | (have hk := rval (by assumption) (And.left (And.left (by assumption))); have hz := rslc (by assumption); omega) | (simp; done) | (simp only [List.length_append, List.length_nil, List.length_cons]; omega) | (have hk := (dx (by assumption) (by assumption)).1; omega) | (simp only [List.length_cons, List.length_nil]; omega) | (simp only [List.length_append]; have hk := (dx (by assumption) (by assumption)).1; omega) | (simp only [List.length_append, List.length_nil]; have hk := (dx (by assumption) (by assumption)).1; omega))
  rw [a5] at a2
  refine cL a2 rfl rfl (ai rfl (ai rfl bf)) (mV rfl (ae (cv rfl (zj Tryz.underlying9)) (bN fi rfl rfl (mV rfl (nS ?_)))))
  exact rR s rfl rfl rfl

def RF171 (res : Bool) (r : PV) : Prop := r = vb res
theorem cm9 {x0 : ax} {c0 : ax} {v0 w0 : PV} (r0 : ax.t.R x0 v0) (a0 : ax.t.R c0 w0) : FnR Tryz.prog 171 [v0, .fp w0] (vb (mu x0 c0)) := by
 refine fnS (R := RF171) bh9 (fun _ h => h) rfl fun res s => ?_
 unfold mu at s
 refine sR (ae (dm rfl (TR.cnt ax.t r0)) (mB rfl (nR (fL rfl (ax.g_Name r0) rfl rfl (fL rfl (ax.g_Name a0) rfl rfl (ae (bq (a := vs x0.Name) (b := vs c0.Name) rfl rfl cj5) (mV rfl (nS ?_))))))))
 exact rR s rfl rfl rfl

def RF225 (res : Int) (r : PV) : Prop := r = vi res
theorem mz {S : List Fr} {res : Int} {x0 : List ax} {x1 : ax → Bool} {v0 v1 : PV} (r0 : (tSl ax.t).R x0 v0) (r1 : (tFn Tryz.prog ax.t tB).R x1 v1) {K0 : Unit → Int}
  (a8 : K0 () = res → PX Tryz.prog 0 S (QR Tryz.prog [(4, none)] (RF225 res)) [] ⟨0, []⟩) :
  ∀ {m : Nat} {a0 : Int} (a7 : m = Int.toNat ((x0.length : Int) - a0)) (a3 : 0 ≤ a0), fh x0 x1 K0 m a0 = res → RC Tryz.prog (.loop ca3) S (QR Tryz.prog [(4, none)] (RF225 res)) [(8, vi a0), (7, vi (x0.length : Int)), (1, v1), (0, v0)] ⟨0, []⟩ := by
 intro m
 induction m with
 | zero =>
  intro a0 a7 a3 s
  rw [fh] at s
  refine co (sR (bN cw rfl rfl (nS (am ?_))))
  refine cd rfl ?_ ?_ <;> intro c <;> try simp only [qa] at c
  ·omega
  refine fj (gg (dw ?_))
  exact wP (a8  s) rfl
 | succ m ih =>
  intro a0 a7 a3 s
  rw [fh] at s
  refine co (sR (bN cw rfl rfl (nS (am ?_))))
  refine cd rfl ?_ ?_ <;> intro c <;> try simp only [qa] at c
  rotate_left
  ·omega
  refine az (aq (am (bm (sR (mV rfl (mV rfl (nR (mV rfl ?_))))))))
  refine mV rfl (mV rfl ?_)
  obtain ⟨a6, a5, a2⟩ := dq (i := a0) r0 (by omega) (by omega)
  refine ae (bg rfl rfl a5) (lD a2 rfl rfl rfl ?_)
  refine cb5 rfl r1 rfl (show ax.t.R (ix x0 a0) a6 from a2) (fun a4 a1 => ?_)
  have a1 : a4 = vb (x1 (ix x0 a0)) := a1; subst a1
  refine nS ?_
  refine cg s rfl ?_ ?_ <;> clear s <;> intro c s <;> try simp only [qa] at c
  ·refine sR (mV rfl (mV rfl (nS ?_)))
   exact rR s rfl rfl rfl
  ·refine az (de (aq (ay (bN gv rfl rfl (mV rfl (br (di ?_)))))))
   have hbd := en r0
   have hinc : wr (a0 + 1) = a0 + 1 := ee (by omega) (by omega)
   erw [hinc]
   exact wC (ih   (by omega) (by omega) s) rfl

theorem cr7 {x0 : List ax} {x1 : ax → Bool} {v0 v1 : PV} (r0 : (tSl ax.t).R x0 v0) (r1 : (tFn Tryz.prog ax.t tB).R x1 v1) : FnR Tryz.prog 225 [v0, v1] (vi (iz x0 x1)) := by
 refine fnS (R := RF225) be4 (fun _ h => h) rfl fun res s => ?_
 unfold iz at s
 refine sR (mI rfl (nS (am (sR (mV rfl (ae (cv rfl (ci r0 Tryz.underlying23 _)) (mI rfl (nS ?_))))))))
 refine bm ?_
 refine wC (mz r0 r1 ?_  rfl (by omega) s) rfl
 ·intro  s
  refine gm (aq (sR (mI rfl (nS ?_))))
  exact rR s rfl rfl rfl

def RF170 (res : Bool) (r : PV) : Prop := r = vb res
theorem cn5 {x0 : List ax} {x1 : ax → Bool} {v0 v1 : PV} (r0 : (tSl ax.t).R x0 v0) (r1 : (tFn Tryz.prog ax.t tB).R x1 v1) : FnR Tryz.prog 170 [v0, v1] (vb (iq x0 x1)) := by
 refine fnS (R := RF170) bd5 (fun _ h => h) rfl fun res s => ?_
 unfold iq at s
 refine sR (mB rfl (nR (mV rfl (mV rfl ?_))))
 obtain ⟨a2, a0, s⟩ := bt s
 have a1 := cr7  r0 r1 
 rw [a0] at a1
 refine cL a1 rfl rfl (ai (TR.clo (tSl ax.t) r0) (ai (TR.clo (tFn Tryz.prog ax.t tB) r1) bf)) (bN mo rfl rfl (mV rfl (nS ?_)))
 exact rR s rfl rfl rfl

def RF103 (res : Int) (r : PV) : Prop := r = vi res
theorem sv {S : List Fr} {res : Int} {x0 : bp} {b3 : Bool} {v0 a4 : PV} (r0 : bp.t.R x0 v0) (d5 : mh x0.Name = b3) (b5 : (!b3) = false) (c3 : ((decide (4 < (x0.Params.length : Int))) || (decide (12 < (x0.Body.length : Int)))) = false) (b7 : (tSl ax.t).R x0.Params a4) {K1 : Unit → Int}
  (d7 : ∀ {h : Heap} (M0 : Mem h []), K1 () = res → PX Tryz.prog 1 S (QR Tryz.prog [(2, none)] (RF103 res)) [] h) :
  ∀ {m : Nat} {a0 : Int} (d4 : m = Int.toNat ((x0.Params.length : Int) - a0)) (c1 : 0 ≤ a0) {h : Heap} (M0 : Mem h []), km x0 K1 m a0 = res → RC Tryz.prog (.loop cb0) S (QR Tryz.prog [(2, none)] (RF103 res)) [(24, vi a0), (23, vi (x0.Params.length : Int)), (22, a4), (1, .fp v0)] h := by
 have a8 := b5
 try simp only [qa] at a8
 have a7 := c3
 try simp only [qa] at a7
 intro m
 induction m with
 | zero =>
  intro a0 d4 c1 h M0 s
  rw [km] at s
  refine co (sR (bN cw rfl rfl (nS (am ?_))))
  refine cd rfl ?_ ?_ <;> intro c <;> try simp only [qa] at c
  ·omega
  refine fj (gg (dw ?_))
  exact wP (d7 (Mem.sub M0 .slnil) s) rfl
 | succ m ih =>
  intro a0 d4 c1 h M0 s
  rw [km] at s
  refine co (sR (bN cw rfl rfl (nS (am ?_))))
  refine cd rfl ?_ ?_ <;> intro c <;> try simp only [qa] at c
  rotate_left
  ·omega
  refine az (aq (am (bm (sR (mV rfl ?_)))))
  obtain ⟨a1, c8, a3⟩ := dq (i := a0) b7 (by omega) (by omega)
  refine ae (bg rfl rfl c8) (lD a3 rfl rfl rfl ?_)
  refine ej (x := .agg [vs [], vi 0]) M0 rfl rfl (fun c9 c6 d6 c7 => ?_)
  refine mV rfl ?_
  refine ct (k := 0) (v := a1) c7 rfl rfl rfl (TR.cnt ax.t a3) (fun c5 a6 => ?_)
  replace a6 : Mem c5 [⟨.op c9 c6 0, 166, 2, [a1]⟩] := a6
  refine nS (bm (am (fq (cb (ae (bz rfl) (ca (cb (ae (dj (k := 0) a6 rfl rfl (ax.g_Name a3)) ?_))))))))
  refine ca (cb ?_)
  obtain ⟨a2, c0, s⟩ := bt s
  have b1 := bm6 (x0 := (ix x0.Params a0).Name)  
  rw [c0] at b1
  refine cL b1 rfl rfl (ai rfl bf) (ca (cb (ae (ju rfl) (ca (cb (mV rfl (ca ?_)))))))
  refine xk (k := 0) (E' := [(29, vb (!a2)), (33, vb (!a2)), (32, vb a2), (31, vs ((ix x0.Params a0).Name)), (3, vi a0), (4, .fp a1), (28, a1), (27, .fp a1), (26, vi a0), (25, vb (decide (a0 < (x0.Params.length : Int)))), (24, vi a0), (23, vi (x0.Params.length : Int)), (22, a4), (1, .fp v0)]) a6 rfl (cy rfl (cy rfl (cy rfl (cy rfl (cy rfl (ti rfl (cy rfl (cy rfl (cy rfl (cy rfl (cy rfl (cy rfl (cy rfl (cy rfl zb)))))))))))))) (fun c2 a9 => ?_)
  replace a9 : Mem c2 [] := a9
  refine kj (aq ?_)
  refine cg s rfl ?_ ?_ <;> clear s <;> intro c s <;> try simp only [qa] at c
  ·refine sR (mI rfl (nS ?_))
   exact rR s rfl rfl rfl
  ·refine sR (fL rfl (ax.g_Width a3) rfl rfl (bN cw rfl rfl (mV rfl ?_)))
   refine cq 4 (d := 42) (v := vb ((decide (((ix x0.Params a0).Width) < 1)) || (decide (32 < ((ix x0.Params a0).Width))))) ?_ ?_
   ·intro S Q r
    cases b8 : (decide (((ix x0.Params a0).Width) < 1))
    ·intro k
     have b0 := b8
     try simp only [qa] at b0
     refine ah rfl rfl (bw rfl (ax.g_Width a3)) (ah rfl rfl (bv rfl rfl rfl) (ah rfl rfl (bq rfl rfl nj) ?_))
     exact gK rfl rfl rfl rfl rfl k
    ·exact gN 3 rfl rfl rfl rfl rfl rfl
   refine mV rfl (nS ?_)
   refine cg s rfl ?_ ?_ <;> clear s <;> intro c s <;> try simp only [qa] at c
   ·refine sR (mI rfl (nS ?_))
    exact rR s rfl rfl rfl
   ·refine sR ?_
    obtain ⟨a5, d1, c4⟩ := bp.g_Params r0
    refine fA rfl d1 (lD c4 rfl rfl rfl (mV rfl (ao5 (E0 := [(46, vi a0), (45, a5), (44, .fp a5), (34, vb ((decide (((ix x0.Params a0).Width) < 1)) || (decide (32 < ((ix x0.Params a0).Width))))), (42, vb ((decide (((ix x0.Params a0).Width) < 1)) || (decide (32 < ((ix x0.Params a0).Width))))), (38, vb (decide (((ix x0.Params a0).Width) < 1))), (37, vb (decide (((ix x0.Params a0).Width) < 1))), (36, vi ((ix x0.Params a0).Width)), (35, .fp (vi ((ix x0.Params a0).Width))), (29, vb (!a2)), (33, vb (!a2)), (32, vb a2), (31, vs ((ix x0.Params a0).Name)), (3, vi a0), (4, .fp a1), (28, a1), (27, .fp a1), (26, vi a0), (25, vb (decide (a0 < (x0.Params.length : Int)))), (24, vi a0), (23, vi (x0.Params.length : Int)), (22, a4), (1, .fp v0)]) (sB rfl) ?_)))
    obtain ⟨d0, d2, b2⟩ := de8 (P := Tryz.prog) (hf := false) (E := [(46, vi a0), (45, a5), (44, .fp a5), (34, vb ((decide (((ix x0.Params a0).Width) < 1)) || (decide (32 < ((ix x0.Params a0).Width))))), (42, vb ((decide (((ix x0.Params a0).Width) < 1)) || (decide (32 < ((ix x0.Params a0).Width))))), (38, vb (decide (((ix x0.Params a0).Width) < 1))), (37, vb (decide (((ix x0.Params a0).Width) < 1))), (36, vi ((ix x0.Params a0).Width)), (35, .fp (vi ((ix x0.Params a0).Width))), (29, vb (!a2)), (33, vb (!a2)), (32, vb a2), (31, vs ((ix x0.Params a0).Name)), (3, vi a0), (4, .fp a1), (28, a1), (27, .fp a1), (26, vi a0), (25, vb (decide (a0 < (x0.Params.length : Int)))), (24, vi a0), (23, vi (x0.Params.length : Int)), (22, a4), (1, .fp v0)]) (h := c2) (t := ax.t) (tt := 23) (x := (.tmp 45)) (lo := none) (hi := (some (.tmp 46))) (a := 0) (b := a0) c4 rfl rfl rfl (show 0 ≤ 0 by omega) (show 0 ≤ a0 by omega) (show a0 ≤ (x0.Params.length : Int) by omega) (fun ad => by kernel_rfl)
    have d3 := co0 (l := x0.Params) (show 0 ≤ 0 by omega) (show 0 ≤ a0 by omega) (show a0 ≤ (x0.Params.length : Int) by omega)
    refine ae (v := d0) (d2) ?_
    have b6 : (tFn Tryz.prog ax.t tB).R (fun a_ => mu a_ (ix x0.Params a0)) (.fn (.func 171) [] [.fp a1]) := cm2 (ai (df2 (TR.clo ax.t a3)) bf) fun a va ra => by exact ⟨_, cm9  ra a3 , rfl⟩
    refine ae (v := .fn (.func 171) [] [.fp a1]) (bo6 rfl rfl) ?_
    obtain ⟨d8, b9, s⟩ := bt s
    have b4 := cn5  b2 b6 
    rw [b9] at b4
    refine cL b4 rfl rfl (ai (TR.clo (tSl ax.t) b2) (ai (TR.clo (tFn Tryz.prog ax.t tB) b6) bf)) (mV rfl (nS ?_))
    refine cg s rfl ?_ ?_ <;> clear s <;> intro c s <;> try simp only [qa] at c
    ·refine sR (mI rfl (nS ?_))
     exact rR s rfl rfl rfl
    ·refine az (de (de (aq (ay (bN gv rfl rfl (mV rfl (br (di ?_))))))))
     have hbd := en b7
     have hinc : wr (a0 + 1) = a0 + 1 := ee (by omega) (by omega)
     erw [hinc]
     exact wC (ih   (by omega) (by omega) (Mem.sub a9 .slnil) s) rfl

theorem cf6 {x0 : bp} {v0 : PV} (r0 : bp.t.R x0 v0) : FnR Tryz.prog 103 [v0] (vi (ji x0)) := by
 refine fnS (R := RF103) bc5 (fun _ h => h) rfl fun res s => ?_
 unfold ji at s
 refine sR (ae (dm rfl (TR.cnt bp.t r0)) (mI rfl (nS (am (bm (sR (fL rfl (bp.g_Name r0) rfl rfl ?_)))))))
 obtain ⟨b2, a1, s⟩ := bt s
 have a8 := bm6 (x0 := x0.Name)  
 rw [a1] at a8
 refine cL a8 rfl rfl (ai rfl bf) (ae (ju rfl) (mV rfl (nS ?_)))
 refine cg s rfl ?_ ?_ <;> clear s <;> intro a0 s <;> have a5 := a0 <;> try simp only [qa] at a5
 ·refine sR (mI rfl (nS ?_))
  exact rR s rfl rfl rfl
 ·refine sR (gL (bp.g_Params r0) rfl rfl rfl fun b7 b0 => (ae (cv rfl (ci b0 Tryz.underlying23 _)) (bN nj rfl rfl (mV rfl ?_))))
  refine cq 5 (d := 20) (v := vb ((decide (4 < (x0.Params.length : Int))) || (decide (12 < (x0.Body.length : Int))))) ?_ ?_
  ·intro S Q r
   cases a9 : (decide (4 < (x0.Params.length : Int)))
   ·intro k
    have a6 := a9
    try simp only [qa] at a6
    obtain ⟨b3, b1, a4⟩ := bp.g_Body r0
    refine ah rfl rfl (bw rfl b1) (ah rfl rfl (bv rfl (TR.cnt (tSl ak.t) a4) (TR.agg (tSl ak.t) a4)) (ah rfl rfl (cv rfl (ci a4 Tryz.underlying95 _)) (ah rfl rfl (bq rfl rfl nj) ?_)))
    exact gK rfl rfl rfl rfl rfl k
   ·exact gN 4 rfl rfl rfl rfl rfl rfl
  refine mV rfl (nS ?_)
  refine cg s rfl ?_ ?_ <;> clear s <;> intro a2 s <;> have a3 := a2 <;> try simp only [qa] at a3
  ·refine sR (mI rfl (nS ?_))
   exact rR s rfl rfl rfl
  ·refine az (de (aq (am (sR (gL (bp.g_Params r0) rfl rfl rfl fun b4 a7 => (ae (cv rfl (ci a7 Tryz.underlying23 _)) (mI rfl (nS ?_))))))))
   refine bm ?_
   refine wC (sv r0 a1 a0 a2 a7 ?_  rfl (by omega) (Mem.sub (Mem.nil ⟨0, []⟩) .slnil) s) rfl
   ·intro b5 b6 s
    refine gm (aq (sR (mI rfl (nS ?_))))
    exact rR s rfl rfl rfl

def RF172 (res : Int × Bool) (r : PV) : Prop := r = .tup [vi res.1, vb res.2]
theorem cu1 {x0 : ab} {x1 : aa} {v0 v1 : PV} (r0 : ab.t.R x0 v0) (r1 : aa.t.R x1 v1) : FnR Tryz.prog 172 [v0, v1] (.tup [vi ((rc x0 x1).1), vb ((rc x0 x1).2)]) := by
 refine fnS (R := RF172) bg9 (fun _ h => h) rfl fun res s => ?_
 unfold rc at s
 refine sR (ae (dm rfl (TR.cnt ab.t r0)) (ae (dm rfl (TR.cnt aa.t r1)) (mI rfl (mB rfl (nR (gL (ab.g_Metadata r0) rfl rfl rfl fun b9 b0 => (mV rfl (nS ?_))))))))
 refine am (sR (fL rfl (aa.g_Header r1) rfl rfl (bN (mi (b := -1)) rfl rfl (nS ?_))))
 obtain ⟨b4, a7, s⟩ := bt s
 refine qc (F := fun b S Q => ∀ (a0 : List ax) (a2 : PV) (a1 : (tSl ax.t).R a0 a2), b4 a0 = res → RC Tryz.prog b S Q [(6, a2), (3, .fp v1)] ⟨0, []⟩) ?_ ?_
 ·intro a0 a2 a1  s
  rw [← a7] at s
  refine am (sR (fL rfl (aa.g_Field r1) rfl rfl (bN cw rfl rfl (mV rfl ?_))))
  refine cq 6 (d := 39) (v := vb ((decide (x1.Field < 0)) || (decide ((a0.length : Int) ≤ x1.Field)))) ?_ ?_
  ·intro S Q r
   cases a6 : (decide (x1.Field < 0))
   ·intro k
    have a5 := a6
    try simp only [qa] at a5
    refine ah rfl rfl (bw rfl (aa.g_Field r1)) (ah rfl rfl (bv rfl rfl rfl) (ah rfl rfl (av rfl) (ah rfl rfl (cv rfl (ci a1 Tryz.underlying23 _)) (ah rfl rfl (bq rfl rfl mo) ?_))))
    exact gK rfl rfl rfl rfl rfl k
   ·exact gN 5 rfl rfl rfl rfl rfl rfl
  refine nS ?_
  refine cg s rfl ?_ ?_ <;> clear s <;> intro c s <;> try simp only [qa] at c
  ·refine sR (mI rfl (mB rfl (nS ?_)))
   exact rT s rfl rfl rfl rfl rfl
  ·refine az (aq (sR (mV rfl (fL rfl (aa.g_Field r1) rfl rfl ?_))))
   obtain ⟨b8, b6, b1⟩ := dq (i := x1.Field) a1 (by omega) (by omega)
   refine ae (bg rfl rfl b6) (fL rfl (ax.g_Width b1) rfl rfl (mV rfl (mB rfl (nS ?_))))
   exact rT s rfl rfl rfl rfl rfl
 ·intro J
  refine cg s rfl ?_ ?_ <;> clear s <;> intro c s <;> try simp only [qa] at c
  ·refine am (sR (fL rfl (aa.g_Header r1) rfl rfl (bN cw rfl rfl (mV rfl ?_))))
   refine cq 7 (d := 22) (v := vb ((decide (x1.Header < 0)) || (decide ((x0.Headers.length : Int) ≤ x1.Header)))) ?_ ?_
   ·intro S Q r
    cases a8 : (decide (x1.Header < 0))
    ·intro k
     have a4 := a8
     try simp only [qa] at a4
     refine ah rfl rfl (bw rfl (aa.g_Header r1)) (ah rfl rfl (bv rfl rfl rfl) ?_)
     obtain ⟨c1, b3, a3⟩ := ab.g_Headers r0
     refine ah rfl rfl (bw rfl b3) (ah rfl rfl (bv rfl (TR.cnt (tSl cj.t) a3) (TR.agg (tSl cj.t) a3)) (ah rfl rfl (cv rfl (ci a3 Tryz.underlying22 _)) (ah rfl rfl (bq rfl rfl mo) ?_)))
     exact gK rfl rfl rfl rfl rfl k
    ·exact gN 6 rfl rfl rfl rfl rfl rfl
   refine nS ?_
   refine cg s rfl ?_ ?_ <;> clear s <;> intro c s <;> try simp only [qa] at c
   ·refine sR (mI rfl (mB rfl (nS ?_)))
    exact rT s rfl rfl rfl rfl rfl
   ·refine az (aq (ay (gL (ab.g_Headers r0) rfl rfl rfl fun c3 b5 => (fL rfl (aa.g_Header r1) rfl rfl ?_))))
    obtain ⟨c2, a9, b2⟩ := dq (i := x1.Header) b5 (by omega) (by omega)
    refine ae (bg rfl rfl a9) (gL (cj.g_Fields b2) rfl rfl rfl fun c0 b7 => (mV rfl (br ?_)))
    refine aq (wC (J _ _ b7  s) rfl)
  ·refine az ?_
   refine aq (wC (J _ _ b0  s) rfl)

end Go.Proofs.YtmonnlkagniolaaGreat
