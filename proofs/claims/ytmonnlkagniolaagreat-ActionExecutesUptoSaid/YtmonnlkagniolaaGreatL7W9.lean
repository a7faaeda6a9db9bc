/-
 The code of each function does what its plain program says.
-/
import Derived.Test.YtmonnlkagniolaaGreatL7W8
set_option linter.unusedVariables false
set_option linter.unusedSimpArgs false
set_option maxRecDepth 100000
namespace Go.Proofs.YtmonnlkagniolaaGreat
open Go Go.Pb Go.RowKit
def RF86 (res : (BitVec 32)) (r : PV) : Prop := r = bd res
theorem br7 {x0 : List aa} {x1 : aj} {x2 : ai} {x3 : List (BitVec 32)} {v0 v1 v2 v3 : PV} (r0 : (tSl aa.t).R x0 v0) (r1 : aj.t.R x1 v1) (r2 : ai.t.R x2 v2) (r3 : (tSl dg).R x3 v3) : FnR Tryz.prog 86 [v0, v1, v2, v3] (bd (rj x0 x1 x2 x3)) := by
 refine fnS (R := RF86) dp0 (fun _ h => h) rfl fun res s => ?_
 unfold rj at s
 refine sR (ae (cz rfl (TR.cnt aj.t r1)) (ae (cz rfl (TR.cnt ai.t r2)) (ae (v := bd 0#32) (ax rfl) (nR (mV rfl (lD r1 rfl rfl rfl ?_))))))
 obtain ⟨a6, a0, s⟩ := bn s
 have a3 := ac9  r0 r1 
 rw [a0] at a3
 refine cL a3 rfl rfl (ab (TR.clo (tSl aa.t) r0) (ab (TR.clo aj.t r1) ay)) (mV rfl (xT rfl rfl (xT rfl rfl (mV rfl (mV rfl (nS (au (sR ?_))))))))
 refine mV rfl (bN kg rfl rfl (nS ?_))
 refine bt s rfl ?_ ?_ <;> clear s <;> intro c s <;> try simp only [qa] at c
 ·refine sR (ae (v := bd 0#32) (ax rfl) (nS ?_))
  exact rR s rfl rfl rfl
 ·refine ba (aq (sR (mV rfl (lD r1 rfl rfl rfl (lD r2 rfl rfl rfl (mV rfl ?_))))))
  obtain ⟨a7, a2, s⟩ := bn s
  obtain ⟨a5, a4, a1⟩ := cl7 (x1 := 0) r0 r1 r2 r3 (by exact cy2 (by assumption) (by assumption))
  rw [a2] at a1
  refine cL a4 rfl rfl (ab (TR.clo (tSl aa.t) r0) (ab rfl (ab (TR.clo aj.t r1) (ab (TR.clo ai.t r2) (ab (TR.clo (tSl dg) r3) ay))))) (ae (yy rfl (az.g_V a1)) (mV rfl (nS ?_)))
  exact rR s rfl rfl rfl

def RF84 (res : Int) (r : PV) : Prop := r = vi res
theorem dg0 {x0 : af} {x1 : ak} {v0 v1 : PV} (r0 : af.t.R x0 v0) (r1 : ak.t.R x1 v1) : FnR Tryz.prog 84 [v0, v1] (vi (fa x0 x1)) := by
 refine fnS (R := RF84) dn0 (fun _ h => h) rfl fun res s => ?_
 unfold fa at s
 refine sR (ae (cz rfl (TR.cnt af.t r0)) (ae (cz rfl (TR.cnt ak.t r1)) (mI rfl (nR (gL (af.g_Metadata r0) rfl rfl rfl fun d5 b9 => (mV rfl (nS (au ?_))))))))
 refine sR (fL rfl (ak.g_Header r1) rfl rfl (bN ja rfl rfl (nS ?_)))
 obtain ⟨b2, b0, s⟩ := bn s
 refine pp (F := fun b S Q => ∀ (a0 : List aw) (a2 : PV) (a1 : (tSl aw.t).R a0 a2), b2 a0 = res → RC Tryz.prog b S Q [(5, a2), (3, .fp v1)] ⟨0, []⟩) ?_ ?_
 ·intro a0 a2 a1  s
  rw [← b0] at s
  refine au (sR (fL rfl (ak.g_Header r1) rfl rfl (bN (ct (b := -1)) rfl rfl (mV rfl ?_))))
  refine bw 4 (d := 31) (v := vb ((decide (x1.Header < (-1))) || (decide (x1.Field < 0)))) ?_ ?_
  ·intro S Q r
   cases b1 : (decide (x1.Header < (-1)))
   ·intro k
    have a6 := b1
    try simp only [qa] at a6
    refine ah rfl rfl (br rfl (ak.g_Field r1)) (ah rfl rfl (bq rfl rfl rfl) (ah rfl rfl (bp rfl rfl ct) ?_))
    exact gK rfl rfl rfl rfl rfl k
   ·exact gN 3 rfl rfl rfl rfl rfl rfl
  refine mV rfl ?_
  refine bw 6 (d := 38) (v := vb (((decide (x1.Header < (-1))) || (decide (x1.Field < 0))) || (decide ((a0.length : Int) ≤ x1.Field)))) ?_ ?_
  ·intro S Q r
   cases a7 : ((decide (x1.Header < (-1))) || (decide (x1.Field < 0)))
   ·intro k
    have a4 := a7
    try simp only [qa] at a4
    refine ah rfl rfl (br rfl (ak.g_Field r1)) (ah rfl rfl (bq rfl rfl rfl) (ah rfl rfl (ax rfl) (ah rfl rfl (cy rfl (co a1 Tryz.underlying23 _)) (ah rfl rfl (bp rfl rfl ja) ?_))))
    exact gK rfl rfl rfl rfl rfl k
   ·exact gN 5 rfl rfl rfl rfl rfl rfl
  refine mV rfl ?_
  refine bw 8 (d := 47) (v := vb ((((decide (x1.Header < (-1))) || (decide (x1.Field < 0))) || (decide ((a0.length : Int) ≤ x1.Field))) || (decide (((ix a0 x1.Field).Width) < 1)))) ?_ ?_
  ·intro S Q r
   cases a8 : (((decide (x1.Header < (-1))) || (decide (x1.Field < 0))) || (decide ((a0.length : Int) ≤ x1.Field)))
   ·intro k
    have a5 := a8
    try simp only [qa] at a5
    refine ah rfl rfl (ax rfl) (ah rfl rfl (br rfl (ak.g_Field r1)) (ah rfl rfl (bq rfl rfl rfl) ?_))
    obtain ⟨d1, c5, b6⟩ := cr (i := x1.Field) a1 (by omega) (by omega)
    refine ah rfl rfl (bh rfl rfl c5) (ah rfl rfl (br rfl (aw.g_Width b6)) (ah rfl rfl (bq rfl rfl rfl) (ah rfl rfl (bp rfl rfl ct) ?_)))
    exact gK rfl rfl rfl rfl rfl k
   ·exact gN 7 rfl rfl rfl rfl rfl rfl
  refine mV rfl ?_
  refine bw 8 (d := 56) (v := vb (((((decide (x1.Header < (-1))) || (decide (x1.Field < 0))) || (decide ((a0.length : Int) ≤ x1.Field))) || (decide (((ix a0 x1.Field).Width) < 1))) || (decide (32 < ((ix a0 x1.Field).Width))))) ?_ ?_
  ·intro S Q r
   cases a9 : ((((decide (x1.Header < (-1))) || (decide (x1.Field < 0))) || (decide ((a0.length : Int) ≤ x1.Field))) || (decide (((ix a0 x1.Field).Width) < 1)))
   ·intro k
    have a3 := a9
    try simp only [qa] at a3
    refine ah rfl rfl (ax rfl) (ah rfl rfl (br rfl (ak.g_Field r1)) (ah rfl rfl (bq rfl rfl rfl) ?_))
    obtain ⟨d2, c7, c6⟩ := cr (i := x1.Field) a1 (by omega) (by omega)
    refine ah rfl rfl (bh rfl rfl c7) (ah rfl rfl (br rfl (aw.g_Width c6)) (ah rfl rfl (bq rfl rfl rfl) (ah rfl rfl (bp rfl rfl ki) ?_)))
    exact gK rfl rfl rfl rfl rfl k
   ·exact gN 7 rfl rfl rfl rfl rfl rfl
  refine nS ?_
  refine bt s rfl ?_ ?_ <;> clear s <;> intro c s <;> try simp only [qa] at c
  ·refine sR (mI rfl (nS ?_))
   exact rR s rfl rfl rfl
  ·refine ba (aq (sR (mV rfl (fL rfl (ak.g_Field r1) rfl rfl ?_))))
   obtain ⟨d3, b5, b3⟩ := cr (i := x1.Field) a1 (by omega) (by omega)
   refine ae (bh rfl rfl b5) (fL rfl (aw.g_Width b3) rfl rfl (mV rfl (nS ?_)))
   exact rR s rfl rfl rfl
 ·intro J
  refine bt s rfl ?_ ?_ <;> clear s <;> intro c s <;> try simp only [qa] at c
  ·refine au (sR (fL rfl (ak.g_Header r1) rfl rfl (gL (af.g_Headers r0) rfl rfl rfl fun d0 b7 => (ae (cy rfl (co b7 Tryz.underlying22 _)) (bN ja rfl rfl (nS ?_))))))
   refine bt s rfl ?_ ?_ <;> clear s <;> intro c s <;> try simp only [qa] at c
   ·refine sR (mI rfl (nS ?_))
    exact rR s rfl rfl rfl
   ·refine ba (aq (bb (gL (af.g_Headers r0) rfl rfl rfl fun c8 b4 => (fL rfl (ak.g_Header r1) rfl rfl ?_))))
    obtain ⟨c9, b8, c1⟩ := cr (i := x1.Header) b4 (by omega) (by omega)
    refine ae (bh rfl rfl b8) (gL (cm.g_Fields c1) rfl rfl rfl fun d4 c4 => (mV rfl (cf ?_)))
    refine aq (wC (J _ _ c4  s) rfl)
  ·refine ba ?_
   refine aq (wC (J _ _ b9  s) rfl)

theorem bz2 {S : List Fr} {Q : Post} {x0 : ai} {c0 c1 c2 c3 : PV} (q1 : (tSl (tSl dg)).R x0.Fields c1) (hE : EB x0) {a : PV} {e1 : List PV} {i2 w2 i3 w3 : Nat} {R_ : List Ent} (na : isL a = true)
  (K : ∀ {h : Heap} {zv : PV} {ze : List PV} {I : List Ent}, Ns dg 89 x0.Fields ze I → isL zv = true → Wri zv ze → Mem h (⟨.op i3 w3 0, 46, 4, [.agg [a, zv, nilS, nilS]]⟩ :: ⟨zv, 43, 1, ze⟩ :: ⟨a, 4, 1, e1⟩ :: ⟨.op i2 w2 0, 46, 4, [.agg [nilS, nilS, nilS, nilS]]⟩ :: (I ++ R_)) → PX Tryz.prog 0 S Q [(3, .op i3 w3 0), (2, .op i2 w2 0), (1, .fp (.agg [c0, c1, c2, c3]))] h) :
  ∀ (m : Nat) {i : Int} {zv : PV} {ze : List PV} {I : List Ent} {h : Heap}, m = Int.toNat ((x0.Fields.length : Int) - i) → 0 ≤ i → i ≤ x0.Fields.length → Ns dg 89 (x0.Fields.take i.toNat) ze I → isL zv = true → Wri zv ze →
   Mem h (⟨.op i3 w3 0, 46, 4, [.agg [a, zv, nilS, nilS]]⟩ :: ⟨zv, 43, 1, ze⟩ :: ⟨a, 4, 1, e1⟩ :: ⟨.op i2 w2 0, 46, 4, [.agg [nilS, nilS, nilS, nilS]]⟩ :: (I ++ R_)) →
   RC Tryz.prog (.loop ce1) S Q [(4, vi i), (3, .op i3 w3 0), (2, .op i2 w2 0), (1, .fp (.agg [c0, c1, c2, c3]))] h
 | 0, i, zv, ze, I, h, hm, h0, h1, hn, nz, wz, M => by
  refine de ?_
  refine au (au (bb (mV rfl (ae (br rfl (mk1 (TR.agg _ q1))) (ae (bq rfl (TR.cnt _ q1) (TR.agg _ q1)) (ae (cy rfl (co q1 Tryz.underlying42 _)) (ae (bp rfl rfl ct) (cf (aq (cw rfl (fun hc => ?_) fun hc => ?_))))))))))
  ·simp only [decide_eq_true_eq] at hc; omega
  ·have e : i = x0.Fields.length := by omega
   subst e
   rw [Int.toNat_natCast, List.take_length] at hn
   exact fc (gh (dy (wP (K hn nz wz M) rfl)))
 | m + 1, i, zv, ze, I, h, hm, h0, h1, hn, nz, wz, M => by
  have hlt : i < (x0.Fields.length : Int) := by omega
  refine de ?_
  refine au (au (bb (mV rfl (ae (br rfl (mk1 (TR.agg _ q1))) (ae (bq rfl (TR.cnt _ q1) (TR.agg _ q1)) (ae (cy rfl (co q1 Tryz.underlying42 _)) (ae (bp rfl rfl ct) (cf (aq (cw rfl (fun hc => ?_) fun hc => ?_))))))))))
  ·refine ba (aq (au (cb ?_)))
   obtain ⟨g0, e0, q0⟩ := cr (i := i) q1 h0 hlt
   have hb := ol hE.i h0 hlt
   refine ya ?_
   refine rm_q (bv rfl) (rm_q (cq (k := 0) M rfl rfl (mk1 (gx (k := 1) M rfl nz).2)) (rm_q (ko rfl oa) ?_))
   refine rm_q (br rfl (mk1 (TR.agg _ q1))) (rm_q (bq rfl (TR.cnt _ q1) (TR.agg _ q1)) (rm_q (ax rfl) (rm_q (bh rfl rfl e0) (rm_q (bq rfl (TR.cnt _ q0) (TR.agg _ q0)) ?_))))
   obtain ⟨es, sr, A1⟩ := qr (t := dg) (h := h) q0
   have hle := A1.length
   refine cr7 M rfl (.inl rfl) rfl sr (li (by omega) (by show es.length * 4 ≤ _; omega)) (fun g a0 ng wg M1 => ?_)
   refine rm_q (ko rfl (all_cons (pv (k := 0) M1 rfl ng) oa)) ?_
   refine bg0 (k := 2) (es := ze) (news := [g]) M1 rfl rfl rfl nz wz (ap8 (.inr ⟨true, rfl⟩) (fun y hy => by rw [List.mem_singleton.1 hy]; exact pv (k := 0) M1 rfl ng)) (by have hl := hn.len.1; have hf := hE.f; simp only [List.length_take] at hl; exact li (by simp only [List.length_cons, List.length_nil]; omega) (by simp only [List.length_cons, List.length_nil]; omega)) (fun z' a2 nz' wz' M2 => ?_)
   refine rm_q (bv rfl) ?_
   refine al5 (k := 1) (v := z') M2 rfl rfl rfl (gx (k := 2) M2 rfl nz').1 rfl (by simp) (fun a1 M3 => ?_)
   refine ba4 (dj (aq ?_))
   refine bb (mV rfl (ae (bp rfl rfl fy) (mV rfl (cf (du ?_)))))
   have M4 := Mem.perm (L := ⟨g, 89, 1, es⟩ :: ([⟨.op i3 w3 0, 46, 4, [.agg [a, z', nilS, nilS]]⟩, ⟨z', 43, 1, ze ++ [g]⟩, ⟨a, 4, 1, e1⟩, ⟨.op i2 w2 0, 46, 4, [.agg [nilS, nilS, nilS, nilS]]⟩] ++ (I ++ R_))) M3 ah0
   have u : wr (i + 1) = i + 1 := ek (by omega) (by have := hE.f; omega)
   refine xa ?_ (bz2 q1 hE na K m (i := i + 1) (zv := z') (ze := ze ++ [g]) (I := I ++ [(⟨g, 89, 1, es⟩ : Ent)]) (by omega) (by omega) (by omega) ?_ nz' wz' M4)
   ·exact ul (by show some (vi (wr (i + 1))) = _; rw [u]) (sB rfl)
   ·have e : x0.Fields.take (i + 1).toNat = x0.Fields.take i.toNat ++ [ix x0.Fields i] := by
     rw [vw h0 hlt, show (i + 1).toNat = i.toNat + 1 by omega, List.take_succ_eq_append_getElem]
    rw [e]
    exact hn.app1 ⟨rfl, rfl, rfl, A1, ng, by omega, wg⟩
  ·simp only [decide_eq_false_iff_not] at hc; omega
theorem ah8 {x0 : ai} {v0 : PV} {R_ : List Ent} {h_ : Heap} (r0 : ai.t.R x0 v0) (hE : EB x0) (M_ : Mem h_ R_) : ∃ r k, FnX Tryz.prog 158 [v0] h_ r k ∧ CQ x0 R_ r k := by
 refine fnX cu0 (by simp) ?_
 obtain ⟨c0, c1, c2, c3, rfl, q0, q1, q2, q3⟩ := r0
 refine au (bb (ae (cz rfl rfl) ?_))
 refine di (x := .agg [nilS, nilS, nilS, nilS]) M_ rfl rfl (fun i2 w2 h2 M2 => cf (aq ?_))
 refine au (bb (di (x := .agg [nilS, nilS, nilS, nilS]) M2 rfl rfl (fun i3 w3 h3 M3 => cf (aq ?_))))
 refine au (bb ?_)
 refine ae (bv rfl) (ae (cq (k := 0) M3 rfl rfl rfl) (ae (br rfl (mk1 (TR.agg _ q0))) (ae (bq rfl (TR.cnt _ q0) (TR.agg _ q0)) ?_)))
 obtain ⟨e1, s1, A1⟩ := qr (t := tB) (h := h3) q0
 have M4 := mm (sz := 1) (es := []) M3 4 (.inl ⟨none, rfl, rfl⟩) (by simp)
 refine pe (k := 0) (es := []) M4 rfl rfl rfl rfl (.inl rfl) s1 (by have := A1.length; have := hE.v; exact li (by simp only [List.length_nil]; omega) (by simp only [List.length_nil]; omega)) (fun a h4 na wa M5 => ?_)
 refine ae (bv rfl) ?_
 refine mg (k := 1) (v := a) M5 rfl rfl rfl (gx (k := 0) M5 rfl na).1 rfl (by simp) (fun h5 M6 => ?_)
 replace M6 : Mem h5 (⟨a, 4, 1, e1⟩ :: ⟨.op i3 w3 0, 46, 4, [.agg [a, nilS, nilS, nilS]]⟩ :: ⟨.op i2 w2 0, 46, 4, [.agg [nilS, nilS, nilS, nilS]]⟩ :: R_) := M6
 replace wa : Wri a e1 := wa
 refine cf (aq (au (au (bb (mV rfl (cf (aq (cb ?_))))))))
 have M8 := mm (sz := 1) (es := []) M6 43 (.inl ⟨none, rfl, rfl⟩) (by simp)
 refine wC (bz2 (x0 := x0) (c0 := c0) (c2 := c2) (c3 := c3) q1 hE na ?_ x0.Fields.length (i := 0) (zv := nilS) (ze := []) (I := []) (h := h5) (by omega) (by omega) (by omega) trivial rfl (.inl rfl) (Mem.front (k := 2) M8 rfl)) rfl
 ·intro h zv ze I hn nz wz M
  refine gy (aq ?_)
  refine au (bb ?_)
  refine ae (bv rfl) (ae (cq (k := 0) M rfl rfl rfl) (ae (br rfl (mk1 (TR.agg _ q2))) (ae (bq rfl (TR.cnt _ q2) (TR.agg _ q2)) ?_)))
  obtain ⟨e2, s2, A2⟩ := qr (t := dg) (h := h) q2
  have N1 := mm (sz := 1) (es := []) M 89 (.inl ⟨none, rfl, rfl⟩) (by simp)
  refine pe (k := 0) (es := []) N1 rfl rfl rfl rfl (.inl rfl) s2 (by have := A2.length; have := hE.m; exact li (by simp only [List.length_nil]; omega) (by simp only [List.length_nil]; omega)) (fun c h6 nc wc N2 => ?_)
  refine ae (bv rfl) ?_
  refine mg (k := 1) (v := c) N2 rfl rfl rfl (gx (k := 0) N2 rfl nc).1 rfl (by simp) (fun h7 N3 => ?_)
  replace N3 : Mem h7 (⟨c, 89, 1, e2⟩ :: ⟨.op i3 w3 0, 46, 4, [.agg [a, zv, c, nilS]]⟩ :: ⟨zv, 43, 1, ze⟩ :: ⟨a, 4, 1, e1⟩ :: ⟨.op i2 w2 0, 46, 4, [.agg [nilS, nilS, nilS, nilS]]⟩ :: (I ++ R_)) := N3
  replace wc : Wri c e2 := wc
  refine cf (aq (au (bb ?_)))
  refine ae (bv rfl) (ae (cq (k := 1) N3 rfl rfl rfl) (ae (br rfl (mk1 (TR.agg _ q3))) (ae (bq rfl (TR.cnt _ q3) (TR.agg _ q3)) ?_)))
  obtain ⟨e3, s3, A3⟩ := qr (t := tU8) (h := h7) q3
  have N4 := mm (sz := 1) (es := []) N3 5 (.inl ⟨none, rfl, rfl⟩) (by simp)
  refine pe (k := 0) (es := []) N4 rfl rfl rfl rfl (.inl rfl) s3 (by have := A3.length; have := hE.p; exact li (by simp only [List.length_nil]; omega) (by simp only [List.length_nil]; omega)) (fun d h8 nd wd N5 => ?_)
  refine ae (bv rfl) ?_
  refine mg (k := 2) (v := d) N5 rfl rfl rfl (gx (k := 0) N5 rfl nd).1 rfl (by simp) (fun h9 N6 => ?_)
  replace N6 : Mem h9 (⟨d, 5, 1, e3⟩ :: ⟨c, 89, 1, e2⟩ :: ⟨.op i3 w3 0, 46, 4, [.agg [a, zv, c, d]]⟩ :: ⟨zv, 43, 1, ze⟩ :: ⟨a, 4, 1, e1⟩ :: ⟨.op i2 w2 0, 46, 4, [.agg [nilS, nilS, nilS, nilS]]⟩ :: (I ++ R_)) := N6
  refine cf (aq (au (bb ?_)))
  refine ae (fq (k := 2) N6 rfl rfl rfl) ?_
  refine ci (k := 5) (v := .agg [a, zv, c, d]) N6 rfl rfl rfl rfl (fun h' M' => ?_)
  refine cf (aq ?_)
  refine kj (.cell rfl (cv (k := 5) M' rfl rfl) .nil) ⟨a, zv, c, d, _, _, _, _, I, rfl, ?_, A1, hn, A2, A3, na, nz, nc, nd, wa, wz, wc⟩
  exact Mem.front (k := 3) (Mem.front (k := 2) (Mem.front (k := 1) (Mem.sub M' (.cons_cons _ (.cons_cons _ (.cons _ (.cons_cons _ (.cons_cons _ (.cons _ (List.Sublist.refl _)))))))) rfl) rfl) rfl
theorem be1 {x0 : ai} {v0 : PV} (r0 : ai.t.R x0 v0) (hE : EB x0) : ∃ r, FnR Tryz.prog 158 [v0] r ∧ ai.t.R (rv x0) r := by
 obtain ⟨r, k, X, a, b, c, d, eb, ef, em, ep, I, rfl, H⟩ := ah8 r0 hE (Mem.nil ⟨0, []⟩)
 obtain ⟨d', hd, hr⟩ := H.deep hE
 exact ⟨d', FnR.of_X X hd, hr⟩

def RF159 (res : (BitVec 32)) (r : PV) : Prop := r = bd res
theorem yh {S : List Fr} {res : (BitVec 32)} {x0 : BitVec 32} {x1 : Int} (hq : x1 ≤ 32) {K0 : (BitVec 64) → (BitVec 32)}
  (a5 : ∀ {a0 : BitVec 64} (a6 : a0 ≠ 0#64), K0 a0 = res → PX Tryz.prog 0 S (QR Tryz.prog [(4, none)] (RF159 res)) [(0, bd x0), (5, jl a0)] ⟨0, []⟩) :
  ∀ {m : Nat} {a0 : BitVec 64} {a1 : Int} (a4 : m = Int.toNat (x1 - a1)) (a3 : 0 ≤ a1) (a2 : PW a0 a1), kf K0 m a0 a1 = res → RC Tryz.prog (.loop bt0) S (QR Tryz.prog [(4, none)] (RF159 res)) [(6, vi a1), (5, jl a0), (1, vi x1), (0, bd x0)] ⟨0, []⟩ := by
 intro m
 induction m with
 | zero =>
  intro a0 a1 a4 a3 a2 s
  rw [kf] at s
  refine de (au (sR (mV rfl (mV rfl (bN ct rfl rfl (nS ?_))))))
  refine cw rfl ?_ ?_ <;> intro c <;> try simp only [qa] at c
  ·omega
  refine fc (gh (dy ?_))
  exact wP (a5 (by exact PW.nz (by assumption)) s) rfl
 | succ m ih =>
  intro a0 a1 a4 a3 a2 s
  rw [kf] at s
  refine de (au (sR (mV rfl (mV rfl (bN ct rfl rfl (nS ?_))))))
  refine cw rfl ?_ ?_ <;> intro c <;> try simp only [qa] at c
  rotate_left
  ·omega
  refine ba (aq (au (cb (bb (mV rfl (ae (bp (a := jl 2#64) (b := jl a0) rfl rfl av0) (mV rfl (cf ?_))))))))
  refine dj (aq (bb (mV rfl (bN fy rfl rfl (mV rfl (cf (du ?_)))))))
  have u : wr (a1 + 1) = a1 + 1 := ek (by omega) (by omega)
  erw [u]
  exact wC (ih   (by omega) (by omega) (by exact pw1 (by assumption) (by omega)) s) rfl

theorem be2 {x0 : BitVec 32} {x1 : Int} (hq : x1 ≤ 32) : FnR Tryz.prog 159 [bd x0, vi x1] (bd (gz x0 x1)) := by
 refine fnS (R := RF159) cz4 (fun _ h => h) rfl fun res s => ?_
 unfold gz at s
 refine sR (ae (v := bd 0#32) (ax rfl) (nR (ae (v := jl 1#64) (ax rfl) (nS (au (sR (mI rfl (nS ?_))))))))
 refine cb ?_
 refine wC (yh hq ?_  rfl (by omega) (by exact pw0) s) rfl
 ·intro a0 a1 s
  refine gy (aq (sR (mV rfl (ae (gi (a := bd x0) rfl (c_wd Tryz.underlying89 Tryz.underlying201)) (mV rfl (ae (bp (a := jl (BitVec.setWidth 64 x0)) (b := jl a0) rfl rfl (ca7 (by assumption))) (ae (gi (a := jl ((BitVec.setWidth 64 x0) % a0)) rfl (c_dw Tryz.underlying201 Tryz.underlying89)) (mV rfl ?_))))))))
  refine nS ?_
  exact rR s rfl rfl rfl

theorem cb0 {x0 : af} {x1 : ai} {x2 : ak} {x3 : BitVec 32} {v0 v1 v2 : PV} (r0 : af.t.R x0 v0) (r1 : ai.t.R x1 v1) (r2 : ak.t.R x2 v2) (hE : EB x1) : ∃ r, FnR Tryz.prog 87 [v0, v1, v2, bd x3] r ∧ ai.t.R (nh x0 x1 x2 x3) r := by
 refine fnE de9 (by simp) ?_
 refine au (bb ?_)
 refine ae (cz rfl (TR.cnt af.t r0)) (ae (cz rfl (TR.cnt ai.t r1)) (ae (cz rfl (TR.cnt ak.t r2)) ?_))
 refine di (x := .agg [nilS, nilS, nilS, nilS]) (Mem.nil _) rfl rfl (fun i8 w8 h8 M8 => ?_)
 refine cf (aq (au (gc ?_)))
 refine db (ae (bq rfl (TR.cnt ai.t r1) (TR.agg ai.t r1)) (da ?_))
 obtain ⟨rr, k, X, a, b, c, d, eb, ef, em, ep, I, rfl, H⟩ := ah8 r1 hE M8
 refine iw rfl rfl X ?_
 refine db (di (x := .agg [nilS, nilS, nilS, nilS]) H.M rfl rfl (fun i9 w9 h9 M9 => da ?_))
 refine db (ci (k := 0) (v := .agg [a, b, c, d]) M9 rfl rfl rfl rfl (fun a4 a2 => da (mc ?_)))
 replace H := H.push (g := ⟨.op i9 w9 0, 46, 4, [.agg [a, b, c, d]]⟩) a2
 clear M8 M9 a2 X
 have a0 : fa x0 x2 ≤ 32 := dz3 rfl
 refine aq (au (bb ?_))
 refine lD r0 rfl rfl rfl (lD r2 rfl rfl rfl ?_)
 refine cL (dg0 r0 r2) rfl rfl (ab (TR.clo _ r0) (ab (TR.clo _ r2) ay)) (mV rfl ?_)
 refine cf (aq (au (au (bb ?_))))
 refine mV rfl (ae (bp rfl rfl dn) (mV rfl ?_))
 refine bw 5 (d := 23) (v := vb (decide (fa x0 x2 = 0) || !gb x1 x2)) ?_ ?_
 ·intro S Q r
  cases hb : decide (fa x0 x2 = 0)
  ·intro k
   refine ah rfl rfl (bq rfl (TR.cnt ai.t r1) (TR.agg ai.t r1)) (ah rfl rfl (bq rfl (TR.cnt ak.t r2) (TR.agg ak.t r2)) ?_)
   refine jm rfl rfl (qq rfl rfl (ab (TR.clo _ r1) (ab (TR.clo _ r2) ay)) (bl4 r1 r2)) (ah rfl rfl (gv rfl) ?_)
   exact gK rfl rfl rfl rfl rfl k
  ·exact gN 4 rfl rfl rfl rfl rfl rfl
 refine mV rfl ?_
 refine bw 11 (d := 35) (v := vb ((decide (fa x0 x2 = 0) || !gb x1 x2) || (!decide (x2.Header = -1) && !pf x1 x2.Header))) ?_ ?_
 ·intro S Q r
  cases a5 : (decide (fa x0 x2 = 0) || !gb x1 x2)
  ·intro k
   refine ah rfl rfl (br rfl (ak.g_Header r2)) (ah rfl rfl (bq rfl rfl rfl) (ah (v := vb (!decide (x2.Header = -1))) rfl rfl (bp rfl rfl kg) (ah rfl rfl (ax rfl) ?_)))
   revert k
   cases hh : decide (x2.Header = -1) <;> intro k
   ·refine ah rfl rfl (bq rfl (TR.cnt ai.t r1) (TR.agg ai.t r1)) (ah rfl rfl (br rfl (ak.g_Header r2)) (ah rfl rfl (bq rfl rfl rfl) ?_))
    refine jm rfl rfl (qq rfl rfl (ab (TR.clo _ r1) (ab rfl ay)) (bs3 (x1 := x2.Header) r1)) (ah rfl rfl (gv rfl) (ah rfl rfl (ob rfl rfl rfl rfl) ?_))
    exact gK rfl rfl rfl rfl rfl k
   ·refine skips 5 rfl (ah rfl rfl (ob rfl rfl rfl rfl) ?_)
    exact gK rfl rfl rfl rfl rfl k
  ·exact gN 10 rfl rfl rfl rfl rfl rfl
 refine cf (aq (cw rfl (fun hc => ?_) fun hc => ?_))
 ·have hs : nh x0 x1 x2 x3 = x1 := by unfold nh; rw [if_pos hc]
  rw [hs]
  exact qj H hE rfl rfl rfl
 ·have hs : nh x0 x1 x2 x3 = putF x1 x2 (gz x3 (fa x0 x2)) := by unfold nh; rw [if_neg (by rw [hc]; simp)]
  rw [hs]
  have hel : gb x1 x2 = true := by
   simp only [Bool.or_eq_false_iff, Bool.not_eq_false'] at hc
   exact hc.1.2
  have g2 : fieldR 2 1 false (.agg [a, b, c, d]) = some c := mk1 (gx H.M (k := 2) rfl H.nc).2
  have g1 : fieldR 1 1 false (.agg [a, b, c, d]) = some b := mk1 (gx H.M (k := 1) rfl H.nb).2
  have Mp := H.pull
  refine ba (aq (au (au (bb (fL rfl (ak.g_Header r2) rfl rfl (ae (v := vb (decide (x2.Header = -1))) (bp rfl rfl dn) (cf (aq (cw rfl (fun hm => ?_) fun hm => ?_)))))))))
  ·simp only [decide_eq_true_eq] at hm
   have hi := cd0 rfl hel hm
   have e3 : putF x1 x2 (gz x3 (fa x0 x2)) = { x1 with Metd := x1.Metd.set x2.Field.toNat (gz x3 (fa x0 x2)) } := by unfold putF; rw [if_pos hm]
   rw [e3]
   obtain ⟨id, ver, n, rfl⟩ := ut H.wc H.m hi.1 hi.2
   have hn := oi H.M (k := 2) rfl
   have hl := H.m.length
   refine bb (ae (bv rfl) (ae (cq (k := 0) Mp rfl rfl g2) (fL rfl (ak.g_Field r2) rfl rfl (mV rfl (mV rfl ?_)))))
   refine cL (be2 (x0 := x3) (x1 := fa x0 x2) a0) rfl rfl (ab rfl (ab rfl ay)) (ae (bh rfl rfl (qs 1 (i := x2.Field) hi.1 (by omega))) ?_)
   exact rq (k := 2) (i := x2.Field.toNat) H.M rfl rfl rfl (by omega) rfl (fun h' M' => cf (aq (qj (H.setM M' ⟨_, _, _, rfl⟩) hE.setM rfl rfl rfl)))
  ·simp only [decide_eq_false_iff_not] at hm
   obtain ⟨⟨hr, a1⟩, a3⟩ := av5 rfl hel hm
   have hlen := H.f.len.1
   obtain ⟨v, es, e1, e2, e3, e4, e5, e6, e7⟩ := H.inner hr.1 hr.2
   have e8 : putF x1 x2 (gz x3 (fa x0 x2)) = { x1 with Fields := x1.Fields.set x2.Header.toNat ((ix x1.Fields x2.Header).set x2.Field.toNat (gz x3 (fa x0 x2))) } := by unfold putF; rw [if_neg hm]
   rw [e8]
   obtain ⟨ib, vb', nb, rfl⟩ := ae7 H.wb (by omega)
   have hnb := oi H.M (k := 1) rfl
   refine bb (ae (bv rfl) (ae (cq (k := 0) Mp rfl rfl g1) (fL rfl (ak.g_Header r2) rfl rfl ?_)))
   refine ae (bh rfl rfl (qs 1 (i := x2.Header) hr.1 (by omega))) ?_
   refine ae (vd (k := 1) H.M rfl rfl e1 (gx H.M e3 e5).2) (fL rfl (ak.g_Field r2) rfl rfl (mV rfl (mV rfl ?_)))
   refine cL (be2 (x0 := x3) (x1 := fa x0 x2) a0) rfl rfl (ab rfl (ab rfl ay)) ?_
   obtain ⟨id, ver, n, rfl⟩ := ut e7 e4 a1 a3
   have hn := oi H.M e3
   have hl := e4.length
   refine ae (bh rfl rfl (qs 1 (i := x2.Field) a1 (by omega))) ?_
   exact rq (i := x2.Field.toNat) H.M rfl rfl e3 (by omega) rfl (fun h' M' => cf (aq (qj (H.setF e1 e2 e4 e5 e6 M' ⟨_, _, _, rfl⟩) (hE.setF (by rw [List.length_set]; exact hE.i _ (xz hr.1 hr.2))) rfl rfl rfl)))

theorem bb1 {x0 : ai} {x1 : Int} {x2 : Bool} {v0 : PV} (r0 : ai.t.R x0 v0) (hE : EB x0) (hi : 0 ≤ x1 ∧ x1 < x0.Valid.length) : ∃ r, FnR Tryz.prog 160 [v0, vi x1, vb x2] r ∧ ai.t.R (lz x0 x1 x2) r := by
 refine fnE ch3 (by simp) ?_
 refine au (bb (ae (cz rfl (TR.cnt ai.t r0)) ?_))
 refine di (x := .agg [nilS, nilS, nilS, nilS]) (Mem.nil _) rfl rfl (fun i8 w8 h8 M8 => ?_)
 refine cf (aq (au (gc ?_)))
 refine db (ae (bq rfl (TR.cnt ai.t r0) (TR.agg ai.t r0)) (da ?_))
 obtain ⟨rr, k, X, a, b, c, d, eb, ef, em, ep, I, rfl, H⟩ := ah8 r0 hE M8
 refine iw rfl rfl X ?_
 refine db (di (x := .agg [nilS, nilS, nilS, nilS]) H.M rfl rfl (fun i9 w9 h9 M9 => da ?_))
 refine db (ci (k := 0) (v := .agg [a, b, c, d]) M9 rfl rfl rfl rfl (fun a2 a1 => da (mc ?_)))
 replace H := H.push (g := ⟨.op i9 w9 0, 46, 4, [.agg [a, b, c, d]]⟩) a1
 clear M8 M9 a1 X
 have g0 : fieldR 0 1 false (.agg [a, b, c, d]) = some a := mk1 (gx H.M (k := 0) rfl H.na).2
 have g1 : fieldR 1 1 false (.agg [a, b, c, d]) = some b := mk1 (gx H.M (k := 1) rfl H.nb).2
 have Mp := H.pull
 obtain ⟨id, ver, n, rfl⟩ := ut H.wa H.v hi.1 hi.2
 have hn := oi H.M (k := 0) rfl
 have hl := H.v.length
 refine aq (au (bb (ae (bv rfl) (ae (cq (k := 0) Mp rfl rfl g0) (mV rfl (mV rfl ?_))))))
 refine ae (bh rfl rfl (qs 1 (i := x1) hi.1 (by omega))) ?_
 refine rq (k := 0) (i := x1.toNat) H.M rfl rfl rfl (by omega) rfl (fun h' M' => ?_)
 replace H := H.setV M' ⟨_, _, _, rfl⟩
 replace hE := hE.setV (k := x1.toNat) (v := x2)
 clear M' Mp
 have Mp := H.pull
 have hlf : ef.length = x0.Fields.length := H.f.len.1
 refine cf (aq (au (au (bb ?_))))
 refine mV rfl (ae (bv rfl) (ae (cq (k := 0) Mp rfl rfl g1) ?_))
 refine ae (cy rfl (ap4 (H.M.at (k := 1) rfl) Tryz.underlying42 H.nb _)) (ae (bp rfl rfl ct) (cf (aq (cw rfl (fun hc => ?_) fun hc => ?_))))
 ·replace hc : decide (x1 < (ef.length : Int)) = true := hc
  simp only [decide_eq_true_eq] at hc
  obtain ⟨v, es, e1, e2, e3, e4, e5, e6, e7⟩ := H.inner (i := x1) hi.1 (by show x1 < (x0.Fields.length : Int); omega)
  obtain ⟨ib, vb', nb, rfl⟩ := ae7 H.wb (by omega)
  have hnb := oi H.M (k := 1) rfl
  have a0 : es.length = (ix x0.Fields x1).length := e4.length
  refine bb (ae (bv rfl) (ae (cq (k := 0) Mp rfl rfl g1) (mV rfl (ae (bv rfl) (ae (cq (k := 0) Mp rfl rfl g1) (mV rfl ?_))))))
  refine ae (bh rfl rfl (qs 1 (i := x1) hi.1 (by omega))) (ae (vd (k := 1) H.M rfl rfl e1 (gx H.M e3 e5).2) (ae (cy rfl (ap4 (H.M.at e3) Tryz.underlying43 e5 _)) ?_))
  have hb := hE.i _ (xz hi.1 (by show x1 < (x0.Fields.length : Int); omega))
  have ff : fits es.length 4 = true := li (by rw [a0]; exact Nat.le_trans hb (by omega)) (by rw [a0]; have : (ix x0.Fields x1).length ≤ 1048576 := hb; omega)
  refine ag7 (sz := 1) (ty := 89) (n := es.length) (zz := bd 0#32) H.M rfl rfl rfl rfl rfl ff (fun j w h2 M2 => ?_)
  refine ae (bh rfl rfl (qs 1 (i := x1) hi.1 (by omega))) ?_
  refine rq (k := 2) (i := x1.toNat) M2 rfl rfl rfl (by omega) rfl (fun h3 M3 => cf (aq ?_))
  have hIl : x1.toNat < I.length := by rw [H.f.len.2]; show x1.toNat < x0.Fields.length; omega
  have M4 := bk4 (C := [⟨.os id ver 0 n, 4, 1, eb.set x1.toNat (vb x2)⟩, ⟨.os ib vb' 0 nb, 43, 1, ef.set x1.toNat (.os j w 0 es.length)⟩, ⟨c, 89, 1, em⟩, ⟨d, 5, 1, ep⟩]) (I := I) (R := ⟨.op i9 w9 0, 46, 4, [.agg [.os id ver 0 n, .os ib vb' 0 nb, c, d]]⟩ :: ⟨.op i8 w8 0, 46, 4, [.agg [nilS, nilS, nilS, nilS]]⟩ :: []) (k := x1.toNat)
   (e := ⟨.os j w 0 es.length, 89, 1, List.replicate es.length (bd 0#32)⟩) (Mem.sub M3 (.cons_cons _ (.cons_cons _ (.cons_cons _ (.cons_cons _ (.cons_cons _ (List.Sublist.append_right (List.eraseIdx_sublist ..) _))))))) hIl
  have F := ba8 H.f (k := x1.toNat) (l := List.replicate (ix x0.Fields x1).length 0#32) (v := .os j w 0 es.length) (es := List.replicate es.length (bd 0#32)) (by rw [a0]; exact All2.rep (R := dg.R) rfl _) rfl (by rw [List.length_replicate]; have : (ix x0.Fields x1).length ≤ 1048576 := hb; omega) (.inr ⟨_, _, _, rfl⟩)
  have H' : OE h3 (swE x0 x1 x2) (.os id ver 0 n) (.os ib vb' 0 nb) c d (eb.set x1.toNat (vb x2)) (ef.set x1.toNat (.os j w 0 es.length)) em ep (I.set x1.toNat ⟨.os j w 0 es.length, 89, 1, List.replicate es.length (bd 0#32)⟩) _ :=
   { M := M4, v := H.v, f := F, m := H.m, p := H.p, na := rfl, nb := rfl, nc := H.nc, nd := H.nd, wa := .inr ⟨_, _, _, rfl⟩, wb := .inr ⟨_, _, _, rfl⟩, wc := H.wc }
  exact qj H' (hE.setF (by rw [List.length_replicate]; exact hb)) rfl rfl rfl
 ·replace hc : decide (x1 < (ef.length : Int)) = false := hc
  simp only [decide_eq_false_iff_not] at hc
  have es : lz x0 x1 x2 = { x0 with Valid := x0.Valid.set x1.toNat x2 } := by
   have : x0.Fields.set x1.toNat (List.replicate (ix x0.Fields x1).length 0#32) = x0.Fields := List.set_eq_of_length_le (by omega)
   unfold lz swE
   rw [this]
  rw [es]
  exact ba (aq (qj H hE rfl rfl rfl))

def RF88 (res : ai) (r : PV) : Prop := ai.t.R res r
theorem dm8 {x0 : af} {x1 : ai} {x2 : Int} {v0 v1 : PV} (r0 : af.t.R x0 v0) (r1 : ai.t.R x1 v1) (hE : EB x1) : ∃ r, FnR Tryz.prog 88 [v0, v1, vi x2] r ∧ ai.t.R (lg x0 x1 x2) r := by
 refine fnT (R := RF88) df2 rfl fun res s => ?_
 unfold lg at s
 refine sR (ae (cz rfl (TR.cnt af.t r0)) (ae (cz rfl (TR.cnt ai.t r1)) ?_))
 refine di (x := .agg [nilS, nilS, nilS, nilS]) (Mem.nil ⟨0, []⟩) rfl rfl (fun b0 b9 d2 b8 => ?_)
 refine nS (au (sR (mV rfl (bN ct rfl rfl (mV rfl ?_)))))
 refine bw 6 (d := 15) (v := vb ((decide (x2 < 0)) || (decide ((x0.Headers.length : Int) ≤ x2)))) ?_ ?_
 ·intro S Q r
  cases b2 : (decide (x2 < 0))
  ·intro k
   have a8 := b2
   try simp only [qa] at a8
   refine ah rfl rfl (ax rfl) ?_
   obtain ⟨d1, c9, a2⟩ := af.g_Headers r0
   refine ah rfl rfl (br rfl c9) (ah rfl rfl (bq rfl (TR.cnt (tSl cm.t) a2) (TR.agg (tSl cm.t) a2)) (ah rfl rfl (cy rfl (co a2 Tryz.underlying22 _)) (ah rfl rfl (bp rfl rfl ja) ?_)))
   exact gK rfl rfl rfl rfl rfl k
  ·exact gN 5 rfl rfl rfl rfl rfl rfl
 refine mV rfl ?_
 refine bw 6 (d := 22) (v := vb (((decide (x2 < 0)) || (decide ((x0.Headers.length : Int) ≤ x2))) || (decide ((x1.Valid.length : Int) ≤ x2)))) ?_ ?_
 ·intro S Q r
  cases b3 : ((decide (x2 < 0)) || (decide ((x0.Headers.length : Int) ≤ x2)))
  ·intro k
   have a6 := b3
   try simp only [qa] at a6
   refine ah rfl rfl (ax rfl) ?_
   obtain ⟨d0, c4, a3⟩ := ai.g_Valid r1
   refine ah rfl rfl (br rfl c4) (ah rfl rfl (bq rfl (TR.cnt (tSl tB) a3) (TR.agg (tSl tB) a3)) (ah rfl rfl (cy rfl (co a3 Tryz.underlying41 _)) (ah rfl rfl (bp rfl rfl ja) ?_)))
   exact gK rfl rfl rfl rfl rfl k
  ·exact gN 5 rfl rfl rfl rfl rfl rfl
 refine mV rfl ?_
 refine bw 6 (d := 29) (v := vb ((((decide (x2 < 0)) || (decide ((x0.Headers.length : Int) ≤ x2))) || (decide ((x1.Valid.length : Int) ≤ x2))) || (ix x1.Valid x2))) ?_ ?_
 ·intro S Q r
  cases b5 : (((decide (x2 < 0)) || (decide ((x0.Headers.length : Int) ≤ x2))) || (decide ((x1.Valid.length : Int) ≤ x2)))
  ·intro k
   have a5 := b5
   try simp only [qa] at a5
   obtain ⟨d3, c8, a7⟩ := ai.g_Valid r1
   refine ah rfl rfl (br rfl c8) (ah rfl rfl (bq rfl (TR.cnt (tSl tB) a7) (TR.agg (tSl tB) a7)) (ah rfl rfl (ax rfl) (ah rfl rfl (bh rfl rfl (slB a7 (by omega) (by omega))) (ah rfl rfl (bq rfl rfl rfl) ?_))))
   exact gK rfl rfl rfl rfl rfl k
  ·exact gN 5 rfl rfl rfl rfl rfl rfl
 refine nS ?_
 refine bt s rfl ?_ ?_ <;> clear s <;> intro c s <;> try simp only [qa] at c
 ·refine sR (lD r1 rfl rfl rfl ?_)
  obtain ⟨d5, b7, s⟩ := bn s
  obtain ⟨b6, c7, a0⟩ := be1  r1 (by first | assumption | omega | (rw [ek (by omega) (by omega)]; omega) | (have hk := rval rfl (And.right (And.left (by assumption))); omega) | (have hk := rval (by assumption) (by assumption); omega) | (have hk := rval (by assumption) (And.left (by assumption)); omega) | (have hk := rval (by assumption) (And.left (And.left (by assumption))); have hz := rslc (by assumption); omega) | (simp; done) | (simp only [List.length_append, List.length_nil, List.length_cons]; omega) | (have hk := (iu (by assumption) (by assumption)).1; omega) | (simp only [List.length_cons, List.length_nil]; omega) | (simp only [List.length_append]; have hk := (iu (by assumption) (by assumption)).1; omega) | (simp only [List.length_append, List.length_nil]; have hk := (iu (by assumption) (by assumption)).1; omega))
  rw [b7] at a0
  refine cL c7 rfl rfl (ab (TR.clo ai.t r1) ay) ?_
  refine ci (k := 0) (v := b6) b8 rfl rfl rfl (TR.cnt ai.t a0) (fun c6 a9 => ?_)
  replace a9 : Mem c6 [⟨.op b0 b9 0, 46, 4, [b6]⟩] := a9
  refine nS ?_
  subst s
  exact dw (.cell rfl (cv (k := 0) a9 rfl (TR.agg ai.t a0)) .nil) (cd (TR.clo ai.t a0)) a0
 ·refine ba (aq (sR (lD r1 rfl rfl rfl (mV rfl ?_))))
  obtain ⟨d4, b4, s⟩ := bn s
  obtain ⟨b1, c5, a1⟩ := bb1 (x1 := x2) (x2 := true) r1 (by first | assumption | omega | (rw [ek (by omega) (by omega)]; omega) | (have hk := rval rfl (And.right (And.left (by assumption))); omega) | (have hk := rval (by assumption) (by assumption); omega) | (have hk := rval (by assumption) (And.left (by assumption)); omega) | (have hk := rval (by assumption) (And.left (And.left (by assumption))); have hz := rslc (by assumption); omega) | (simp; done) | (simp only [List.length_append, List.length_nil, List.length_cons]; omega) | (have hk := (iu (by assumption) (by assumption)).1; omega) | (simp only [List.length_cons, List.length_nil]; omega) | (simp only [List.length_append]; have hk := (iu (by assumption) (by assumption)).1; omega) | (simp only [List.length_append, List.length_nil]; have hk := (iu (by assumption) (by assumption)).1; omega)) (by first | assumption | omega | (rw [ek (by omega) (by omega)]; omega) | (have hk := rval rfl (And.right (And.left (by assumption))); omega) | (have hk := rval (by assumption) (by assumption); omega) | (have hk := rval (by assumption) (And.left (by assumption)); omega) | (have hk := rval (by assumption) (And.left (And.left (by assumption))); have hz := rslc (by assumption); omega) | (simp; done) | (simp only [List.length_append, List.length_nil, List.length_cons]; omega) | (have hk := (iu (by assumption) (by assumption)).1; omega) | (simp only [List.length_cons, List.length_nil]; omega) | (simp only [List.length_append]; have hk := (iu (by assumption) (by assumption)).1; omega) | (simp only [List.length_append, List.length_nil]; have hk := (iu (by assumption) (by assumption)).1; omega))
  rw [b4] at a1
  refine cL c5 rfl rfl (ab (TR.clo ai.t r1) (ab rfl (ab rfl ay))) ?_
  refine ci (k := 0) (v := b1) b8 rfl rfl rfl (TR.cnt ai.t a1) (fun c1 a4 => ?_)
  replace a4 : Mem c1 [⟨.op b0 b9 0, 46, 4, [b1]⟩] := a4
  refine nS ?_
  subst s
  exact dw (.cell rfl (cv (k := 0) a4 rfl (TR.agg ai.t a1)) .nil) (cd (TR.clo ai.t a1)) a1

def RF89 (res : ai) (r : PV) : Prop := ai.t.R res r
theorem df6 {x0 : af} {x1 : ai} {x2 : Int} {v0 v1 : PV} (r0 : af.t.R x0 v0) (r1 : ai.t.R x1 v1) (hE : EB x1) : ∃ r, FnR Tryz.prog 89 [v0, v1, vi x2] r ∧ ai.t.R (js x0 x1 x2) r := by
 refine fnT (R := RF89) dh3 rfl fun res s => ?_
 unfold js at s
 refine sR (ae (cz rfl (TR.cnt af.t r0)) (ae (cz rfl (TR.cnt ai.t r1)) ?_))
 refine di (x := .agg [nilS, nilS, nilS, nilS]) (Mem.nil ⟨0, []⟩) rfl rfl (fun b0 b6 c9 a9 => ?_)
 refine nS (au (sR (mV rfl (bN ct rfl rfl (mV rfl ?_)))))
 refine bw 6 (d := 15) (v := vb ((decide (x2 < 0)) || (decide ((x0.Headers.length : Int) ≤ x2)))) ?_ ?_
 ·intro S Q r
  cases b2 : (decide (x2 < 0))
  ·intro k
   have a6 := b2
   try simp only [qa] at a6
   refine ah rfl rfl (ax rfl) ?_
   obtain ⟨c7, c5, a2⟩ := af.g_Headers r0
   refine ah rfl rfl (br rfl c5) (ah rfl rfl (bq rfl (TR.cnt (tSl cm.t) a2) (TR.agg (tSl cm.t) a2)) (ah rfl rfl (cy rfl (co a2 Tryz.underlying22 _)) (ah rfl rfl (bp rfl rfl ja) ?_)))
   exact gK rfl rfl rfl rfl rfl k
  ·exact gN 5 rfl rfl rfl rfl rfl rfl
 refine mV rfl ?_
 refine bw 6 (d := 22) (v := vb (((decide (x2 < 0)) || (decide ((x0.Headers.length : Int) ≤ x2))) || (decide ((x1.Valid.length : Int) ≤ x2)))) ?_ ?_
 ·intro S Q r
  cases b3 : ((decide (x2 < 0)) || (decide ((x0.Headers.length : Int) ≤ x2)))
  ·intro k
   have a5 := b3
   try simp only [qa] at a5
   refine ah rfl rfl (ax rfl) ?_
   obtain ⟨c6, b8, a3⟩ := ai.g_Valid r1
   refine ah rfl rfl (br rfl b8) (ah rfl rfl (bq rfl (TR.cnt (tSl tB) a3) (TR.agg (tSl tB) a3)) (ah rfl rfl (cy rfl (co a3 Tryz.underlying41 _)) (ah rfl rfl (bp rfl rfl ja) ?_)))
   exact gK rfl rfl rfl rfl rfl k
  ·exact gN 5 rfl rfl rfl rfl rfl rfl
 refine nS ?_
 refine bt s rfl ?_ ?_ <;> clear s <;> intro c s <;> try simp only [qa] at c
 ·refine sR (lD r1 rfl rfl rfl ?_)
  obtain ⟨d0, b5, s⟩ := bn s
  obtain ⟨a8, c1, a1⟩ := be1  r1 (by first | assumption | omega | (rw [ek (by omega) (by omega)]; omega) | (have hk := rval rfl (And.right (And.left (by assumption))); omega) | (have hk := rval (by assumption) (by assumption); omega) | (have hk := rval (by assumption) (And.left (by assumption)); omega) | (have hk := rval (by assumption) (And.left (And.left (by assumption))); have hz := rslc (by assumption); omega) | (simp; done) | (simp only [List.length_append, List.length_nil, List.length_cons]; omega) | (have hk := (iu (by assumption) (by assumption)).1; omega) | (simp only [List.length_cons, List.length_nil]; omega) | (simp only [List.length_append]; have hk := (iu (by assumption) (by assumption)).1; omega) | (simp only [List.length_append, List.length_nil]; have hk := (iu (by assumption) (by assumption)).1; omega))
  rw [b5] at a1
  refine cL c1 rfl rfl (ab (TR.clo ai.t r1) ay) ?_
  refine ci (k := 0) (v := a8) a9 rfl rfl rfl (TR.cnt ai.t a1) (fun b7 a7 => ?_)
  replace a7 : Mem b7 [⟨.op b0 b6 0, 46, 4, [a8]⟩] := a7
  refine nS ?_
  subst s
  exact dw (.cell rfl (cv (k := 0) a7 rfl (TR.agg ai.t a1)) .nil) (cd (TR.clo ai.t a1)) a1
 ·refine ba (aq (sR (lD r1 rfl rfl rfl (mV rfl ?_))))
  obtain ⟨c8, b4, s⟩ := bn s
  obtain ⟨b1, c4, a0⟩ := bb1 (x1 := x2) (x2 := false) r1 (by first | assumption | omega | (rw [ek (by omega) (by omega)]; omega) | (have hk := rval rfl (And.right (And.left (by assumption))); omega) | (have hk := rval (by assumption) (by assumption); omega) | (have hk := rval (by assumption) (And.left (by assumption)); omega) | (have hk := rval (by assumption) (And.left (And.left (by assumption))); have hz := rslc (by assumption); omega) | (simp; done) | (simp only [List.length_append, List.length_nil, List.length_cons]; omega) | (have hk := (iu (by assumption) (by assumption)).1; omega) | (simp only [List.length_cons, List.length_nil]; omega) | (simp only [List.length_append]; have hk := (iu (by assumption) (by assumption)).1; omega) | (simp only [List.length_append, List.length_nil]; have hk := (iu (by assumption) (by assumption)).1; omega)) (by first | assumption | omega | (rw [ek (by omega) (by omega)]; omega) | (have hk := rval rfl (And.right (And.left (by assumption))); omega) | (have hk := rval (by assumption) (by assumption); omega) | (have hk := rval (by assumption) (And.left (by assumption)); omega) | (have hk := rval (by assumption) (And.left (And.left (by assumption))); have hz := rslc (by assumption); omega) | (simp; done) | (simp only [List.length_append, List.length_nil, List.length_cons]; omega) | (have hk := (iu (by assumption) (by assumption)).1; omega) | (simp only [List.length_cons, List.length_nil]; omega) | (simp only [List.length_append]; have hk := (iu (by assumption) (by assumption)).1; omega) | (simp only [List.length_append, List.length_nil]; have hk := (iu (by assumption) (by assumption)).1; omega))
  rw [b4] at a0
  refine cL c4 rfl rfl (ab (TR.clo ai.t r1) (ab rfl (ab rfl ay))) ?_
  refine ci (k := 0) (v := b1) a9 rfl rfl rfl (TR.cnt ai.t a0) (fun b9 a4 => ?_)
  replace a4 : Mem b9 [⟨.op b0 b6 0, 46, 4, [b1]⟩] := a4
  refine nS ?_
  subst s
  exact dw (.cell rfl (cv (k := 0) a4 rfl (TR.agg ai.t a0)) .nil) (cd (TR.clo ai.t a0)) a0

def RF161 (res : Bool) (r : PV) : Prop := r = vb res
theorem bh5 {x0 : af} {x1 : List (List (BitVec 32))} {x2 : Int} {x3 : BitVec 32} {v0 v1 : PV} (r0 : af.t.R x0 v0) (r1 : (tSl (tSl dg)).R x1 v1) : FnR Tryz.prog 161 [v0, v1, vi x2, bd x3] (vb (ma x0 x1 x2 x3)) := by
 refine fnS (R := RF161) ck8 (fun _ h => h) rfl fun res s => ?_
 unfold ma at s
 refine sR (ae (cz rfl (TR.cnt af.t r0)) (mB rfl (nR (mV rfl (bN ja rfl rfl (mV rfl ?_))))))
 refine bw 6 (d := 17) (v := vb ((decide (0 ≤ x2)) && (decide (x2 < (x0.Registers.length : Int))))) ?_ ?_
 ·intro S Q r
  cases a8 : (decide (0 ≤ x2))
  ·exact gN 5 rfl rfl rfl rfl rfl rfl
  ·intro k
   have a0 := a8
   try simp only [qa] at a0
   refine ah rfl rfl (ax rfl) ?_
   obtain ⟨b8, b5, a3⟩ := af.g_Registers r0
   refine ah rfl rfl (br rfl b5) (ah rfl rfl (bq rfl (TR.cnt (tSl cg.t) a3) (TR.agg (tSl cg.t) a3)) (ah rfl rfl (cy rfl (co a3 Tryz.underlying24 _)) (ah rfl rfl (bp rfl rfl ct) ?_)))
   exact gK rfl rfl rfl rfl rfl k
 refine mV rfl ?_
 refine bw 5 (d := 23) (v := vb (((decide (0 ≤ x2)) && (decide (x2 < (x0.Registers.length : Int)))) && (decide (x2 < (x1.length : Int))))) ?_ ?_
 ·intro S Q r
  cases a7 : ((decide (0 ≤ x2)) && (decide (x2 < (x0.Registers.length : Int))))
  ·exact gN 4 rfl rfl rfl rfl rfl rfl
  ·intro k
   have a6 := a7
   try simp only [qa] at a6
   refine ah rfl rfl (ax rfl) (ah rfl rfl (ax rfl) (ah rfl rfl (cy rfl (co r1 Tryz.underlying42 _)) (ah rfl rfl (bp rfl rfl ct) ?_)))
   exact gK rfl rfl rfl rfl rfl k
 refine mV rfl ?_
 refine bw 10 (d := 34) (v := vb ((((decide (0 ≤ x2)) && (decide (x2 < (x0.Registers.length : Int)))) && (decide (x2 < (x1.length : Int)))) && (decide ((x3.toNat : Int) < ((ix x0.Registers x2).Size))))) ?_ ?_
 ·intro S Q r
  cases b0 : (((decide (0 ≤ x2)) && (decide (x2 < (x0.Registers.length : Int)))) && (decide (x2 < (x1.length : Int))))
  ·exact gN 9 rfl rfl rfl rfl rfl rfl
  ·intro k
   have a1 := b0
   try simp only [qa] at a1
   refine ah rfl rfl (ax rfl) (ah rfl rfl (gi (a := bd x3) rfl (c_wi Tryz.underlying89 Tryz.underlying3)) ?_)
   obtain ⟨b6, b3, a2⟩ := af.g_Registers r0
   refine ah rfl rfl (br rfl b3) (ah rfl rfl (bq rfl (TR.cnt (tSl cg.t) a2) (TR.agg (tSl cg.t) a2)) (ah rfl rfl (ax rfl) ?_))
   obtain ⟨b7, b1, b2⟩ := cr (i := x2) a2 (by omega) (by omega)
   refine ah rfl rfl (bh rfl rfl b1) (ah rfl rfl (br rfl (cg.g_Size b2)) (ah rfl rfl (bq rfl rfl rfl) (ah rfl rfl (bp rfl rfl ct) ?_)))
   exact gK rfl rfl rfl rfl rfl k
 refine mV rfl ?_
 refine bw 9 (d := 44) (v := vb (((((decide (0 ≤ x2)) && (decide (x2 < (x0.Registers.length : Int)))) && (decide (x2 < (x1.length : Int)))) && (decide ((x3.toNat : Int) < ((ix x0.Registers x2).Size)))) && (decide ((x3.toNat : Int) < ((ix x1 x2).length : Int))))) ?_ ?_
 ·intro S Q r
  cases a9 : ((((decide (0 ≤ x2)) && (decide (x2 < (x0.Registers.length : Int)))) && (decide (x2 < (x1.length : Int)))) && (decide ((x3.toNat : Int) < ((ix x0.Registers x2).Size))))
  ·exact gN 8 rfl rfl rfl rfl rfl rfl
  ·intro k
   have a4 := a9
   try simp only [qa] at a4
   refine ah rfl rfl (ax rfl) (ah rfl rfl (gi (a := bd x3) rfl (c_wi Tryz.underlying89 Tryz.underlying3)) (ah rfl rfl (ax rfl) (ah rfl rfl (ax rfl) ?_)))
   obtain ⟨b9, b4, a5⟩ := cr (i := x2) r1 (by omega) (by omega)
   refine ah rfl rfl (bh rfl rfl b4) (ah rfl rfl (bq rfl (TR.cnt (tSl dg) a5) (TR.agg (tSl dg) a5)) (ah rfl rfl (cy rfl (co a5 Tryz.underlying43 _)) (ah rfl rfl (bp rfl rfl ct) ?_)))
   exact gK rfl rfl rfl rfl rfl k
 refine mV rfl (nS ?_)
 exact rR s rfl rfl rfl

def RF90 (res : (BitVec 32)) (r : PV) : Prop := r = bd res
theorem df7 {x0 : af} {x1 : List (List (BitVec 32))} {x2 : Int} {x3 : BitVec 32} {v0 v1 : PV} (r0 : af.t.R x0 v0) (r1 : (tSl (tSl dg)).R x1 v1) : FnR Tryz.prog 90 [v0, v1, vi x2, bd x3] (bd (sv x0 x1 x2 x3)) := by
 refine fnS (R := RF90) dk1 (fun _ h => h) rfl fun res s => ?_
 unfold sv at s
 refine sR (ae (cz rfl (TR.cnt af.t r0)) (ae (v := bd 0#32) (ax rfl) (nS (au (sR (lD r0 rfl rfl rfl (mV rfl (mV rfl ?_))))))))
 refine mV rfl ?_
 obtain ⟨a5, a1, s⟩ := bn s
 have a2 := bh5 (x2 := x2) (x3 := x3) r0 r1 
 rw [a1] at a2
 refine cL a2 rfl rfl (ab (TR.clo af.t r0) (ab (TR.clo (tSl (tSl dg)) r1) (ab rfl (ab rfl ay)))) (ae (gv rfl) (nS ?_))
 refine bt s rfl ?_ ?_ <;> clear s <;> intro c s <;> try simp only [qa] at c
 ·refine sR (ae (v := bd 0#32) (ax rfl) (nS ?_))
  exact rR s rfl rfl rfl
 ·refine ba (aq (sR (mV rfl (mV rfl ?_))))
  obtain ⟨a4, a3, a0⟩ := cr (i := x2) r1 (by first | omega | (have hk := xe (by assumption) (by assumption); omega)) (by first | omega | (have hk := xe (by assumption) (by assumption); omega))
  refine ae (bh rfl rfl a3) (lD a0 rfl rfl rfl (mV rfl (ae (bh rfl rfl (dc0 (vv a0 (by first | omega | (have hk := xe (by assumption) (by assumption); omega)) (by first | omega | (have hk := xe (by assumption) (by assumption); omega))))) (lR rfl rfl rfl (mV rfl (nS ?_))))))
  exact rR s rfl rfl rfl

def RF162 (res : Int) (r : PV) : Prop := r = vi res
theorem cg4 {x0 : cg} {v0 : PV} (r0 : cg.t.R x0 v0) : FnR Tryz.prog 162 [v0] (vi (lp x0)) := by
 refine fnS (R := RF162) cv8 (fun _ h => h) rfl fun res s => ?_
 unfold lp at s
 refine sR (ae (cz rfl (TR.cnt cg.t r0)) (mI rfl (nS (au (sR (fL rfl (cg.g_Width r0) rfl rfl (bN ct rfl rfl (mV rfl ?_))))))))
 refine bw 4 (d := 10) (v := vb ((decide (x0.Width < 1)) || (decide (32 < x0.Width)))) ?_ ?_
 ·intro S Q r
  cases a1 : (decide (x0.Width < 1))
  ·intro k
   have a0 := a1
   try simp only [qa] at a0
   refine ah rfl rfl (br rfl (cg.g_Width r0)) (ah rfl rfl (bq rfl rfl rfl) (ah rfl rfl (bp rfl rfl ki) ?_))
   exact gK rfl rfl rfl rfl rfl k
  ·exact gN 3 rfl rfl rfl rfl rfl rfl
 refine nS ?_
 refine bt s rfl ?_ ?_ <;> clear s <;> intro c s <;> try simp only [qa] at c
 ·refine sR (mI rfl (nS ?_))
  exact rR s rfl rfl rfl
 ·refine ba (aq (sR (fL rfl (cg.g_Width r0) rfl rfl (mV rfl (nS ?_)))))
  exact rR s rfl rfl rfl

theorem bx8 {S : List Fr} {Q : Post} {x1 : List (List (BitVec 32))} {v1 p5 p2 p3 p4 : PV} (q1 : (tSl (tSl dg)).R x1 v1) (hE : RB x1) {R_ : List Ent}
  (K : ∀ {h : Heap} {zv : PV} {ef : List PV} {I : List Ent}, OR h x1 zv ef I R_ → PX Tryz.prog 0 S Q [(11, zv), (5, p5), (4, p4), (3, p3), (2, p2), (1, v1)] h) :
  ∀ (m : Nat) {i : Int} {zv : PV} {ef : List PV} {I : List Ent} {h : Heap}, m = Int.toNat ((x1.length : Int) - i) → 0 ≤ i → i ≤ x1.length → OR h (x1.take i.toNat) zv ef I R_ →
   RC Tryz.prog (.loop cs6) S Q [(12, vi i), (11, zv), (5, p5), (4, p4), (3, p3), (2, p2), (1, v1)] h
 | 0, i, zv, ef, I, h, hm, h0, h1, H => by
  refine de ?_
  refine au (au (bb (mV rfl (mV rfl (ae (cy rfl (co q1 Tryz.underlying42 _)) (ae (bp rfl rfl ct) (cf (aq (cw rfl (fun hc => ?_) fun hc => ?_)))))))))
  ·simp only [decide_eq_true_eq] at hc; omega
  ·have e : i = x1.length := by omega
   subst e
   rw [Int.toNat_natCast, List.take_length] at H
   exact fc (gh (dy (wP (K H) rfl)))
 | m + 1, i, zv, ef, I, h, hm, h0, h1, H => by
  have hlt : i < (x1.length : Int) := by omega
  refine de ?_
  refine au (au (bb (mV rfl (mV rfl (ae (cy rfl (co q1 Tryz.underlying42 _)) (ae (bp rfl rfl ct) (cf (aq (cw rfl (fun hc => ?_) fun hc => ?_)))))))))
  ·refine ba (aq (au (cb ?_)))
   obtain ⟨g0, e0, q0⟩ := cr (i := i) q1 h0 hlt
   have hb := ol hE.i h0 hlt
   refine bb (mV rfl (ae (ko rfl oa) (mV rfl (mV rfl (ae (bh rfl rfl e0) (ae (bq rfl (TR.cnt _ q0) (TR.agg _ q0)) ?_))))))
   obtain ⟨es, sr, A1⟩ := qr (t := dg) (h := h) q0
   have hle := A1.length
   have N1 := mm (sz := 1) (es := []) H.M 89 (.inr rfl) (by simp)
   refine pe (k := 0) (es := []) N1 rfl rfl rfl rfl (.inl rfl) sr (li (by simp only [List.length_nil]; omega) (by simp only [List.length_nil]; omega)) (fun g a0 ng wg M1 => ?_)
   replace M1 : Mem a0 (⟨g, 89, 1, es⟩ :: ⟨zv, 43, 1, ef⟩ :: (I ++ R_)) := M1
   replace wg : Wri g es := wg
   refine ae (ko rfl (all_cons (pv (k := 0) M1 rfl ng) oa)) ?_
   refine pe (k := 1) (es := ef) (news := [g]) M1 rfl rfl rfl H.nb H.wb (ap8 (.inr ⟨true, rfl⟩) (fun y hy => by rw [List.mem_singleton.1 hy]; exact pv (k := 0) M1 rfl ng)) (by have hl := H.f.len.1; have hf := hE.o; simp only [List.length_take] at hl; exact li (by simp only [List.length_cons, List.length_nil]; omega) (by simp only [List.length_cons, List.length_nil]; omega)) (fun z' a1 nz' wz' M2 => ?_)
   refine mV rfl (cf (dj (aq (bb (mV rfl (ae (bp rfl rfl fy) (mV rfl (cf (du ?_)))))))))
   have M4 := Mem.perm (L := ⟨g, 89, 1, es⟩ :: ([⟨z', 43, 1, ef ++ [g]⟩] ++ (I ++ R_))) M2 ah0
   have u : wr (i + 1) = i + 1 := ek (by omega) (by have := hE.o; omega)
   refine xa ?_ (bx8 q1 hE K m (i := i + 1) (zv := z') (ef := ef ++ [g]) (I := I ++ [(⟨g, 89, 1, es⟩ : Ent)]) (by omega) (by omega) (by omega) ⟨M4, ?_, nz', wz'⟩)
   ·exact ul (by show some (vi (wr (i + 1))) = _; rw [u]) (sB rfl)
   ·have e : x1.take (i + 1).toNat = x1.take i.toNat ++ [ix x1 i] := by
     rw [vw h0 hlt, show (i + 1).toNat = i.toNat + 1 by omega, List.take_succ_eq_append_getElem]
    rw [e]
    exact H.f.app1 ⟨rfl, rfl, rfl, A1, ng, by omega, wg⟩
  ·simp only [decide_eq_false_iff_not] at hc; omega
theorem bu5 {S : List Fr} {Q : Post} {x0 : af} {x2 : Int} {x4 : BitVec 32} {v0 v1 zv p3 : PV} {h : Heap} (r0 : af.t.R x0 v0) (hx : 0 ≤ x2 ∧ x2 < x0.Registers.length) (hW : 1 ≤ (ix x0.Registers x2).Width ∧ (ix x0.Registers x2).Width ≤ 32)
  (K : ∀ {y : BitVec 64}, y ≠ 0#64 → BitVec.setWidth 32 (BitVec.setWidth 64 x4 % y) = gz x4 (ix x0.Registers x2).Width → PX Tryz.prog 2 S Q [(13, jl y), (11, zv), (5, .fp v0), (4, bd x4), (3, p3), (2, vi x2), (1, v1)] h) :
  ∀ (m : Nat) {i : Int} {y : BitVec 64}, m = Int.toNat ((ix x0.Registers x2).Width - i) → 0 ≤ i → i ≤ (ix x0.Registers x2).Width → PW y i → kf (fun y => BitVec.setWidth 32 (BitVec.setWidth 64 x4 % y)) m y i = gz x4 (ix x0.Registers x2).Width →
   RC Tryz.prog (.loop cj1) S Q [(14, vi i), (13, jl y), (11, zv), (5, .fp v0), (4, bd x4), (3, p3), (2, vi x2), (1, v1)] h
 | 0, i, y, hm, h0, h1, hp, hr => by
  obtain ⟨w3, g3, q3⟩ := af.g_Registers r0
  obtain ⟨w4, g4, q4⟩ := cr (i := x2) q3 hx.1 hx.2
  refine de ?_
  refine au (au (bb (mV rfl (ae (br rfl g3) (lD q3 rfl rfl rfl (mV rfl (ae (bh rfl rfl g4) (fL rfl (cg.g_Width q4) rfl rfl (ae (bp rfl rfl ct) (cf (aq (cw rfl (fun hc => ?_) fun hc => ?_))))))))))))
  ·simp only [decide_eq_true_eq] at hc; omega
  ·exact fc (gh (dy (wP (K hp.nz hr) rfl)))
 | m + 1, i, y, hm, h0, h1, hp, hr => by
  obtain ⟨w3, g3, q3⟩ := af.g_Registers r0
  obtain ⟨w4, g4, q4⟩ := cr (i := x2) q3 hx.1 hx.2
  refine de ?_
  refine au (au (bb (mV rfl (ae (br rfl g3) (lD q3 rfl rfl rfl (mV rfl (ae (bh rfl rfl g4) (fL rfl (cg.g_Width q4) rfl rfl (ae (bp rfl rfl ct) (cf (aq (cw rfl (fun hc => ?_) fun hc => ?_))))))))))))
  ·refine ba (aq (au (cb (bb (mV rfl (ae (bp (a := jl 2#64) (b := jl y) rfl rfl av0) (mV rfl (cf (dj (aq (bb (mV rfl (ae (bp rfl rfl fy) (mV rfl (cf (du ?_))))))))))))))))
   have u : wr (i + 1) = i + 1 := ek (by omega) (by omega)
   refine xa ?_ (bu5 r0 hx hW K m (i := i + 1) (y := 2#64 * y) (by omega) (by omega) (by omega) (pw1 hp (by omega)) hr)
   exact ul (by show some (vi (wr (i + 1))) = _; rw [u]) (sB rfl)
  ·simp only [decide_eq_false_iff_not] at hc; omega
theorem df0 {x0 : af} {x1 : List (List (BitVec 32))} {x2 : Int} {x3 x4 : BitVec 32} {v0 v1 : PV} (r0 : af.t.R x0 v0) (r1 : (tSl (tSl dg)).R x1 v1) (hE : RB x1) : ∃ r, FnR Tryz.prog 91 [v0, v1, vi x2, bd x3, bd x4] r ∧ (tSl (tSl dg)).R (lm x0 x1 x2 x3 x4) r := by
 refine fnE dh4 (by simp) ?_
 refine au (bb (ae (cz rfl (TR.cnt af.t r0)) (ae (v := nilS) (ax rfl) (cf (aq ?_)))))
 refine au (bb (ae (v := nilS) (ax rfl) (cf (aq (au (au (bb (mV rfl (cf (aq (cb ?_)))))))))))
 refine wC (bx8 (x1 := x1) (R_ := []) (p5 := .fp v0) (p4 := bd x4) (p3 := bd x3) (p2 := vi x2) r1 hE ?_ x1.length (i := 0) (zv := nilS) (ef := []) (I := []) (by omega) (by omega) (by omega) ⟨mm (sz := 1) (es := []) (Mem.nil _) 43 (.inl ⟨none, rfl, rfl⟩) (by simp), trivial, rfl, .inl rfl⟩) rfl
 intro h zv ef I H
 refine gy (aq (au (au (bb ?_))))
 refine lD r0 rfl rfl rfl (mV rfl (mV rfl (mV rfl ?_)))
 refine cL (bh5 (x2 := x2) (x3 := x3) r0 r1) rfl rfl (ab (TR.clo _ r0) (ab (TR.clo _ r1) (ab rfl (ab rfl ay)))) (ae (gv rfl) (mV rfl ?_))
 refine bw 8 (d := 44) (v := vb (!ma x0 x1 x2 x3 || decide (lp (ix x0.Registers x2) = 0))) ?_ ?_
 ·intro S Q r
  cases hb : ma x0 x1 x2 x3
  ·exact gN 7 rfl rfl rfl rfl rfl rfl
  ·intro k
   have hh := xe hb
   obtain ⟨w3, g3, q3⟩ := af.g_Registers r0
   refine ah rfl rfl (br rfl g3) (ah rfl rfl (bq rfl (TR.cnt _ q3) (TR.agg _ q3)) (ah rfl rfl (ax rfl) ?_))
   obtain ⟨w4, g4, q4⟩ := cr (i := x2) q3 hh.1.1 hh.1.2
   refine ah rfl rfl (bh rfl rfl g4) (ah rfl rfl (bq rfl (TR.cnt cg.t q4) (TR.agg cg.t q4)) ?_)
   refine jm rfl rfl (qq rfl rfl (ab (TR.clo _ q4) ay) (cg4 q4)) (ah rfl rfl (bp rfl rfl dn) ?_)
   exact gK rfl rfl rfl rfl rfl k
 refine cf (aq (cw rfl (fun hc => ?_) fun hc => ?_))
 ·have hs : lm x0 x1 x2 x3 x4 = x1 := by unfold lm; rw [if_pos hc]
  rw [hs]
  exact yn H hE rfl
 ·have hs : lm x0 x1 x2 x3 x4 = x1.set x2.toNat ((ix x1 x2).set x3.toNat (gz x4 (ix x0.Registers x2).Width)) := by unfold lm; rw [if_neg (by rw [hc]; simp)]
  rw [hs]
  simp only [Bool.or_eq_false_iff, Bool.not_eq_false', decide_eq_false_iff_not] at hc
  have hh := xe hc.1
  have hW := bz1 hc.2
  refine ba (aq (au (bb (ae (v := jl 1#64) (ax rfl) (cf (aq (au (au (bb (mV rfl (cf (aq (cb ?_)))))))))))))
  refine wC (bu5 (zv := zv) (p3 := bd x3) (v1 := v1) (x4 := x4) r0 hh.1 hW ?_ (ix x0.Registers x2).Width.toNat (i := 0) (y := 1#64) (by omega) (by omega) (by omega) pw0 (by unfold gz; rw [Int.sub_zero])) rfl
  intro y a0 hy
  have hlen := H.f.len.1
  obtain ⟨id, ver, n, rfl⟩ := ae7 H.wb (by omega)
  have hn := oi H.M (k := 0) rfl
  obtain ⟨v, es, e1, e2, e3, e4, e5, e6, e7⟩ := H.inner hh.1.1 hh.2.1
  refine gy (aq (au (bb (mV rfl (mV rfl ?_)))))
  refine ae (bh rfl rfl (qs 1 (i := x2) hh.1.1 (by omega))) ?_
  refine ae (vd (k := 0) H.M rfl rfl e1 (gx H.M e3 e5).2) (mV rfl (mV rfl ?_))
  refine ae (gi (a := bd x4) rfl (c_wd Tryz.underlying89 Tryz.underlying201)) (mV rfl ?_)
  refine ae (bp (a := jl (BitVec.setWidth 64 x4)) (b := jl y) rfl rfl (ca7 a0)) (ae (gi (a := jl (BitVec.setWidth 64 x4 % y)) rfl (c_dw Tryz.underlying201 Tryz.underlying89)) ?_)
  rw [hy]
  obtain ⟨id', ver', n', rfl⟩ := ut e7 e4 (i := (x3.toNat : Int)) (by omega) (by omega)
  have hn' := oi H.M e3
  have hl := e4.length
  refine ae (bh rfl rfl (qs 1 (i := (x3.toNat : Int)) (by omega) (by omega))) ?_
  refine rq (i := x3.toNat) H.M rfl rfl e3 (by omega) rfl (fun h' M' => cf (aq ?_))
  exact yn (H.setF e1 e2 e4 e5 e6 M' ⟨_, _, _, rfl⟩) (hE.set (by rw [List.length_set]; exact hE.i _ (xz hh.1.1 hh.2.1))) rfl

def RF23 (res : ai × (List (List (BitVec 32)))) (r : PV) : Prop := ∃ c0, ∃ c1, r = .tup [c0, c1] ∧ ai.t.R res.1 c0 ∧ (tSl (tSl dg)).R res.2 c1
theorem xp {S : List Fr} {res : ai × (List (List (BitVec 32)))} {x0 : af} {x1 : bm} {x2 : ai} {x3 : List (List (BitVec 32))} {f9 : Int × Int} {d1 : aj} {v0 v1 b2 f4 : PV} {a8 a7 a6 a9 b1 b3 : Nat} (r0 : af.t.R x0 v0) (r1 : bm.t.R x1 v1) (hE : EB x2) (hR : RB x3) (i8 : mi x0 x1.Action = f9) (e6 : ((!decide (f9.2 = 0)) || (!decide ((gn x0 x1) = 0))) = false) (i6 : nm x0 x1.Action = d1) (b5 : aj.t.R d1 b2) (b0 : (tSl av.t).R ((ix x0.Actions x1.Action).Body) f4) {K0 : (List (List (BitVec 32))) → ai → (ai × (List (List (BitVec 32))))}
  (j6 : ∀ {c8 : List (List (BitVec 32))} {a4 : ai} {d4 a3 : PV} (b6 : (tSl (tSl dg)).R c8 d4) (a0 : ai.t.R a4 a3) {h : Heap} (M0 : Mem h [⟨.op b1 b3 0, 132, 10, [b2]⟩, ⟨.op a6 a9 0, 46, 4, [.agg [nilS, nilS, nilS, nilS]]⟩, ⟨.op a8 a7 0, 46, 4, [a3]⟩]), K0 c8 a4 = res → PX Tryz.prog 0 S (QR Tryz.prog [(8, some (4, true)), (9, none)] (RF23 res)) [(3, d4), (6, .op a8 a7 0), (8, .op a6 a9 0)] h) :
  ∀ {m : Nat} {c8 : List (List (BitVec 32))} {a2 : Int} {a4 : ai} {d4 a3 : PV} (b6 : (tSl (tSl dg)).R c8 d4) (a0 : ai.t.R a4 a3) (i7 : m = Int.toNat ((((ix x0.Actions x1.Action).Body).length : Int) - a2)) (f3 : 0 ≤ a2) (c7 : EB a4) (c4 : RB c8) {h : Heap} (M0 : Mem h [⟨.op b1 b3 0, 132, 10, [b2]⟩, ⟨.op a6 a9 0, 46, 4, [.agg [nilS, nilS, nilS, nilS]]⟩, ⟨.op a8 a7 0, 46, 4, [a3]⟩]), gq x0 x1 d1 K0 m c8 a2 a4 = res → RC Tryz.prog (.loop cm5) S (QR Tryz.prog [(8, some (4, true)), (9, none)] (RF23 res)) [(14, vi a2), (13, f4), (12, .op b1 b3 0), (8, .op a6 a9 0), (6, .op a8 a7 0), (5, .fp v1), (4, .fp v0), (3, d4)] h := by
 have d2 := e6
 try simp only [qa] at d2
 intro m
 induction m with
 | zero =>
  intro c8 a2 a4 d4 a3 b6 a0 i7 f3 c7 c4 h M0 s
  rw [gq] at s
  refine de (au (sR (mV rfl (mV rfl (ae (cy rfl (co b0 Tryz.underlying95 _)) (bN ct rfl rfl (nS ?_)))))))
  refine cw rfl ?_ ?_ <;> intro c <;> try simp only [qa] at c
  ·omega
  refine fc (gh (dy ?_))
  exact wP (j6 b6 a0 (Mem.sub M0 (.cons_cons _ (.cons_cons _ (.cons_cons _ .slnil)))) s) rfl
 | succ m ih =>
  intro c8 a2 a4 d4 a3 b6 a0 i7 f3 c7 c4 h M0 s
  rw [gq] at s
  refine de (au (sR (mV rfl (mV rfl (ae (cy rfl (co b0 Tryz.underlying95 _)) (bN ct rfl rfl (nS ?_)))))))
  refine cw rfl ?_ ?_ <;> intro c <;> try simp only [qa] at c
  rotate_left
  ·omega
  refine ba (aq (au (cb (sR (mV rfl (mV rfl ?_))))))
  obtain ⟨b4, h4, a5⟩ := cr (i := a2) b0 (by first | omega | (have hk := ag0 (by assumption) (And.left (by assumption : _ ∧ gn x0 x1 = 0)); omega)) (by first | omega | (have hk := ag0 (by assumption) (And.left (by assumption : _ ∧ gn x0 x1 = 0)); omega))
  refine ae (bh rfl rfl h4) (lD a5 rfl rfl rfl ?_)
  refine di (x := .agg [vi 0, vi 0, vi 0, vi 0, vi 0, nilS, nilS]) M0 rfl rfl (fun b7 b8 j8 g5 => ?_)
  refine ci (k := 0) (v := b4) g5 rfl rfl rfl (TR.cnt av.t a5) (fun g6 a1 => ?_)
  replace a1 : Mem g6 [⟨.op b7 b8 0, 135, 7, [b4]⟩, ⟨.op b1 b3 0, 132, 10, [b2]⟩, ⟨.op a6 a9 0, 46, 4, [.agg [nilS, nilS, nilS, nilS]]⟩, ⟨.op a8 a7 0, 46, 4, [a3]⟩] := a1
  refine nR (ae (bv rfl) ?_)
  obtain ⟨j5, g9, e3⟩ := av.g_Index a5
  refine ae (cq (k := 0) a1 rfl rfl g9) (ae (fq (k := 1) a1 rfl rfl (TR.agg aj.t b5)) (ae (fq (k := 3) a1 rfl rfl (TR.agg ai.t a0)) (gL (bm.g_Args r1) rfl rfl rfl fun k0 f5 => ?_)))
  obtain ⟨e9, f6, s⟩ := bn s
  have g0 := br7  e3 b5 a0 f5 
  rw [f6] at g0
  refine cL g0 rfl rfl (ab (TR.clo (tSl aa.t) e3) (ab (TR.clo aj.t b5) (ab (TR.clo ai.t a0) (ab (TR.clo (tSl dg) f5) ay)))) (mV rfl (nR (ae (bv rfl) ?_)))
  obtain ⟨k3, i4, f0⟩ := av.g_Value a5
  refine ae (cq (k := 0) a1 rfl rfl i4) (ae (fq (k := 1) a1 rfl rfl (TR.agg aj.t b5)) (ae (fq (k := 3) a1 rfl rfl (TR.agg ai.t a0)) (gL (bm.g_Args r1) rfl rfl rfl fun j7 g2 => ?_)))
  obtain ⟨f7, e2, s⟩ := bn s
  have e8 := br7  f0 b5 a0 g2 
  rw [e2] at e8
  refine cL e8 rfl rfl (ab (TR.clo (tSl aa.t) f0) (ab (TR.clo aj.t b5) (ab (TR.clo ai.t a0) (ab (TR.clo (tSl dg) g2) ay)))) (mV rfl (nR (ae (bv rfl) (ae (cq (k := 0) a1 rfl rfl (av.g_Kind a5)) (nS (cb (sR (bN dn rfl rfl ?_))))))))
  refine mV rfl (nS ?_)
  refine bt s rfl ?_ ?_ <;> clear s <;> intro c s <;> try simp only [qa] at c
  ·refine bb (lD r0 rfl rfl rfl (ae (fq (k := 3) a1 rfl rfl (TR.agg ai.t a0)) (ae (bv rfl) ?_)))
   obtain ⟨j4, g7, g1⟩ := av.g_Dst a5
   refine ae (cq (k := 0) a1 rfl rfl g7) (mV rfl ?_)
   obtain ⟨i0, c5, s⟩ := bn s
   obtain ⟨g3, i2, d0⟩ := cb0 (x3 := f7) r0 a0 g1 (by first | assumption | omega | (rw [ek (by omega) (by omega)]; omega) | (have hk := rval rfl (And.right (And.left (by assumption))); omega) | (have hk := rval (by assumption) (by assumption); omega) | (have hk := rval (by assumption) (And.left (by assumption)); omega) | (have hk := rval (by assumption) (And.left (And.left (by assumption))); have hz := rslc (by assumption); omega) | (simp; done) | (simp only [List.length_append, List.length_nil, List.length_cons]; omega) | (have hk := (iu (by assumption) (by assumption)).1; omega) | (simp only [List.length_cons, List.length_nil]; omega) | (simp only [List.length_append]; have hk := (iu (by assumption) (by assumption)).1; omega) | (simp only [List.length_append, List.length_nil]; have hk := (iu (by assumption) (by assumption)).1; omega))
   rw [c5] at d0
   have j0 : EB i0 := EB.rSet (by assumption) c5
   refine cL i2 rfl rfl (ab (TR.clo af.t r0) (ab (TR.clo ai.t a0) (ab (TR.clo ak.t g1) (ab rfl ay)))) ?_
   refine ci (k := 3) (v := g3) a1 rfl rfl rfl (TR.cnt ai.t d0) (fun h6 d5 => ?_)
   replace d5 : Mem h6 [⟨.op b7 b8 0, 135, 7, [b4]⟩, ⟨.op b1 b3 0, 132, 10, [b2]⟩, ⟨.op a6 a9 0, 46, 4, [.agg [nilS, nilS, nilS, nilS]]⟩, ⟨.op a8 a7 0, 46, 4, [g3]⟩] := d5
   refine cf (dj (dj (aq (bb (mV rfl (bN fy rfl rfl (mV rfl (cf ?_))))))))
   refine du ?_
   have hbd := fg b0
   have u : wr (a2 + 1) = a2 + 1 := ek (by omega) (by omega)
   erw [u]
   exact wC (ih  b6 d0 (by omega) (by omega) (by assumption) (by assumption) (Mem.sub d5 (.cons _ (.cons_cons _ (.cons_cons _ (.cons_cons _ .slnil))))) s) rfl
  ·refine sR (bN dn rfl rfl (mV rfl (nS ?_)))
   refine bt s rfl ?_ ?_ <;> clear s <;> intro c s <;> try simp only [qa] at c
   ·refine bb (lD r0 rfl rfl rfl (ae (fq (k := 3) a1 rfl rfl (TR.agg ai.t a0)) (ae (bv rfl) (ae (cq (k := 0) a1 rfl rfl (av.g_Header a5)) ?_))))
    obtain ⟨h0, c9, s⟩ := bn s
    obtain ⟨e7, i1, d9⟩ := dm8 (x2 := (ix ((ix x0.Actions x1.Action).Body) a2).Header) r0 a0 (by first | assumption | omega | (rw [ek (by omega) (by omega)]; omega) | (have hk := rval rfl (And.right (And.left (by assumption))); omega) | (have hk := rval (by assumption) (by assumption); omega) | (have hk := rval (by assumption) (And.left (by assumption)); omega) | (have hk := rval (by assumption) (And.left (And.left (by assumption))); have hz := rslc (by assumption); omega) | (simp; done) | (simp only [List.length_append, List.length_nil, List.length_cons]; omega) | (have hk := (iu (by assumption) (by assumption)).1; omega) | (simp only [List.length_cons, List.length_nil]; omega) | (simp only [List.length_append]; have hk := (iu (by assumption) (by assumption)).1; omega) | (simp only [List.length_append, List.length_nil]; have hk := (iu (by assumption) (by assumption)).1; omega))
    rw [c9] at d9
    have i9 : EB h0 := EB.rAdd (by assumption) c9
    refine cL i1 rfl rfl (ab (TR.clo af.t r0) (ab (TR.clo ai.t a0) (ab rfl ay))) ?_
    refine ci (k := 3) (v := e7) a1 rfl rfl rfl (TR.cnt ai.t d9) (fun g8 d3 => ?_)
    replace d3 : Mem g8 [⟨.op b7 b8 0, 135, 7, [b4]⟩, ⟨.op b1 b3 0, 132, 10, [b2]⟩, ⟨.op a6 a9 0, 46, 4, [.agg [nilS, nilS, nilS, nilS]]⟩, ⟨.op a8 a7 0, 46, 4, [e7]⟩] := d3
    refine cf (dj (dj (aq (bb (mV rfl (bN fy rfl rfl (mV rfl (cf ?_))))))))
    refine du ?_
    have hbd := fg b0
    have u : wr (a2 + 1) = a2 + 1 := ek (by omega) (by omega)
    erw [u]
    exact wC (ih  b6 d9 (by omega) (by omega) (by assumption) (by assumption) (Mem.sub d3 (.cons _ (.cons_cons _ (.cons_cons _ (.cons_cons _ .slnil))))) s) rfl
   ·refine sR (bN dn rfl rfl (mV rfl (nS ?_)))
    refine bt s rfl ?_ ?_ <;> clear s <;> intro c s <;> try simp only [qa] at c
    ·refine bb (lD r0 rfl rfl rfl (ae (fq (k := 3) a1 rfl rfl (TR.agg ai.t a0)) (ae (bv rfl) (ae (cq (k := 0) a1 rfl rfl (av.g_Header a5)) ?_))))
     obtain ⟨h2, b9, s⟩ := bn s
     obtain ⟨e1, i3, d7⟩ := df6 (x2 := (ix ((ix x0.Actions x1.Action).Body) a2).Header) r0 a0 (by first | assumption | omega | (rw [ek (by omega) (by omega)]; omega) | (have hk := rval rfl (And.right (And.left (by assumption))); omega) | (have hk := rval (by assumption) (by assumption); omega) | (have hk := rval (by assumption) (And.left (by assumption)); omega) | (have hk := rval (by assumption) (And.left (And.left (by assumption))); have hz := rslc (by assumption); omega) | (simp; done) | (simp only [List.length_append, List.length_nil, List.length_cons]; omega) | (have hk := (iu (by assumption) (by assumption)).1; omega) | (simp only [List.length_cons, List.length_nil]; omega) | (simp only [List.length_append]; have hk := (iu (by assumption) (by assumption)).1; omega) | (simp only [List.length_append, List.length_nil]; have hk := (iu (by assumption) (by assumption)).1; omega))
     rw [b9] at d7
     have j3 : EB h2 := EB.rRem (by assumption) b9
     refine cL i3 rfl rfl (ab (TR.clo af.t r0) (ab (TR.clo ai.t a0) (ab rfl ay))) ?_
     refine ci (k := 3) (v := e1) a1 rfl rfl rfl (TR.cnt ai.t d7) (fun h5 e0 => ?_)
     replace e0 : Mem h5 [⟨.op b7 b8 0, 135, 7, [b4]⟩, ⟨.op b1 b3 0, 132, 10, [b2]⟩, ⟨.op a6 a9 0, 46, 4, [.agg [nilS, nilS, nilS, nilS]]⟩, ⟨.op a8 a7 0, 46, 4, [e1]⟩] := e0
     refine cf (dj (dj (aq (bb (mV rfl (bN fy rfl rfl (mV rfl (cf ?_))))))))
     refine du ?_
     have hbd := fg b0
     have u : wr (a2 + 1) = a2 + 1 := ek (by omega) (by omega)
     erw [u]
     exact wC (ih  b6 d7 (by omega) (by omega) (by assumption) (by assumption) (Mem.sub e0 (.cons _ (.cons_cons _ (.cons_cons _ (.cons_cons _ .slnil))))) s) rfl
    ·refine sR (bN dn rfl rfl (mV rfl (nS ?_)))
     refine bt s rfl ?_ ?_ <;> clear s <;> intro c s <;> try simp only [qa] at c
     ·refine bb (lD r0 rfl rfl rfl (ae (fq (k := 3) a1 rfl rfl (TR.agg ai.t a0)) (ae (bv rfl) ?_)))
      obtain ⟨j9, h9, e4⟩ := av.g_Dst a5
      refine ae (cq (k := 0) a1 rfl rfl h9) (lD r0 rfl rfl rfl (mV rfl (ae (bv rfl) (ae (cq (k := 0) a1 rfl rfl (av.g_Register a5)) (mV rfl ?_)))))
      obtain ⟨h7, f8, s⟩ := bn s
      have f2 := df7 (x2 := (ix ((ix x0.Actions x1.Action).Body) a2).Register) (x3 := e9) r0 b6 
      rw [f8] at f2
      refine cL f2 rfl rfl (ab (TR.clo af.t r0) (ab (TR.clo (tSl (tSl dg)) b6) (ab rfl (ab rfl ay)))) ?_
      obtain ⟨h1, c1, s⟩ := bn s
      obtain ⟨f1, i5, d8⟩ := cb0 (x3 := h7) r0 a0 e4 (by first | assumption | omega | (rw [ek (by omega) (by omega)]; omega) | (have hk := rval rfl (And.right (And.left (by assumption))); omega) | (have hk := rval (by assumption) (by assumption); omega) | (have hk := rval (by assumption) (And.left (by assumption)); omega) | (have hk := rval (by assumption) (And.left (And.left (by assumption))); have hz := rslc (by assumption); omega) | (simp; done) | (simp only [List.length_append, List.length_nil, List.length_cons]; omega) | (have hk := (iu (by assumption) (by assumption)).1; omega) | (simp only [List.length_cons, List.length_nil]; omega) | (simp only [List.length_append]; have hk := (iu (by assumption) (by assumption)).1; omega) | (simp only [List.length_append, List.length_nil]; have hk := (iu (by assumption) (by assumption)).1; omega))
      rw [c1] at d8
      have j1 : EB h1 := EB.rSet (by assumption) c1
      refine cL i5 rfl rfl (ab (TR.clo af.t r0) (ab (TR.clo ai.t a0) (ab (TR.clo ak.t e4) (ab rfl ay)))) ?_
      refine ci (k := 3) (v := f1) a1 rfl rfl rfl (TR.cnt ai.t d8) (fun g4 d6 => ?_)
      replace d6 : Mem g4 [⟨.op b7 b8 0, 135, 7, [b4]⟩, ⟨.op b1 b3 0, 132, 10, [b2]⟩, ⟨.op a6 a9 0, 46, 4, [.agg [nilS, nilS, nilS, nilS]]⟩, ⟨.op a8 a7 0, 46, 4, [f1]⟩] := d6
      refine cf (dj (dj (aq (bb (mV rfl (bN fy rfl rfl (mV rfl (cf ?_))))))))
      refine du ?_
      have hbd := fg b0
      have u : wr (a2 + 1) = a2 + 1 := ek (by omega) (by omega)
      erw [u]
      exact wC (ih  b6 d8 (by omega) (by omega) (by assumption) (by assumption) (Mem.sub d6 (.cons _ (.cons_cons _ (.cons_cons _ (.cons_cons _ .slnil))))) s) rfl
     ·refine bb (lD r0 rfl rfl rfl (mV rfl (ae (bv rfl) (ae (cq (k := 0) a1 rfl rfl (av.g_Register a5)) (mV rfl (mV rfl ?_))))))
      obtain ⟨h3, c6, s⟩ := bn s
      obtain ⟨k4, h8, e5⟩ := df0 (x2 := (ix ((ix x0.Actions x1.Action).Body) a2).Register) (x3 := e9) (x4 := f7) r0 b6 (by first | assumption | omega | (rw [ek (by omega) (by omega)]; omega) | (have hk := rval rfl (And.right (And.left (by assumption))); omega) | (have hk := rval (by assumption) (by assumption); omega) | (have hk := rval (by assumption) (And.left (by assumption)); omega) | (have hk := rval (by assumption) (And.left (And.left (by assumption))); have hz := rslc (by assumption); omega) | (simp; done) | (simp only [List.length_append, List.length_nil, List.length_cons]; omega) | (have hk := (iu (by assumption) (by assumption)).1; omega) | (simp only [List.length_cons, List.length_nil]; omega) | (simp only [List.length_append]; have hk := (iu (by assumption) (by assumption)).1; omega) | (simp only [List.length_append, List.length_nil]; have hk := (iu (by assumption) (by assumption)).1; omega))
      rw [c6] at e5
      have j2 : RB h3 := RB.rWrite (by assumption) c6
      refine cL h8 rfl rfl (ab (TR.clo af.t r0) (ab (TR.clo (tSl (tSl dg)) b6) (ab rfl (ab rfl (ab rfl ay))))) (mV rfl (cf (dj (dj (aq (bb (mV rfl (bN fy rfl rfl ?_))))))))
      refine mV rfl (cf (du ?_))
      have hbd := fg b0
      have u : wr (a2 + 1) = a2 + 1 := ek (by omega) (by omega)
      erw [u]
      exact wC (ih  e5 a0 (by omega) (by omega) (by assumption) (by assumption) (Mem.sub a1 (.cons _ (.cons_cons _ (.cons_cons _ (.cons_cons _ .slnil))))) s) rfl

theorem dk3 {x0 : af} {x1 : bm} {x2 : ai} {x3 : List (List (BitVec 32))} {v0 v1 v2 v3 : PV} (r0 : af.t.R x0 v0) (r1 : bm.t.R x1 v1) (r2 : ai.t.R x2 v2) (r3 : (tSl (tSl dg)).R x3 v3) (hE : EB x2) (hR : RB x3) : ∃ c0, ∃ c1, FnR Tryz.prog 23 [v0, v1, v2, v3] (.tup [c0, c1]) ∧ ai.t.R (mq x0 x1 x2 x3).1 c0 ∧ (tSl (tSl dg)).R (mq x0 x1 x2 x3).2 c1 := by
 obtain ⟨res, s⟩ : ∃ res, mq x0 x1 x2 x3 = res := ⟨_, rfl⟩
 suffices H : RC Tryz.prog dl9 [] (QR Tryz.prog [(8, some (4, true)), (9, none)] (RF23 res)) (argE 0 [v0, v1, v2, v3]) ⟨0, []⟩ by
  rw [s]
  obtain ⟨r, h1, c0, c1, rfl, e8, e9⟩ := fnE dj7 (by simp) H
  exact ⟨c0, c1, h1, e8, e9⟩
 unfold mq at s
 refine sR (ae (cz rfl (TR.cnt af.t r0)) (ae (cz rfl (TR.cnt bm.t r1)) ?_))
 refine bd6 (x := v2) (Mem.nil ⟨0, []⟩) rfl (TR.cnt ai.t r2) (fun a9 b8 e4 e1 => ?_)
 refine di (x := .agg [nilS, nilS, nilS, nilS]) e1 rfl rfl (fun b4 b3 e6 b1 => ?_)
 refine ae (v := nilS) (ax rfl) (nR (lD r0 rfl rfl rfl (fL rfl (bm.g_Action r1) rfl rfl ?_)))
 obtain ⟨c4, a3, s⟩ := bn s
 have c7 := dm9 (x1 := x1.Action) r0 
 rw [a3] at c7
 refine cL c7 rfl rfl (ab (TR.clo af.t r0) (ab rfl ay)) (mV rfl (xT rfl rfl (xT rfl rfl (mV rfl (mV rfl (nS (au (sR ?_))))))))
 refine mV rfl (bN kg rfl rfl (mV rfl ?_))
 refine bw 5 (d := 32) (v := vb ((!decide (c4.2 = 0)) || (!decide ((gn x0 x1) = 0)))) ?_ ?_
 ·intro S Q r
  cases c5 : (!decide (c4.2 = 0))
  ·intro k
   have b0 := c5
   try simp only [qa] at b0
   refine ah rfl rfl (bq rfl (TR.cnt af.t r0) (TR.agg af.t r0)) (ah rfl rfl (bq rfl (TR.cnt bm.t r1) (TR.agg bm.t r1)) ?_)
   have d2 := dg2  r0 r1 
   refine jm rfl rfl (qq rfl rfl (ab (TR.clo af.t r0) (ab (TR.clo bm.t r1) ay)) d2) (ah rfl rfl (bp rfl rfl kg) ?_)
   exact gK rfl rfl rfl rfl rfl k
  ·exact gN 4 rfl rfl rfl rfl rfl rfl
 refine nS ?_
 refine bt s rfl ?_ ?_ <;> clear s <;> intro a4 s <;> have b7 := a4 <;> try simp only [qa] at b7
 ·refine sR (ae (fq (k := 1) b1 rfl rfl (TR.agg ai.t r2)) (mV rfl ?_))
  refine ci (k := 0) (v := v2) b1 rfl rfl rfl (TR.cnt ai.t r2) (fun d0 a6 => ?_)
  replace a6 : Mem d0 [⟨.op b4 b3 0, 46, 4, [v2]⟩, ⟨.op a9 b8 0, 46, 4, [v2]⟩] := a6
  refine mV rfl (nS ?_)
  subst s
  exact dw (.cell rfl (cv (k := 0) a6 rfl (TR.agg ai.t r2)) (.tmp rfl .nil)) (cd (show closed (.tup _) = true from (ab (TR.clo ai.t r2) (ab (TR.clo (tSl (tSl dg)) r3) ay)))) ⟨v2, v3, rfl, r2, r3⟩
 ·refine ba (aq (sR (lD r0 rfl rfl rfl (fL rfl (bm.g_Action r1) rfl rfl ?_))))
  obtain ⟨f0, a5, s⟩ := bn s
  obtain ⟨b2, d8, a7⟩ := bv2 (x1 := x1.Action) r0 (by exact ag0 (by assumption) (And.left (by assumption : _ ∧ gn x0 x1 = 0)))
  rw [a5] at a7
  refine cL d8 rfl rfl (ab (TR.clo af.t r0) (ab rfl ay)) ?_
  refine di (x := .agg [vs [], nilS, nilS, nilS, nilS, nilS, nilS, nilS, nilS, nilS]) b1 rfl rfl (fun c8 c9 e2 d9 => ?_)
  refine ci (k := 0) (v := b2) d9 rfl rfl rfl (TR.cnt aj.t a7) (fun d5 a8 => ?_)
  replace a8 : Mem d5 [⟨.op c8 c9 0, 132, 10, [b2]⟩, ⟨.op b4 b3 0, 46, 4, [.agg [nilS, nilS, nilS, nilS]]⟩, ⟨.op a9 b8 0, 46, 4, [v2]⟩] := a8
  refine nR (gL (af.g_Actions r0) rfl rfl rfl fun f2 d7 => (fL rfl (bm.g_Action r1) rfl rfl ?_))
  obtain ⟨e3, d6, d3⟩ := cr (i := x1.Action) d7 (by first | omega | (have hk := ag0 (by assumption) (And.left (by assumption : _ ∧ gn x0 x1 = 0)); omega)) (by first | omega | (have hk := ag0 (by assumption) (And.left (by assumption : _ ∧ gn x0 x1 = 0)); omega))
  refine ae (bh rfl rfl d6) (gL (bz.g_Body d3) rfl rfl rfl fun e5 d4 => (mV rfl (nS (au (sR (mI rfl (nS (cb ?_))))))))
  have e7 : ai.t.R ({ Valid := ([] : List Bool), Fields := ([] : List (List (BitVec 32))), Metd := ([] : List (BitVec 32)), Payload := ([] : List UInt8) } : ai) (.agg [nilS, nilS, nilS, nilS]) := ⟨nilS, nilS, nilS, nilS, rfl, rk, rk, rk, rk⟩
  refine wC (xp r0 r1 hE hR a3 a4 a5 a7 d4 ?_  r3 r2 rfl (by omega) (by assumption) (by assumption) (Mem.sub a8 (.cons_cons _ (.cons_cons _ (.cons_cons _ .slnil)))) s) rfl
  ·intro d1 b9 b6 a1 a2 a0 f1 c6 s
   refine gy (aq (sR (ae (fq (k := 2) c6 rfl rfl (TR.agg ai.t a0)) (mV rfl ?_))))
   refine ci (k := 1) (v := a1) c6 rfl rfl rfl (TR.cnt ai.t a0) (fun e0 b5 => ?_)
   replace b5 : Mem e0 [⟨.op c8 c9 0, 132, 10, [b2]⟩, ⟨.op b4 b3 0, 46, 4, [a1]⟩, ⟨.op a9 b8 0, 46, 4, [a1]⟩] := b5
   refine mV rfl (nS ?_)
   subst s
   exact dw (.cell rfl (cv (k := 1) b5 rfl (TR.agg ai.t a0)) (.tmp rfl .nil)) (cd (show closed (.tup _) = true from (ab (TR.clo ai.t a0) (ab (TR.clo (tSl (tSl dg)) a2) ay)))) ⟨a1, b6, rfl, a0, a2⟩

end Go.Proofs.YtmonnlkagniolaaGreat
