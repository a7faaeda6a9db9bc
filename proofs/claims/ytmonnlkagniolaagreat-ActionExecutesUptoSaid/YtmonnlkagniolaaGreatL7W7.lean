/-
 The code of each function does what its plain program says.
-/
import Derived.Test.YtmonnlkagniolaaGreatL7W6
set_option linter.unusedVariables false
set_option linter.unusedSimpArgs false
set_option maxRecDepth 100000
namespace Go.Proofs.YtmonnlkagniolaaGreat
open Go Go.Pb Go.RowKit
def RF216 (res : Int × Int × Int) (r : PV) : Prop := r = .tup [vi res.1, vi res.2.1, vi res.2.2]
theorem zr {S : List Fr} {res : Int × Int × Int} {x0 : List aa} {x1 : Int} {x2 : aj} {rec_ : (List aa) → Int → aj → (Int × Int × Int)} {mu_ : Nat} {b0 : Int} {v0 v2 : PV} (r0 : (tSl aa.t).R x0 v0) (r2 : aj.t.R x2 v2) (h0 : 0 ≤ x1) (hb : x0.length ≤ 1000000) (ihR : ∀ {z0 : List aa} {z1 : Int} {z2 : aj} {d9 d6 : PV} (e4 : (tSl aa.t).R z0 d9) (e5 : aj.t.R z2 d6) (h0 : 0 ≤ z1) (hb : z0.length ≤ 1000000), (z0.length - z1.toNat) < mu_ → FnR Tryz.prog 216 [d9, vi z1, d6] (.tup [vi ((rec_ z0 z1 z2).1), vi ((rec_ z0 z1 z2).2.1), vi ((rec_ z0 z1 z2).2.2)])) (hmu : mu_ = (x0.length - x1.toNat)) (hrec : ∀ (z0 : List aa) (z1 : Int) (z2 : aj), 0 ≤ z1 → z0.length ≤ 1000000 → (rec_ z0 z1 z2).2.2 = 0 → z1 < (rec_ z0 z1 z2).2.1) (d2 : (decide ((x0.length : Int) ≤ x1)) = false) (e0 : fe ((ix x0 x1).Op) = b0) (c5 : (decide (b0 < 0)) = false) (c4 : (decide (b0 = 0)) = false) {K0 : Int → (List Int) → (Int × Int × Int)}
  (e3 : ∀ {a5 : Int} {a1 : List Int} {a0 : List PV} {a2 : PV} (a6 : All2 tI.R a1 a0) (a8 : isL a2 = true) (a3 : Wri a2 a0) (a7 : a1.length ≤ 4611686018427387904) (e6 : (a1.length : Int) = b0) {h : Heap} (M0 : Mem h [⟨a2, 3, 1, a0⟩]), K0 a5 a1 = res → PX Tryz.prog 0 S (QR Tryz.prog [(6, none), (7, none), (8, none)] (RF216 res)) [(0, v0), (1, vi x1), (12, a2), (13, vi a5)] h) :
  ∀ {m : Nat} {a5 a4 : Int} {a1 : List Int} {a0 : List PV} {a2 : PV} (a6 : All2 tI.R a1 a0) (a8 : isL a2 = true) (a3 : Wri a2 a0) (a7 : a1.length ≤ 4611686018427387904) (d7 : m = Int.toNat (b0 - a4)) (d1 : 0 ≤ a4) (b5 : x1 < a5) (b4 : (a1.length : Int) = a4) (b2 : a4 ≤ b0) {h : Heap} (M0 : Mem h [⟨a2, 3, 1, a0⟩]), kw x0 x2 rec_ K0 m a5 a4 a1 = res → RC Tryz.prog (.loop bu2) S (QR Tryz.prog [(6, none), (7, none), (8, none)] (RF216 res)) [(14, vi a4), (13, vi a5), (12, a2), (9, vi b0), (5, .fp v2), (1, vi x1), (0, v0)] h := by
 have hb' := hb
 try simp only [qa] at hb'
 have b8 := d2
 try simp only [qa] at b8
 have b9 := c5
 try simp only [qa] at b9
 have b7 := c4
 try simp only [qa] at b7
 intro m
 induction m with
 | zero =>
  intro a5 a4 a1 a0 a2 a6 a8 a3 a7 d7 d1 b5 b4 b2 h M0 s
  rw [kw] at s
  refine de (au (sR (mV rfl (mV rfl (bN ct rfl rfl (nS ?_))))))
  refine cw rfl ?_ ?_ <;> intro c <;> try simp only [qa] at c
  ·omega
  refine fc (gh (dy ?_))
  exact wP (e3 a6 a8 a3 a7 (by omega) (Mem.sub M0 (.cons_cons _ .slnil)) s) rfl
 | succ m ih =>
  intro a5 a4 a1 a0 a2 a6 a8 a3 a7 d7 d1 b5 b4 b2 h M0 s
  rw [kw] at s
  refine de (au (sR (mV rfl (mV rfl (bN ct rfl rfl (nS ?_))))))
  refine cw rfl ?_ ?_ <;> intro c <;> try simp only [qa] at c
  rotate_left
  ·omega
  refine ba (aq (au (cb (sR (mV rfl (mV rfl (lD r2 rfl rfl rfl ?_)))))))
  obtain ⟨a9, b3, s⟩ := bn s
  have c1 := ihR (z0 := x0) (z1 := a5) (z2 := x2) r0 r2 (by omega) (by assumption) (by omega)
  rw [b3] at c1
  have d8 : a9.2.2 = 0 → a5 < a9.2.1 := by rw [← b3]; exact hrec _ _ _ (by omega) (by omega)
  refine cL c1 rfl rfl (ab (TR.clo (tSl aa.t) r0) (ab rfl (ab (TR.clo aj.t r2) ay))) (mV rfl (xT rfl rfl (xT rfl rfl (xT rfl rfl (mV rfl (mV rfl (mV rfl (nS ?_))))))))
  refine au (sR (mV rfl (bN kg rfl rfl (nS ?_))))
  refine bt s rfl ?_ ?_ <;> clear s <;> intro c s <;> try simp only [qa] at c
  ·refine sR (mV rfl (mV rfl (mI rfl (mV rfl (mV rfl (nS ?_))))))
   subst s
   exact dw (.tmp rfl (.tmp rfl (.tmp rfl .nil))) (cd (show closed (.tup _) = true from (ab rfl (ab rfl (ab rfl ay))))) rfl
  ·refine ba (aq (sR (mV rfl (mV rfl (ae (v := .fs true [vi a9.1]) (ko rfl (all_cons rfl oa)) ?_)))))
   have d5 : (tSl tI).R ([a9.1] : List Int) (.fs true [vi a9.1]) := ah1 ⟨rfl, trivial⟩ (by simp)
   obtain ⟨b1, d0, b6⟩ := qr (t := tI) (h := h) d5
   have c8 : fits (a0.length + b1.length) 8 = true := by rw [All2.length_eq a6, All2.length_eq b6]; (try simp only [List.length_cons, List.length_nil]); exact li (by ((have hk := rar (by assumption); omega))) (by ((have hk := rar (by assumption); omega)))
   refine pe (k := 0) (es := a0) (news := b1) M0 rfl rfl rfl a8 a3 d0 c8 (fun e2 e1 d3 c7 d4 => ?_)
   have c6 : All2 tI.R (a1 ++ ([a9.1] : List Int)) (a0 ++ b1) := All2.app a6 b6
   have c9 : (a1 ++ ([a9.1] : List Int)).length ≤ 4611686018427387904 := by rw [← All2.length_eq c6, List.length_append]; exact rz c8
   refine mV rfl (nS (bb (mV rfl (mV rfl (cf (dj (aq (bb ?_))))))))
   refine mV rfl (bN fy rfl rfl (mV rfl (cf (du ?_))))
   have u : wr (a4 + 1) = a4 + 1 := ek (by omega) (by (have hk := rar (by assumption); omega))
   erw [u]
   exact wC (ih  c6 d3 c7 c9 (by omega) (by omega) (by omega) (by ((simp only [List.length_append, List.length_cons, List.length_nil]; omega))) (by omega) (Mem.sub d4 (.cons_cons _ .slnil)) s) rfl

theorem bu4 {rec_ : (List aa) → Int → aj → (Int × Int × Int)} {mu_ : Nat} {x0 : List aa} {x1 : Int} {x2 : aj} {v0 v2 : PV} (r0 : (tSl aa.t).R x0 v0) (r2 : aj.t.R x2 v2) (h0 : 0 ≤ x1) (hb : x0.length ≤ 1000000) (hmu : mu_ = (x0.length - x1.toNat)) (hrec : ∀ (z0 : List aa) (z1 : Int) (z2 : aj), 0 ≤ z1 → z0.length ≤ 1000000 → (rec_ z0 z1 z2).2.2 = 0 → z1 < (rec_ z0 z1 z2).2.1) (ihR : ∀ {z0 : List aa} {z1 : Int} {z2 : aj} {d5 d4 : PV} (e4 : (tSl aa.t).R z0 d5) (e5 : aj.t.R z2 d4) (h0 : 0 ≤ z1) (hb : z0.length ≤ 1000000), (z0.length - z1.toNat) < mu_ → FnR Tryz.prog 216 [d5, vi z1, d4] (.tup [vi ((rec_ z0 z1 z2).1), vi ((rec_ z0 z1 z2).2.1), vi ((rec_ z0 z1 z2).2.2)])) : FnR Tryz.prog 216 [v0, vi x1, v2] (.tup [vi ((mu rec_ x0 x1 x2).1), vi ((mu rec_ x0 x1 x2).2.1), vi ((mu rec_ x0 x1 x2).2.2)]) := by
 refine fnS (R := RF216) cy1 (fun _ h => h) rfl fun res s => ?_
 unfold mu at s
 refine sR (ae (cz rfl (TR.cnt aj.t r2)) (mI rfl (mI rfl (mI rfl (nS (au (sR (mV rfl ?_))))))))
 refine mV rfl (ae (cy rfl (co r0 Tryz.underlying32 _)) (bN ja rfl rfl (nS ?_)))
 refine bt s rfl ?_ ?_ <;> clear s <;> intro a6 s <;> have a8 := a6 <;> try simp only [qa] at a8
 ·refine sR (mV rfl (mI rfl (mV rfl (mI rfl (nS ?_)))))
  subst s
  exact dw (.tmp rfl (.tmp rfl (.tmp rfl .nil))) (cd (show closed (.tup _) = true from (ab rfl (ab rfl (ab rfl ay))))) rfl
 ·refine ba (aq (sR (mV rfl (mV rfl ?_))))
  obtain ⟨d8, d3, d0⟩ := cr (i := x1) r0 (by omega) (by omega)
  refine ae (bh rfl rfl d3) (fL rfl (aa.g_Op d0) rfl rfl ?_)
  obtain ⟨e0, a5, s⟩ := bn s
  have b8 := an7 (x0 := (ix x0 x1).Op)  
  rw [a5] at b8
  refine cL b8 rfl rfl (ab rfl ay) (mV rfl (nS (au (sR (mV rfl (bN ct rfl rfl (nS ?_)))))))
  refine bt s rfl ?_ ?_ <;> clear s <;> intro a4 s <;> have b1 := a4 <;> try simp only [qa] at b1
  ·refine sR (mV rfl (mI rfl (mV rfl (mI rfl (nS ?_)))))
   subst s
   exact dw (.tmp rfl (.tmp rfl (.tmp rfl .nil))) (cd (show closed (.tup _) = true from (ab rfl (ab rfl (ab rfl ay))))) rfl
  ·refine ba (aq (au (sR (mV rfl (bN dn rfl rfl (nS ?_))))))
   refine bt s rfl ?_ ?_ <;> clear s <;> intro a3 s <;> have a7 := a3 <;> try simp only [qa] at a7
   ·refine sR (mV rfl (mV rfl ?_))
    obtain ⟨d7, c6, a9⟩ := cr (i := x1) r0 (by omega) (by omega)
    refine ae (bh rfl rfl c6) (lD a9 rfl rfl rfl (lD r2 rfl rfl rfl ?_))
    obtain ⟨d9, c1, s⟩ := bn s
    have b7 := cl0  a9 r2 
    rw [c1] at b7
    refine cL b7 rfl rfl (ab (TR.clo aa.t a9) (ab (TR.clo aj.t r2) ay)) (mV rfl (xT rfl rfl (xT rfl rfl (mV rfl (mV rfl (nR (mV rfl (mV rfl ?_))))))))
    refine bN fy rfl rfl (mV rfl (mV rfl (mV rfl (mV rfl (nS ?_)))))
    subst s
    exact dw (.tmp rfl (.tmp rfl (.tmp rfl .nil))) (cd (show closed (.tup _) = true from (ab rfl (ab rfl (ab rfl ay))))) rfl
   ·refine ba (aq (sR (ae (v := nilS) (ax rfl) (nR (mV rfl (bN fy rfl rfl (mV rfl (nS ?_))))))))
    refine au (sR (mI rfl (nS (cb ?_))))
    have c7 := mm (sz := 1) (es := []) (Mem.nil ⟨0, []⟩) 3 (.inl ⟨none, rfl, rfl⟩) (by simp)
    refine wC (zr r0 r2 h0 hb ihR hmu hrec a6 a5 a4 a3 ?_  aL rfl (.inl rfl) (by decide) rfl (by omega) (by ((rw [ek (by omega) (by omega)]; omega))) (by simp) (by omega) (Mem.sub c7 (.cons_cons _ .slnil)) s) rfl
    ·intro c4 b2 b4 b6 a1 a2 b3 a0 c5 e3 d2 s
     refine gy (aq (sR (mV rfl (mV rfl ?_))))
     obtain ⟨e2, d1, b0⟩ := cr (i := x1) r0 (by omega) (by omega)
     refine ae (bh rfl rfl d1) (lD b0 rfl rfl rfl (mV rfl ?_))
     obtain ⟨d6, c8, c9⟩ := sf (P := Tryz.prog) (k := 0) (t := tI) d2 rfl a2 a1 (Nat.le_trans a0 (by decide))
     obtain ⟨e1, b9, s⟩ := bn s
     have b5 := cw0  b0 c9 (by omega) (by omega)
     rw [b9] at b5
     refine rp (ro rfl rfl (lc (cd (TR.clo aa.t b0)) (lc c8 tx)) b5 rfl) (mV rfl (xT rfl rfl (xT rfl rfl (mV rfl (mV rfl (nR (mV rfl (mV rfl ?_))))))))
     refine mV rfl (mV rfl (mV rfl (mV rfl (nS ?_))))
     subst s
     exact dw (.tmp rfl (.tmp rfl (.tmp rfl .nil))) (cd (show closed (.tup _) = true from (ab rfl (ab rfl (ab rfl ay))))) rfl
theorem ca5 : ∀ (n_ : Nat) {x0 : List aa} {x1 : Int} {x2 : aj} {v0 v2 : PV} (r0 : (tSl aa.t).R x0 v0) (r2 : aj.t.R x2 v2) (h0 : 0 ≤ x1) (hb : x0.length ≤ 1000000), (x0.length - x1.toNat) < n_ → FnR Tryz.prog 216 [v0, vi x1, v2] (.tup [vi ((il n_ x0 x1 x2).1), vi ((il n_ x0 x1 x2).2.1), vi ((il n_ x0 x1 x2).2.2)]) := by
 intro n_
 induction n_ with
 | zero => intros; rename_i hlt; exact absurd hlt (Nat.not_lt_zero _)
 | succ n_ ihn =>
  intro x0 x1 x2 v0 v2 r0 r2 h0 hb hlt
  have e_ : il (n_ + 1) x0 x1 x2 = mu (il n_) x0 x1 x2 := by rw [il]
  rw [e_]
  exact bu4 r0 r2 h0 hb rfl (aw8 n_) (fun {z0} {z1} {z2} {zv0} {zv2} zr0 zr2 h0 hb hz => ihn zr0 zr2 h0 hb (by omega))
theorem bb8 {x0 : List aa} {x1 : Int} {x2 : aj} {v0 v2 : PV} (r0 : (tSl aa.t).R x0 v0) (r2 : aj.t.R x2 v2) (h0 : 0 ≤ x1) (hb : x0.length ≤ 1000000) : FnR Tryz.prog 216 [v0, vi x1, v2] (.tup [vi ((nk x0 x1 x2).1), vi ((nk x0 x1 x2).2.1), vi ((nk x0 x1 x2).2.2)]) := ca5 _ r0 r2 h0 hb (Nat.lt_succ_self _)

def RF156 (res : Int × Int) (r : PV) : Prop := r = .tup [vi res.1, vi res.2]
theorem ac9 {x0 : List aa} {x1 : aj} {v0 v1 : PV} (r0 : (tSl aa.t).R x0 v0) (r1 : aj.t.R x1 v1) : FnR Tryz.prog 156 [v0, v1] (.tup [vi ((lk x0 x1).1), vi ((lk x0 x1).2)]) := by
 refine fnS (R := RF156) cq8 (fun _ h => h) rfl fun res s => ?_
 unfold lk at s
 refine sR (ae (cz rfl (TR.cnt aj.t r1)) (mI rfl (mI rfl (nS (au (sR (mV rfl (ae (cy rfl (co r0 Tryz.underlying32 _)) ?_))))))))
 refine bN ki rfl rfl (nS ?_)
 refine bt s rfl ?_ ?_ <;> clear s <;> intro c s <;> try simp only [qa] at c
 ·refine sR (mI rfl (mI rfl (nS ?_)))
  exact rT s rfl rfl rfl rfl rfl
 ·refine ba (aq (sR (mV rfl (lD r1 rfl rfl rfl ?_))))
  obtain ⟨a2, a1, s⟩ := bn s
  have a0 := bb8 (x1 := 0) r0 r1 (by omega) (by omega)
  rw [a1] at a0
  refine cL a0 rfl rfl (ab (TR.clo (tSl aa.t) r0) (ab rfl (ab (TR.clo aj.t r1) ay))) (mV rfl (xT rfl rfl (xT rfl rfl (xT rfl rfl (mV rfl (mV rfl (mV rfl (nS ?_))))))))
  refine au (cb (sR (mV rfl (bN kg rfl rfl (mV rfl (nS ?_))))))
  refine bt s rfl ?_ ?_ <;> clear s <;> intro c s <;> try simp only [qa] at c
  ·refine sR (mV rfl (mI rfl (mV rfl (nS ?_))))
   exact rT s rfl rfl rfl rfl rfl
  ·refine sR (mV rfl (mV rfl (ae (cy rfl (co r0 Tryz.underlying32 _)) (bN ct rfl rfl (mV rfl (nS ?_))))))
   refine bt s rfl ?_ ?_ <;> clear s <;> intro c s <;> try simp only [qa] at c
   ·refine sR (mI rfl (mI rfl (nS ?_)))
    exact rT s rfl rfl rfl rfl rfl
   ·refine ba (dj (aq (sR (mV rfl (mV rfl (mI rfl (nS ?_)))))))
    exact rT s rfl rfl rfl rfl rfl

def RF178 (res : Int) (r : PV) : Prop := r = vi res
theorem bl8 {x0 : List aa} {x1 : aj} {x2 : Int} {v0 v1 : PV} (r0 : (tSl aa.t).R x0 v0) (r1 : aj.t.R x1 v1) : FnR Tryz.prog 178 [v0, v1, vi x2] (vi (pz x0 x1 x2)) := by
 refine fnS (R := RF178) co8 (fun _ h => h) rfl fun res s => ?_
 unfold pz at s
 refine sR (ae (cz rfl (TR.cnt aj.t r1)) (mI rfl (nR (mV rfl (lD r1 rfl rfl rfl ?_)))))
 obtain ⟨a1, a2, s⟩ := bn s
 have a3 := ac9  r0 r1 
 rw [a2] at a3
 refine cL a3 rfl rfl (ab (TR.clo (tSl aa.t) r0) (ab (TR.clo aj.t r1) ay)) (mV rfl (xT rfl rfl (xT rfl rfl (mV rfl (mV rfl (nS (au (sR ?_))))))))
 refine mV rfl (bN dn rfl rfl (mV rfl ?_))
 refine bw 4 (d := 21) (v := vb ((decide (a1.2 = 0)) && (!decide (a1.1 = x2)))) ?_ ?_
 ·intro S Q r
  cases a4 : (decide (a1.2 = 0))
  ·exact gN 3 rfl rfl rfl rfl rfl rfl
  ·intro k
   have a0 := a4
   try simp only [qa] at a0
   refine ah rfl rfl (ax rfl) (ah rfl rfl (ax rfl) (ah rfl rfl (bp rfl rfl kg) ?_))
   exact gK rfl rfl rfl rfl rfl k
 refine nS ?_
 refine bt s rfl ?_ ?_ <;> clear s <;> intro c s <;> try simp only [qa] at c
 ·refine sR (mI rfl (nS ?_))
  exact rR s rfl rfl rfl
 ·refine ba (aq (sR (mV rfl (mV rfl (nS ?_)))))
  exact rR s rfl rfl rfl

def RF107 (res : Int) (r : PV) : Prop := r = vi res
theorem ch5 {x0 : af} {x1 : av} {x2 : aj} {v0 v1 v2 : PV} (r0 : af.t.R x0 v0) (r1 : av.t.R x1 v1) (r2 : aj.t.R x2 v2) : FnR Tryz.prog 107 [v0, v1, v2] (vi (od x0 x1 x2)) := by
 refine fnS (R := RF107) cg1 (fun _ h => h) rfl fun res s => ?_
 unfold od at s
 refine sR (ae (cz rfl (TR.cnt af.t r0)) (ae (cz rfl (TR.cnt av.t r1)) (ae (cz rfl (TR.cnt aj.t r2)) (mI rfl (nR (lD r0 rfl rfl rfl (gL (av.g_Dst r1) rfl rfl rfl fun f6 c8 => ?_)))))))
 obtain ⟨a1, b7, s⟩ := bn s
 have c5 := bl1  r0 c8 
 rw [b7] at c5
 refine cL c5 rfl rfl (ab (TR.clo af.t r0) (ab (TR.clo ak.t c8) ay)) (mV rfl (xT rfl rfl (xT rfl rfl (mV rfl (mV rfl (nR (fL rfl (av.g_Register r1) rfl rfl (bN ja rfl rfl ?_))))))))
 refine mV rfl ?_
 refine bw 7 (d := 31) (v := vb ((decide (0 ≤ x1.Register)) && (decide (x1.Register < (x0.Registers.length : Int))))) ?_ ?_
 ·intro S Q r
  cases b5 : (decide (0 ≤ x1.Register))
  ·exact gN 6 rfl rfl rfl rfl rfl rfl
  ·intro k
   have a7 := b5
   try simp only [qa] at a7
   refine ah rfl rfl (br rfl (av.g_Register r1)) (ah rfl rfl (bq rfl rfl rfl) ?_)
   obtain ⟨e8, e0, a2⟩ := af.g_Registers r0
   refine ah rfl rfl (br rfl e0) (ah rfl rfl (bq rfl (TR.cnt (tSl cg.t) a2) (TR.agg (tSl cg.t) a2)) (ah rfl rfl (cy rfl (co a2 Tryz.underlying24 _)) (ah rfl rfl (bp rfl rfl ct) ?_)))
   exact gK rfl rfl rfl rfl rfl k
 refine mV rfl (nS (au (sR (fL rfl (av.g_Kind r1) rfl rfl (nS (cb (sR (bN dn rfl rfl ?_))))))))
 refine mV rfl (nS ?_)
 refine bt s rfl ?_ ?_ <;> clear s <;> intro c s <;> try simp only [qa] at c
 ·refine au (sR (mV rfl (ae (gv rfl) (nS ?_))))
  refine bt s rfl ?_ ?_ <;> clear s <;> intro c s <;> try simp only [qa] at c
  ·refine sR (mI rfl (nS ?_))
   exact rR s rfl rfl rfl
  ·refine ba (aq (sR (gL (av.g_Value r1) rfl rfl rfl fun f0 c7 => (lD r2 rfl rfl rfl (mV rfl ?_)))))
   obtain ⟨f5, b8, s⟩ := bn s
   have c6 := bl8 (x2 := a1.1) c7 r2 
   rw [b8] at c6
   refine cL c6 rfl rfl (ab (TR.clo (tSl aa.t) c7) (ab (TR.clo aj.t r2) (ab rfl ay))) (mV rfl (nS ?_))
   exact rR s rfl rfl rfl
 ·refine au (sR (bN dn rfl rfl (mV rfl (nS ?_))))
  obtain ⟨d3, d0, s⟩ := bn s
  refine pp (F := fun b S Q => ∀ (a0 : Bool), d3 a0 = res → RC Tryz.prog b S Q [(43, vb a0), (33, vi x1.Kind), (9, vb ((decide (0 ≤ x1.Register)) && (decide (x1.Register < (x0.Registers.length : Int))))), (8, vb a1.2), (7, vi a1.1), (5, .fp v2), (4, .fp v1), (3, .fp v0)] ⟨0, []⟩) ?_ ?_
  ·intro a0  s
   rw [← d0] at s
   refine bt s rfl ?_ ?_ <;> clear s <;> intro c s <;> try simp only [qa] at c
   ·refine au (sR (fL rfl (av.g_Header r1) rfl rfl (bN ct rfl rfl (mV rfl ?_))))
    refine bw 7 (d := 56) (v := vb ((decide (x1.Header < 0)) || (decide ((x0.Headers.length : Int) ≤ x1.Header)))) ?_ ?_
    ·intro S Q r
     cases b9 : (decide (x1.Header < 0))
     ·intro k
      have a4 := b9
      try simp only [qa] at a4
      refine ah rfl rfl (br rfl (av.g_Header r1)) (ah rfl rfl (bq rfl rfl rfl) ?_)
      obtain ⟨e9, d6, a9⟩ := af.g_Headers r0
      refine ah rfl rfl (br rfl d6) (ah rfl rfl (bq rfl (TR.cnt (tSl cm.t) a9) (TR.agg (tSl cm.t) a9)) (ah rfl rfl (cy rfl (co a9 Tryz.underlying22 _)) (ah rfl rfl (bp rfl rfl ja) ?_)))
      exact gK rfl rfl rfl rfl rfl k
     ·exact gN 6 rfl rfl rfl rfl rfl rfl
    refine nS ?_
    refine bt s rfl ?_ ?_ <;> clear s <;> intro c s <;> try simp only [qa] at c
    ·refine sR (mI rfl (nS ?_))
     exact rR s rfl rfl rfl
    ·refine ba (aq (sR (mI rfl (nS ?_))))
     exact rR s rfl rfl rfl
   ·refine sR (bN dn rfl rfl (mV rfl (nS ?_)))
    refine bt s rfl ?_ ?_ <;> clear s <;> intro c s <;> try simp only [qa] at c
    ·refine au (sR (mV rfl (ae (gv rfl) (mV rfl ?_))))
     refine bw 3 (d := 64) (v := vb ((!a1.2) || (!((decide (0 ≤ x1.Register)) && (decide (x1.Register < (x0.Registers.length : Int))))))) ?_ ?_
     ·intro S Q r
      cases b3 : (!a1.2)
      ·intro k
       have a6 := b3
       try simp only [qa] at a6
       refine ah rfl rfl (ax rfl) (ah rfl rfl (gv rfl) ?_)
       exact gK rfl rfl rfl rfl rfl k
      ·exact gN 2 rfl rfl rfl rfl rfl rfl
     refine nS ?_
     refine bt s rfl ?_ ?_ <;> clear s <;> intro c s <;> try simp only [qa] at c
     ·refine sR (mI rfl (nS ?_))
      exact rR s rfl rfl rfl
     ·refine ba (aq (sR ?_))
      obtain ⟨e7, d7, a5⟩ := av.g_Index r1
      refine fA rfl d7 (lD a5 rfl rfl rfl (lD r2 rfl rfl rfl ?_))
      obtain ⟨b6, c1, s⟩ := bn s
      have b0 := ac9  a5 r2 
      rw [c1] at b0
      refine cL b0 rfl rfl (ab (TR.clo (tSl aa.t) a5) (ab (TR.clo aj.t r2) ay)) (mV rfl (xT rfl rfl (xT rfl rfl (mV rfl (mV rfl (nS (au (sR ?_))))))))
      refine mV rfl (bN dn rfl rfl (mV rfl ?_))
      refine bw 10 (d := 84) (v := vb ((decide (b6.2 = 0)) && (!decide (a1.1 = ((ix x0.Registers x1.Register).Width))))) ?_ ?_
      ·intro S Q r
       cases d2 : (decide (b6.2 = 0))
       ·exact gN 9 rfl rfl rfl rfl rfl rfl
       ·intro k
        have a3 := d2
        try simp only [qa] at a3
        refine ah rfl rfl (ax rfl) ?_
        obtain ⟨e3, d8, a8⟩ := af.g_Registers r0
        refine ah rfl rfl (br rfl d8) (ah rfl rfl (bq rfl (TR.cnt (tSl cg.t) a8) (TR.agg (tSl cg.t) a8)) (ah rfl rfl (br rfl (av.g_Register r1)) (ah rfl rfl (bq rfl rfl rfl) ?_)))
        obtain ⟨f4, e2, e1⟩ := cr (i := x1.Register) a8 (by omega) (by omega)
        refine ah rfl rfl (bh rfl rfl e2) (ah rfl rfl (br rfl (cg.g_Width e1)) (ah rfl rfl (bq rfl rfl rfl) (ah rfl rfl (bp rfl rfl kg) ?_)))
        exact gK rfl rfl rfl rfl rfl k
      refine nS ?_
      refine bt s rfl ?_ ?_ <;> clear s <;> intro c s <;> try simp only [qa] at c
      ·refine sR (mI rfl (nS ?_))
       exact rR s rfl rfl rfl
      ·refine ba (aq (sR (mV rfl (mV rfl (nS ?_)))))
       exact rR s rfl rfl rfl
    ·refine sR (bN dn rfl rfl (mV rfl (nS ?_)))
     refine bt s rfl ?_ ?_ <;> clear s <;> intro c s <;> try simp only [qa] at c
     ·refine au (sR (mV rfl (ae (gv rfl) (nS ?_))))
      refine bt s rfl ?_ ?_ <;> clear s <;> intro c s <;> try simp only [qa] at c
      ·refine sR (mI rfl (nS ?_))
       exact rR s rfl rfl rfl
      ·refine ba (aq (sR (gL (av.g_Index r1) rfl rfl rfl fun f3 b4 => (lD r2 rfl rfl rfl ?_))))
       obtain ⟨e6, c9, s⟩ := bn s
       have b2 := ac9  b4 r2 
       rw [c9] at b2
       refine cL b2 rfl rfl (ab (TR.clo (tSl aa.t) b4) (ab (TR.clo aj.t r2) ay)) (mV rfl (xT rfl rfl (xT rfl rfl (mV rfl (mV rfl (nS (au (sR ?_))))))))
       refine mV rfl (bN kg rfl rfl (nS ?_))
       refine bt s rfl ?_ ?_ <;> clear s <;> intro c s <;> try simp only [qa] at c
       ·refine sR (mV rfl (mV rfl (nS ?_)))
        exact rR s rfl rfl rfl
       ·refine ba (aq (sR (gL (av.g_Value r1) rfl rfl rfl fun f1 c4 => (lD r2 rfl rfl rfl (gL (af.g_Registers r0) rfl rfl rfl fun f2 d4 => (fL rfl (av.g_Register r1) rfl rfl ?_))))))
        obtain ⟨e4, d5, d9⟩ := cr (i := x1.Register) d4 (by omega) (by omega)
        refine ae (bh rfl rfl d5) (fL rfl (cg.g_Width d9) rfl rfl ?_)
        obtain ⟨e5, d1, s⟩ := bn s
        have b1 := bl8 (x2 := (ix x0.Registers x1.Register).Width) c4 r2 
        rw [d1] at b1
        refine cL b1 rfl rfl (ab (TR.clo (tSl aa.t) c4) (ab (TR.clo aj.t r2) (ab rfl ay))) (mV rfl (nS ?_))
        exact rR s rfl rfl rfl
     ·refine ba (dj (aq (sR (mI rfl (nS ?_)))))
      exact rR s rfl rfl rfl
  ·intro J
   refine bt s rfl ?_ ?_ <;> clear s <;> intro c s <;> try simp only [qa] at c
   ·refine ba ?_
    refine aq (wC (J _  s) rfl)
   ·refine bb (bN dn rfl rfl (mV rfl (cf ?_)))
    refine aq (wC (J _  s) rfl)

def RF36 (res : Int × Int) (r : PV) : Prop := r = .tup [vi res.1, vi res.2]
theorem yq {S : List Fr} {res : Int × Int} {x0 : af} {x1 : Int} {c4 : Bool} {b9 : Int} {v0 a2 : PV} {b0 a7 : Nat} (r0 : af.t.R x0 v0) (b7 : ((decide (x1 < 0)) || (decide ((x0.Actions.length : Int) ≤ x1))) = false) (a6 : bz.t.R (ix x0.Actions x1) a2) (d4 : iy ((ix x0.Actions x1).Name) = c4) (b2 : (!c4) = false) (b3 : ((decide (4 < (((ix x0.Actions x1).Params).length : Int))) || (decide (12 < (((ix x0.Actions x1).Body).length : Int)))) = false) (d2 : pd ((ix x0.Actions x1).Params) = b9) (b6 : (!decide (b9 = 0)) = false) {K1 : Unit → (Int × Int)}
  (e1 : ∀ {h : Heap} (M0 : Mem h [⟨.op b0 a7 0, 97, 3, [a2]⟩]), K1 () = res → PX Tryz.prog 1 S (QR Tryz.prog [(4, none), (5, none)] (RF36 res)) [] h) :
  ∀ {m : Nat} {a0 : Int} (d3 : m = Int.toNat ((((ix x0.Actions x1).Body).length : Int) - a0)) (b8 : 0 ≤ a0) {h : Heap} (M0 : Mem h [⟨.op b0 a7 0, 97, 3, [a2]⟩]), lx x0 x1 K1 m a0 = res → RC Tryz.prog (.loop co4) S (QR Tryz.prog [(4, none), (5, none)] (RF36 res)) [(7, vi a0), (6, .op b0 a7 0), (2, .fp v0), (1, vi x1)] h := by
 have a9 := b7
 try simp only [qa] at a9
 have a4 := b2
 try simp only [qa] at a4
 have a8 := b3
 try simp only [qa] at a8
 have a5 := b6
 try simp only [qa] at a5
 intro m
 induction m with
 | zero =>
  intro a0 d3 b8 h M0 s
  rw [lx] at s
  refine de (au (sR (mV rfl (ae (bv rfl) ?_))))
  obtain ⟨d5, c5, c7⟩ := bz.g_Body a6
  refine ae (cq (k := 0) M0 rfl rfl c5) (ae (cy rfl (co c7 Tryz.underlying95 _)) (bN ct rfl rfl (nS ?_)))
  refine cw rfl ?_ ?_ <;> intro c <;> try simp only [qa] at c
  ·omega
  refine fc (gh (dy ?_))
  exact wP (e1 (Mem.sub M0 (.cons_cons _ .slnil)) s) rfl
 | succ m ih =>
  intro a0 d3 b8 h M0 s
  rw [lx] at s
  refine de (au (sR (mV rfl (ae (bv rfl) ?_))))
  obtain ⟨e0, d1, c1⟩ := bz.g_Body a6
  refine ae (cq (k := 0) M0 rfl rfl d1) (ae (cy rfl (co c1 Tryz.underlying95 _)) (bN ct rfl rfl (nS ?_)))
  refine cw rfl ?_ ?_ <;> intro c <;> try simp only [qa] at c
  rotate_left
  ·omega
  refine ba (aq (au (cb (sR (lD r0 rfl rfl rfl (ae (bv rfl) ?_))))))
  obtain ⟨d7, c6, c8⟩ := bz.g_Body a6
  refine ae (cq (k := 0) M0 rfl rfl c6) (mV rfl ?_)
  obtain ⟨d9, c9, a3⟩ := cr (i := a0) c8 (by omega) (by omega)
  refine ae (bh rfl rfl c9) (lD a3 rfl rfl rfl (lD r0 rfl rfl rfl (mV rfl ?_)))
  obtain ⟨d6, b5, s⟩ := bn s
  obtain ⟨e2, d0, a1⟩ := bv2 (x1 := x1) r0 (by omega)
  rw [b5] at a1
  refine cL d0 rfl rfl (ab (TR.clo af.t r0) (ab rfl ay)) ?_
  obtain ⟨d8, b1, s⟩ := bn s
  have b4 := ch5  r0 a3 a1 
  rw [b1] at b4
  refine cL b4 rfl rfl (ab (TR.clo af.t r0) (ab (TR.clo av.t a3) (ab (TR.clo aj.t a1) ay))) (mV rfl (nR (mV rfl (bN kg rfl rfl (nS ?_)))))
  refine bt s rfl ?_ ?_ <;> clear s <;> intro c s <;> try simp only [qa] at c
  ·refine sR (mV rfl (mV rfl (mV rfl (mV rfl (nS ?_)))))
   exact rT s rfl rfl rfl rfl rfl
  ·refine ba (dj (aq (bb (mV rfl (bN fy rfl rfl (mV rfl (cf (du ?_))))))))
   have hbd := fg c1
   have u : wr (a0 + 1) = a0 + 1 := ek (by omega) (by omega)
   erw [u]
   exact wC (ih   (by omega) (by omega) (Mem.sub M0 (.cons_cons _ .slnil)) s) rfl

theorem dm9 {x0 : af} {x1 : Int} {v0 : PV} (r0 : af.t.R x0 v0) : FnR Tryz.prog 36 [v0, vi x1] (.tup [vi ((mi x0 x1).1), vi ((mi x0 x1).2)]) := by
 refine fnS (R := RF36) de6 (fun _ h => h) rfl fun res s => ?_
 unfold mi at s
 refine sR (ae (cz rfl (TR.cnt af.t r0)) (mI rfl (mI rfl (nS (au (sR (mV rfl (bN ct rfl rfl ?_))))))))
 refine mV rfl ?_
 refine bw 6 (d := 17) (v := vb ((decide (x1 < 0)) || (decide ((x0.Actions.length : Int) ≤ x1)))) ?_ ?_
 ·intro S Q r
  cases c4 : (decide (x1 < 0))
  ·intro k
   have b0 := c4
   try simp only [qa] at b0
   refine ah rfl rfl (ax rfl) ?_
   obtain ⟨e3, d9, b2⟩ := af.g_Actions r0
   refine ah rfl rfl (br rfl d9) (ah rfl rfl (bq rfl (TR.cnt (tSl bz.t) b2) (TR.agg (tSl bz.t) b2)) (ah rfl rfl (cy rfl (co b2 Tryz.underlying25 _)) (ah rfl rfl (bp rfl rfl ja) ?_)))
   exact gK rfl rfl rfl rfl rfl k
  ·exact gN 5 rfl rfl rfl rfl rfl rfl
 refine nS ?_
 refine bt s rfl ?_ ?_ <;> clear s <;> intro a6 s <;> have b4 := a6 <;> try simp only [qa] at b4
 ·refine sR (mI rfl (mI rfl (nS ?_)))
  exact rT s rfl rfl rfl rfl rfl
 ·refine ba (aq (sR ?_))
  obtain ⟨e4, e0, b7⟩ := af.g_Actions r0
  refine fA rfl e0 (lD b7 rfl rfl rfl (mV rfl ?_))
  obtain ⟨b6, d4, a0⟩ := cr (i := x1) b7 (by omega) (by omega)
  refine ae (bh rfl rfl d4) (lD a0 rfl rfl rfl ?_)
  refine di (x := .agg [vs [], nilS, nilS]) (Mem.nil ⟨0, []⟩) rfl rfl (fun d8 d1 e9 d7 => ?_)
  refine ci (k := 0) (v := b6) d7 rfl rfl rfl (TR.cnt bz.t a0) (fun d0 a1 => ?_)
  replace a1 : Mem d0 [⟨.op d8 d1 0, 97, 3, [b6]⟩] := a1
  refine nS (au (cb (sR (ae (bv rfl) (ae (cq (k := 0) a1 rfl rfl (bz.g_Name a0)) ?_)))))
  obtain ⟨f1, a7, s⟩ := bn s
  have b8 := bj2 (x0 := (ix x0.Actions x1).Name)  
  rw [a7] at b8
  refine cL b8 rfl rfl (ab rfl ay) (ae (gv rfl) (mV rfl (nS ?_)))
  refine bt s rfl ?_ ?_ <;> clear s <;> intro a3 s <;> have a8 := a3 <;> try simp only [qa] at a8
  ·refine sR (mI rfl (mI rfl (nS ?_)))
   exact rT s rfl rfl rfl rfl rfl
  ·refine sR (ae (bv rfl) ?_)
   obtain ⟨f2, d6, c9⟩ := bz.g_Params a0
   refine ae (cq (k := 0) a1 rfl rfl d6) (ae (cy rfl (co c9 Tryz.underlying23 _)) (bN ki rfl rfl (mV rfl ?_)))
   refine bw 5 (d := 38) (v := vb ((decide (4 < (((ix x0.Actions x1).Params).length : Int))) || (decide (12 < (((ix x0.Actions x1).Body).length : Int))))) ?_ ?_
   ·intro S Q r
    cases b9 : (decide (4 < (((ix x0.Actions x1).Params).length : Int)))
    ·intro k
     have b1 := b9
     try simp only [qa] at b1
     refine ah rfl rfl (bv rfl) ?_
     obtain ⟨e5, d2, d3⟩ := bz.g_Body a0
     refine ah rfl rfl (cq (k := 0) a1 rfl rfl d2) (ah rfl rfl (cy rfl (co d3 Tryz.underlying95 _)) (ah rfl rfl (bp rfl rfl ki) ?_))
     exact gK rfl rfl rfl rfl rfl k
    ·exact gN 4 rfl rfl rfl rfl rfl rfl
   refine mV rfl (nS ?_)
   refine bt s rfl ?_ ?_ <;> clear s <;> intro a4 s <;> have b3 := a4 <;> try simp only [qa] at b3
   ·refine sR (mI rfl (mI rfl (nS ?_)))
    exact rT s rfl rfl rfl rfl rfl
   ·refine sR (ae (bv rfl) ?_)
    obtain ⟨f0, c8, c7⟩ := bz.g_Params a0
    refine ae (cq (k := 0) a1 rfl rfl c8) ?_
    obtain ⟨e8, a2, s⟩ := bn s
    have c5 := bf2  c7 
    rw [a2] at c5
    refine cL c5 rfl rfl (ab (TR.clo (tSl aw.t) c7) ay) (bN kg rfl rfl (mV rfl (nS ?_)))
    refine bt s rfl ?_ ?_ <;> clear s <;> intro a5 s <;> have a9 := a5 <;> try simp only [qa] at a9
    ·refine sR (ae (bv rfl) ?_)
     obtain ⟨e2, d5, c6⟩ := bz.g_Params a0
     refine ae (cq (k := 0) a1 rfl rfl d5) ?_
     obtain ⟨e6, c1, s⟩ := bn s
     have b5 := bf2  c6 
     rw [c1] at b5
     refine cL b5 rfl rfl (ab (TR.clo (tSl aw.t) c6) ay) (mI rfl (mV rfl (nS ?_)))
     exact rT s rfl rfl rfl rfl rfl
    ·refine ba (dj (aq (au (sR (mI rfl (nS (cb ?_)))))))
     refine wC (yq r0 a6 a0 a7 a3 a4 a2 a5 ?_  rfl (by omega) (Mem.sub a1 (.cons_cons _ .slnil)) s) rfl
     ·intro e1 e7 s
      refine gy (aq (sR (mI rfl (mI rfl (nS ?_)))))
      exact rT s rfl rfl rfl rfl rfl

def RF115 (res : Bool) (r : PV) : Prop := r = vb res
theorem cl4 {x0 : BitVec 32} {x1 : Int} : FnR Tryz.prog 115 [bd x0, vi x1] (vb (tc x0 x1)) := by
 refine fnS (R := RF115) cj9 (fun _ h => h) rfl fun res s => ?_
 unfold tc at s
 refine sR (mB rfl (nR (mV rfl ?_)))
 obtain ⟨a3, a4, s⟩ := bn s
 have a1 := ux (x0 := x1)  
 rw [a4] at a1
 refine cL a1 rfl rfl (ab rfl ay) (mV rfl ?_)
 refine bw 6 (d := 13) (v := vb (a3 && (decide ((BitVec.setWidth 64 x0) < (io x1))))) ?_ ?_
 ·intro S Q r
  cases a2 : a3
  ·exact gN 5 rfl rfl rfl rfl rfl rfl
  ·intro k
   have a0 := a2
   try simp only [qa] at a0
   refine ah rfl rfl (ax rfl) (ah rfl rfl (gi (a := bd x0) rfl (c_wd Tryz.underlying89 Tryz.underlying201)) (ah rfl rfl (ax rfl) ?_))
   have a5 := xc (x0 := x1)  (by (have hk := rval (by assumption) (by assumption); omega))
   refine jm rfl rfl (qq rfl rfl (ab rfl ay) a5) (ah rfl rfl (bp (a := jl (BitVec.setWidth 64 x0)) (b := jl (io x1)) rfl rfl ea4) ?_)
   exact gK rfl rfl rfl rfl rfl k
 refine mV rfl (nS ?_)
 exact rR s rfl rfl rfl

def RF42 (res : Int) (r : PV) : Prop := r = vi res
theorem vk {S : List Fr} {res : Int} {x0 : af} {x1 : bm} {v1 a4 : PV} (r1 : bm.t.R x1 v1) (a7 : ((decide (x1.Action < 0)) || (decide ((x0.Actions.length : Int) ≤ x1.Action))) = false) (a1 : (tSl aw.t).R ((ix x0.Actions x1.Action).Params) a4) (a8 : (!decide ((x1.Args.length : Int) = (((ix x0.Actions x1.Action).Params).length : Int))) = false) {K0 : Unit → Int}
  (b5 : K0 () = res → PX Tryz.prog 0 S (QR Tryz.prog [(4, none)] (RF42 res)) [] ⟨0, []⟩) :
  ∀ {m : Nat} {a0 : Int} (b3 : m = Int.toNat ((((ix x0.Actions x1.Action).Params).length : Int) - a0)) (a9 : 0 ≤ a0), jr x0 x1 K0 m a0 = res → RC Tryz.prog (.loop cw2) S (QR Tryz.prog [(4, none)] (RF42 res)) [(6, vi a0), (5, a4), (3, .fp v1)] ⟨0, []⟩ := by
 have a3 := a7
 try simp only [qa] at a3
 have a2 := a8
 try simp only [qa] at a2
 intro m
 induction m with
 | zero =>
  intro a0 b3 a9 s
  rw [jr] at s
  refine de (au (sR (mV rfl (mV rfl (ae (cy rfl (co a1 Tryz.underlying23 _)) (bN ct rfl rfl (nS ?_)))))))
  refine cw rfl ?_ ?_ <;> intro c <;> try simp only [qa] at c
  ·omega
  refine fc (gh (dy ?_))
  exact wP (b5  s) rfl
 | succ m ih =>
  intro a0 b3 a9 s
  rw [jr] at s
  refine de (au (sR (mV rfl (mV rfl (ae (cy rfl (co a1 Tryz.underlying23 _)) (bN ct rfl rfl (nS ?_)))))))
  refine cw rfl ?_ ?_ <;> intro c <;> try simp only [qa] at c
  rotate_left
  ·omega
  refine ba (aq (au (cb (sR (gL (bm.g_Args r1) rfl rfl rfl fun b7 b0 => (mV rfl (ae (bh rfl rfl (vv b0 (by omega) (by omega))) (lR rfl rfl rfl ?_))))))))
  refine mV rfl (mV rfl ?_)
  obtain ⟨b4, b2, b1⟩ := cr (i := a0) a1 (by omega) (by omega)
  refine ae (bh rfl rfl b2) (fL rfl (aw.g_Width b1) rfl rfl ?_)
  obtain ⟨b6, a5, s⟩ := bn s
  have a6 := cl4 (x0 := (ix x1.Args a0)) (x1 := (ix ((ix x0.Actions x1.Action).Params) a0).Width)  
  rw [a5] at a6
  refine cL a6 rfl rfl (ab rfl (ab rfl ay)) (ae (gv rfl) (nS ?_))
  refine bt s rfl ?_ ?_ <;> clear s <;> intro c s <;> try simp only [qa] at c
  ·refine sR (mI rfl (nS ?_))
   exact rR s rfl rfl rfl
  ·refine ba (dj (aq (bb (mV rfl (bN fy rfl rfl (mV rfl (cf (du ?_))))))))
   have hbd := fg a1
   have u : wr (a0 + 1) = a0 + 1 := ek (by omega) (by omega)
   erw [u]
   exact wC (ih   (by omega) (by omega) s) rfl

theorem dg2 {x0 : af} {x1 : bm} {v0 v1 : PV} (r0 : af.t.R x0 v0) (r1 : bm.t.R x1 v1) : FnR Tryz.prog 42 [v0, v1] (vi (gn x0 x1)) := by
 refine fnS (R := RF42) dl0 (fun _ h => h) rfl fun res s => ?_
 unfold gn at s
 refine sR (ae (cz rfl (TR.cnt af.t r0)) (ae (cz rfl (TR.cnt bm.t r1)) (mI rfl (nS (au (sR (fL rfl (bm.g_Action r1) rfl rfl (bN ct rfl rfl ?_))))))))
 refine mV rfl ?_
 refine bw 7 (d := 17) (v := vb ((decide (x1.Action < 0)) || (decide ((x0.Actions.length : Int) ≤ x1.Action)))) ?_ ?_
 ·intro S Q r
  cases a7 : (decide (x1.Action < 0))
  ·intro k
   have a2 := a7
   try simp only [qa] at a2
   refine ah rfl rfl (br rfl (bm.g_Action r1)) (ah rfl rfl (bq rfl rfl rfl) ?_)
   obtain ⟨b5, b2, a3⟩ := af.g_Actions r0
   refine ah rfl rfl (br rfl b2) (ah rfl rfl (bq rfl (TR.cnt (tSl bz.t) a3) (TR.agg (tSl bz.t) a3)) (ah rfl rfl (cy rfl (co a3 Tryz.underlying25 _)) (ah rfl rfl (bp rfl rfl ja) ?_)))
   exact gK rfl rfl rfl rfl rfl k
  ·exact gN 6 rfl rfl rfl rfl rfl rfl
 refine nS ?_
 refine bt s rfl ?_ ?_ <;> clear s <;> intro a0 s <;> have a5 := a0 <;> try simp only [qa] at a5
 ·refine sR (mI rfl (nS ?_))
  exact rR s rfl rfl rfl
 ·refine ba (aq (sR (gL (af.g_Actions r0) rfl rfl rfl fun b6 a8 => (fL rfl (bm.g_Action r1) rfl rfl ?_))))
  obtain ⟨b3, b0, a9⟩ := cr (i := x1.Action) a8 (by omega) (by omega)
  refine ae (bh rfl rfl b0) (gL (bz.g_Params a9) rfl rfl rfl fun b4 a6 => (mV rfl (nS (au (sR (gL (bm.g_Args r1) rfl rfl rfl fun b7 b1 => (ae (cy rfl (co b1 Tryz.underlying43 _)) (mV rfl ?_))))))))
  refine ae (cy rfl (co a6 Tryz.underlying23 _)) (bN kg rfl rfl (nS ?_))
  refine bt s rfl ?_ ?_ <;> clear s <;> intro a1 s <;> have a4 := a1 <;> try simp only [qa] at a4
  ·refine sR (mI rfl (nS ?_))
   exact rR s rfl rfl rfl
  ·refine ba (aq (au (sR (mI rfl (nS (cb ?_))))))
   refine wC (vk r1 a0 a6 a1 ?_  rfl (by omega) s) rfl
   ·intro  s
    refine gy (aq (sR (mI rfl (nS ?_))))
    exact rR s rfl rfl rfl

end Go.Proofs.YtmonnlkagniolaaGreat
