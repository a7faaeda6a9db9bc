/-
 The code of each function does what its plain program says.
-/
import Derived.Test.YtmonnlkagniolaaGreatL7W2
set_option linter.unusedVariables false
set_option linter.unusedSimpArgs false
set_option maxRecDepth 100000
namespace Go.Proofs.YtmonnlkagniolaaGreat
open Go Go.Pb Go.RowKit
def RF226 (res : Int × Int × Int) (r : PV) : Prop := r = .tup [vi res.1, vi res.2.1, vi res.2.2]
theorem tw {S : List Fr} {res : Int × Int × Int} {x0 : aj} {x1 : List aa} {x2 : Int} {rec_ : aj → (List aa) → Int → (Int × Int × Int)} {mu_ : Nat} {a7 : Int} {v0 v1 : PV} {a8 a9 : Nat} (r0 : aj.t.R x0 v0) (r1 : (tSl aa.t).R x1 v1) (h0 : 0 ≤ x2) (hb : x1.length ≤ 1000000) (ihR : ∀ {z0 : aj} {z1 : List aa} {z2 : Int} {d2 d4 : PV} (d7 : aj.t.R z0 d2) (d6 : (tSl aa.t).R z1 d4) (h0 : 0 ≤ z2) (hb : z1.length ≤ 1000000), (z1.length - z2.toNat) < mu_ → FnR Tryz.prog 226 [d2, d4, vi z2] (.tup [vi ((rec_ z0 z1 z2).1), vi ((rec_ z0 z1 z2).2.1), vi ((rec_ z0 z1 z2).2.2)])) (hmu : mu_ = (x1.length - x2.toNat)) (hrec : ∀ (z0 : aj) (z1 : List aa) (z2 : Int), 0 ≤ z2 → z1.length ≤ 1000000 → (rec_ z0 z1 z2).2.2 = 0 → z2 < (rec_ z0 z1 z2).2.1) (c8 : (decide ((x1.length : Int) ≤ x2)) = false) (d3 : cj ((ix x1 x2).Op) = a7) (c1 : (decide (a7 < 0)) = false) (b9 : (decide (a7 = 0)) = false) {K1 : Int → (List Int) → (Int × Int × Int)}
  (d5 : ∀ {b0 : Int} {a1 : List Int} {a2 : PV} (a3 : (tAr 3 tI).R a1 a2) {h : Heap} (M0 : Mem h [⟨.op a8 a9 0, 293, 3, [a2]⟩]), K1 b0 a1 = res → PX Tryz.prog 1 S (QR Tryz.prog [(6, none), (7, none), (8, none)] (RF226 res)) [(1, v1), (2, vi x2), (7, vi b0), (10, .op a8 a9 0)] h) :
  ∀ {m : Nat} {b0 a0 : Int} {a1 : List Int} {a2 : PV} (a3 : (tAr 3 tI).R a1 a2) (d0 : m = Int.toNat (a7 - a0)) (c7 : 0 ≤ a0) (b3 : x2 < b0) {h : Heap} (M0 : Mem h [⟨.op a8 a9 0, 293, 3, [a2]⟩]), cx x0 x1 rec_ K1 m b0 a0 a1 = res → RC Tryz.prog (.loop ca1) S (QR Tryz.prog [(6, none), (7, none), (8, none)] (RF226 res)) [(44, vi a0), (43, vi a7), (10, .op a8 a9 0), (7, vi b0), (3, .fp v0), (2, vi x2), (1, v1)] h := by
 have hb' := hb
 try simp only [qa] at hb'
 have b6 := c8
 try simp only [qa] at b6
 have b7 := c1
 try simp only [qa] at b7
 have b5 := b9
 try simp only [qa] at b5
 intro m
 induction m with
 | zero =>
  intro b0 a0 a1 a2 a3 d0 c7 b3 h M0 s
  rw [cx] at s
  refine de (sR (bN ct rfl rfl (nS (au ?_))))
  refine cw rfl ?_ ?_ <;> intro c <;> try simp only [qa] at c
  ·omega
  refine fc (gh (dy ?_))
  exact wP (d5 a3 (Mem.sub M0 (.cons_cons _ .slnil)) s) rfl
 | succ m ih =>
  intro b0 a0 a1 a2 a3 d0 c7 b3 h M0 s
  rw [cx] at s
  refine de (sR (bN ct rfl rfl (nS (au ?_))))
  refine cw rfl ?_ ?_ <;> intro c <;> try simp only [qa] at c
  rotate_left
  ·omega
  refine ba (aq (au (cb (sR (mV rfl (mV rfl (nR (mV rfl ?_))))))))
  refine lD r0 rfl rfl rfl (mV rfl (mV rfl ?_))
  obtain ⟨a4, b1, s⟩ := bn s
  have b8 := ihR (z0 := x0) (z1 := x1) (z2 := b0) r0 r1 (by omega) (by assumption) (by omega)
  rw [b1] at b8
  have d1 : a4.2.2 = 0 → b0 < a4.2.1 := by rw [← b1]; exact hrec _ _ _ (by omega) (by omega)
  refine cL b8 rfl rfl (ab (TR.clo aj.t r0) (ab (TR.clo (tSl aa.t) r1) (ab rfl ay))) (mV rfl (xT rfl rfl (xT rfl rfl (xT rfl rfl ?_))))
  have a5 : 0 ≤ a0 := by omega
  have a6 : a0 < 3 := by ((have hk := ar (by assumption); omega))
  refine ae (ba5 rfl rfl a5 a6) ?_
  obtain ⟨c4, c6, b2, c5⟩ := bn8 (t := tI) (i := a0) a3 a5 a6 (show tI.R a4.1 (vi a4.1) from rfl) rfl
  refine az6 (k := 0) (v := vi a4.1) M0 rfl rfl rfl c6 rfl b2.1 b2.2 (fun c9 b4 => ?_)
  replace b4 : Mem c9 [⟨.op a8 a9 0, 293, 3, [.agg (spl c4 (a0.toNat * 1) [vi a4.1])]⟩] := b4
  refine mV rfl (mV rfl (nR (mV rfl (bN kg rfl rfl (nS ?_)))))
  refine bt s rfl ?_ ?_ <;> clear s <;> intro c s <;> try simp only [qa] at c
  ·refine sR (mV rfl (mI rfl (mI rfl (mV rfl (nS ?_)))))
   subst s
   exact dw (.tmp rfl (.tmp rfl (.tmp rfl .nil))) (cd (show closed (.tup _) = true from (ab rfl (ab rfl (ab rfl ay))))) rfl
  ·refine ba (dj (aq (bb (bN fy rfl rfl (mV rfl (cf (du ?_)))))))
   have u : wr (a0 + 1) = a0 + 1 := ek (by omega) (by omega)
   erw [u]
   exact wC (ih  c5 (by omega) (by omega) (by omega) (Mem.sub b4 (.cons_cons _ .slnil)) s) rfl

theorem ca2 {rec_ : aj → (List aa) → Int → (Int × Int × Int)} {mu_ : Nat} {x0 : aj} {x1 : List aa} {x2 : Int} {v0 v1 : PV} (r0 : aj.t.R x0 v0) (r1 : (tSl aa.t).R x1 v1) (h0 : 0 ≤ x2) (hb : x1.length ≤ 1000000) (hmu : mu_ = (x1.length - x2.toNat)) (hrec : ∀ (z0 : aj) (z1 : List aa) (z2 : Int), 0 ≤ z2 → z1.length ≤ 1000000 → (rec_ z0 z1 z2).2.2 = 0 → z2 < (rec_ z0 z1 z2).2.1) (ihR : ∀ {z0 : aj} {z1 : List aa} {z2 : Int} {c7 c8 : PV} (e0 : aj.t.R z0 c7) (d9 : (tSl aa.t).R z1 c8) (h0 : 0 ≤ z2) (hb : z1.length ≤ 1000000), (z1.length - z2.toNat) < mu_ → FnR Tryz.prog 226 [c7, c8, vi z2] (.tup [vi ((rec_ z0 z1 z2).1), vi ((rec_ z0 z1 z2).2.1), vi ((rec_ z0 z1 z2).2.2)])) : FnR Tryz.prog 226 [v0, v1, vi x2] (.tup [vi ((dt rec_ x0 x1 x2).1), vi ((dt rec_ x0 x1 x2).2.1), vi ((dt rec_ x0 x1 x2).2.2)]) := by
 refine fnS (R := RF226) bb9 (fun _ h => h) rfl fun res s => ?_
 unfold dt at s
 refine sR (ae (cz rfl (TR.cnt aj.t r0)) (mI rfl (mI rfl (mI rfl (nS (au (sR (mV rfl ?_))))))))
 refine mV rfl (ae (cy rfl (co r1 Tryz.underlying32 _)) (bN ja rfl rfl (nS ?_)))
 refine bt s rfl ?_ ?_ <;> clear s <;> intro a4 s <;> have a6 := a4 <;> try simp only [qa] at a6
 ·refine sR (mI rfl (mI rfl (mI rfl (nS ?_))))
  subst s
  exact dw (.tmp rfl (.tmp rfl (.tmp rfl .nil))) (cd (show closed (.tup _) = true from (ab rfl (ab rfl (ab rfl ay))))) rfl
 ·refine ba (aq (sR (mV rfl (mV rfl ?_))))
  obtain ⟨d0, c6, c1⟩ := cr (i := x2) r1 (by omega) (by omega)
  refine ae (bh rfl rfl c6) (fL rfl (aa.g_Op c1) rfl rfl ?_)
  obtain ⟨d3, a3, s⟩ := bn s
  have b4 := ac3 (x0 := (ix x1 x2).Op)  
  rw [a3] at b4
  refine cL b4 rfl rfl (ab rfl ay) (mV rfl (nS (au (cb (sR (mV rfl (bN ct rfl rfl (mV rfl ?_))))))))
  refine nS ?_
  refine bt s rfl ?_ ?_ <;> clear s <;> intro a2 s <;> have a9 := a2 <;> try simp only [qa] at a9
  ·refine sR (mI rfl (mI rfl (mI rfl (nS ?_))))
   subst s
   exact dw (.tmp rfl (.tmp rfl (.tmp rfl .nil))) (cd (show closed (.tup _) = true from (ab rfl (ab rfl (ab rfl ay))))) rfl
  ·refine sR (mV rfl (bN dn rfl rfl (mV rfl (nS ?_))))
   refine bt s rfl ?_ ?_ <;> clear s <;> intro a1 s <;> have a5 := a1 <;> try simp only [qa] at a5
   ·refine sR (lD r0 rfl rfl rfl (mV rfl (mV rfl ?_)))
    obtain ⟨c9, b7, a7⟩ := cr (i := x2) r1 (by omega) (by omega)
    refine ae (bh rfl rfl b7) (lD a7 rfl rfl rfl ?_)
    obtain ⟨d2, b6, s⟩ := bn s
    have b2 := bh3  r0 a7 
    rw [b6] at b2
    refine cL b2 rfl rfl (ab (TR.clo aj.t r0) (ab (TR.clo aa.t a7) ay)) (mV rfl (xT rfl rfl (xT rfl rfl (mV rfl (mV rfl (nR (mV rfl (mV rfl ?_))))))))
    refine bN fy rfl rfl (mV rfl (mV rfl (mV rfl (mV rfl (nS ?_)))))
    subst s
    exact dw (.tmp rfl (.tmp rfl (.tmp rfl .nil))) (cd (show closed (.tup _) = true from (ab rfl (ab rfl (ab rfl ay))))) rfl
   ·refine ba (dj (aq (sR ?_)))
    refine di (x := .agg [vi 0, vi 0, vi 0]) (Mem.nil ⟨0, []⟩) rfl rfl (fun d7 d8 d1 b9 => ?_)
    refine nR (mV rfl (bN fy rfl rfl (mV rfl (nS (au (sR (mV rfl (mI rfl ?_))))))))
    refine nS (cb ?_)
    refine wC (tw r0 r1 h0 hb ihR hmu hrec a4 a3 a2 a1 ?_  (show (tAr 3 tI).R ([0, 0, 0] : List Int) (.agg [vi 0, vi 0, vi 0]) from ⟨rfl, [vi 0, vi 0, vi 0], [vi 0, vi 0, vi 0], ⟨rfl, ⟨rfl, ⟨rfl, trivial⟩⟩⟩, rfl, rfl⟩) rfl (by omega) (by (rw [ek (by omega) (by omega)]; omega)) (Mem.sub b9 (.cons_cons _ .slnil)) s) rfl
    ·intro b8 b0 b3 a0 d6 c5 s
     refine gy (aq (sR (mV rfl (mV rfl ?_))))
     obtain ⟨d5, c4, a8⟩ := cr (i := x2) r1 (by omega) (by omega)
     refine ae (bh rfl rfl c4) (lD a8 rfl rfl rfl (ae (fq (k := 0) c5 rfl rfl (TR.agg (tAr 3 tI) a0)) ?_))
     obtain ⟨d4, b5, s⟩ := bn s
     have b1 := cu4  a8 a0 
     rw [b5] at b1
     refine cL b1 rfl rfl (ab (TR.clo aa.t a8) (ab (TR.clo (tAr 3 tI) a0) ay)) (mV rfl (xT rfl rfl (xT rfl rfl (mV rfl (mV rfl (nR (mV rfl (mV rfl ?_))))))))
     refine mV rfl (mV rfl (mV rfl (mV rfl (nS ?_))))
     subst s
     exact dw (.tmp rfl (.tmp rfl (.tmp rfl .nil))) (cd (show closed (.tup _) = true from (ab rfl (ab rfl (ab rfl ay))))) rfl
theorem bw6 : ∀ (n_ : Nat) {x0 : aj} {x1 : List aa} {x2 : Int} {v0 v1 : PV} (r0 : aj.t.R x0 v0) (r1 : (tSl aa.t).R x1 v1) (h0 : 0 ≤ x2) (hb : x1.length ≤ 1000000), (x1.length - x2.toNat) < n_ → FnR Tryz.prog 226 [v0, v1, vi x2] (.tup [vi ((dc n_ x0 x1 x2).1), vi ((dc n_ x0 x1 x2).2.1), vi ((dc n_ x0 x1 x2).2.2)]) := by
 intro n_
 induction n_ with
 | zero => intros; rename_i hlt; exact absurd hlt (Nat.not_lt_zero _)
 | succ n_ ihn =>
  intro x0 x1 x2 v0 v1 r0 r1 h0 hb hlt
  have e_ : dc (n_ + 1) x0 x1 x2 = dt (dc n_) x0 x1 x2 := by rw [dc]
  rw [e_]
  exact ca2 r0 r1 h0 hb rfl (rb n_) (fun {z0} {z1} {z2} {zv0} {zv1} zr0 zr1 h0 hb hz => ihn zr0 zr1 h0 hb (by omega))
theorem cn7 {x0 : aj} {x1 : List aa} {x2 : Int} {v0 v1 : PV} (r0 : aj.t.R x0 v0) (r1 : (tSl aa.t).R x1 v1) (h0 : 0 ≤ x2) (hb : x1.length ≤ 1000000) : FnR Tryz.prog 226 [v0, v1, vi x2] (.tup [vi ((cn x0 x1 x2).1), vi ((cn x0 x1 x2).2.1), vi ((cn x0 x1 x2).2.2)]) := bw6 _ r0 r1 h0 hb (Nat.lt_succ_self _)

def RF174 (res : Int × Int) (r : PV) : Prop := r = .tup [vi res.1, vi res.2]
theorem am6 {x0 : List aa} {x1 : aj} {v0 v1 : PV} (r0 : (tSl aa.t).R x0 v0) (r1 : aj.t.R x1 v1) : FnR Tryz.prog 174 [v0, v1] (.tup [vi ((jq x0 x1).1), vi ((jq x0 x1).2)]) := by
 refine fnS (R := RF174) bh0 (fun _ h => h) rfl fun res s => ?_
 unfold jq at s
 refine sR (ae (cz rfl (TR.cnt aj.t r1)) (mI rfl (mI rfl (nS (au (sR (mV rfl (ae (cy rfl (co r0 Tryz.underlying32 _)) ?_))))))))
 refine bN ki rfl rfl (nS ?_)
 refine bt s rfl ?_ ?_ <;> clear s <;> intro c s <;> try simp only [qa] at c
 ·refine sR (mI rfl (mI rfl (nS ?_)))
  exact rT s rfl rfl rfl rfl rfl
 ·refine ba (aq (sR (lD r1 rfl rfl rfl (mV rfl ?_))))
  obtain ⟨a2, a1, s⟩ := bn s
  have a0 := cn7 (x2 := 0) r1 r0 (by omega) (by omega)
  rw [a1] at a0
  refine cL a0 rfl rfl (ab (TR.clo aj.t r1) (ab (TR.clo (tSl aa.t) r0) (ab rfl ay))) (mV rfl (xT rfl rfl (xT rfl rfl (xT rfl rfl (mV rfl (mV rfl (mV rfl (nS ?_))))))))
  refine au (cb (sR (mV rfl (bN kg rfl rfl (mV rfl (nS ?_))))))
  refine bt s rfl ?_ ?_ <;> clear s <;> intro c s <;> try simp only [qa] at c
  ·refine sR (mV rfl (mI rfl (mV rfl (nS ?_))))
   exact rT s rfl rfl rfl rfl rfl
  ·refine sR (mV rfl (mV rfl (ae (cy rfl (co r0 Tryz.underlying32 _)) (bN ct rfl rfl (mV rfl (nS ?_))))))
   refine bt s rfl ?_ ?_ <;> clear s <;> intro c s <;> try simp only [qa] at c
   ·refine sR (mI rfl (mI rfl (nS ?_)))
    exact rT s rfl rfl rfl rfl rfl
   ·refine ba (dj (aq (sR (mV rfl (mV rfl (mI rfl (nS ?_)))))))
    exact rT s rfl rfl rfl rfl rfl

def RF173 (res : Int) (r : PV) : Prop := r = vi res
theorem bb4 {x0 : dh} {x1 : List aa} {x2 : Int} {v0 v1 : PV} (r0 : dh.t.R x0 v0) (r1 : (tSl aa.t).R x1 v1) : FnR Tryz.prog 173 [v0, v1, vi x2] (vi (je x0 x1 x2)) := by
 refine fnS (R := RF173) bm7 (fun _ h => h) rfl fun res s => ?_
 unfold je at s
 refine sR (ae (cz rfl (TR.cnt dh.t r0)) (mI rfl (nR (mV rfl ?_))))
 obtain ⟨a7, a6, a0⟩ := dh.g_scope r0
 refine fA rfl a6 (lD a0 rfl rfl rfl ?_)
 obtain ⟨a2, a4, s⟩ := bn s
 have a5 := am6  r1 a0 
 rw [a4] at a5
 refine cL a5 rfl rfl (ab (TR.clo (tSl aa.t) r1) (ab (TR.clo aj.t a0) ay)) (mV rfl (xT rfl rfl (xT rfl rfl (mV rfl (mV rfl (nS (au (sR ?_))))))))
 refine mV rfl (bN dn rfl rfl (mV rfl ?_))
 refine bw 4 (d := 22) (v := vb ((decide (a2.2 = 0)) && (!decide (a2.1 = x2)))) ?_ ?_
 ·intro S Q r
  cases a3 : (decide (a2.2 = 0))
  ·exact gN 3 rfl rfl rfl rfl rfl rfl
  ·intro k
   have a1 := a3
   try simp only [qa] at a1
   refine ah rfl rfl (ax rfl) (ah rfl rfl (ax rfl) (ah rfl rfl (bp rfl rfl kg) ?_))
   exact gK rfl rfl rfl rfl rfl k
 refine nS ?_
 refine bt s rfl ?_ ?_ <;> clear s <;> intro c s <;> try simp only [qa] at c
 ·refine sR (mI rfl (nS ?_))
  exact rR s rfl rfl rfl
 ·refine ba (aq (sR (mV rfl (mV rfl (nS ?_)))))
  exact rR s rfl rfl rfl

def RF104 (res : Int) (r : PV) : Prop := r = vi res
theorem cs5 {x0 : dh} {x1 : av} {v0 v1 : PV} (r0 : dh.t.R x0 v0) (r1 : av.t.R x1 v1) : FnR Tryz.prog 104 [v0, v1] (vi (fu x0 x1)) := by
 refine fnS (R := RF104) bl7 (fun _ h => h) rfl fun res s => ?_
 unfold fu at s
 refine sR (ae (cz rfl (TR.cnt dh.t r0)) (ae (cz rfl (TR.cnt av.t r1)) (mI rfl (nR ?_))))
 obtain ⟨g3, e1, e8⟩ := dh.g_scope r0
 refine fA rfl e1 (gL (aj.g_Program e8) rfl rfl rfl fun b1 a2 => ?_)
 refine di (x := .agg [vs [], nilS, nilS, nilS, nilS, nilS, nilS, nilS, nilS]) (Mem.nil ⟨0, []⟩) rfl rfl (fun a7 a9 h0 e0 => ?_)
 refine ci (k := 0) (v := b1) e0 rfl rfl rfl (TR.cnt af.t a2) (fun f0 a5 => ?_)
 replace a5 : Mem f0 [⟨.op a7 a9 0, 31, 9, [b1]⟩] := a5
 refine nR (ae (fq (k := 0) a5 rfl rfl (TR.agg af.t a2)) (gL (av.g_Dst r1) rfl rfl rfl fun g1 b7 => ?_))
 obtain ⟨a3, b9, s⟩ := bn s
 have c5 := cl2  a2 b7 
 rw [b9] at c5
 refine cL c5 rfl rfl (ab (TR.clo af.t a2) (ab (TR.clo ak.t b7) ay)) (mV rfl (xT rfl rfl (xT rfl rfl (mV rfl (mV rfl (nR (fL rfl (av.g_Register r1) rfl rfl (bN ja rfl rfl ?_))))))))
 refine mV rfl ?_
 refine bw 7 (d := 31) (v := vb ((decide (0 ≤ x1.Register)) && (decide (x1.Register < (x0.scope.Program.Registers.length : Int))))) ?_ ?_
 ·intro S Q r
  cases b8 : (decide (0 ≤ x1.Register))
  ·exact gN 6 rfl rfl rfl rfl rfl rfl
  ·intro k
   have b3 := b8
   try simp only [qa] at b3
   refine ah rfl rfl (br rfl (av.g_Register r1)) (ah rfl rfl (bq rfl rfl rfl) (ah rfl rfl (bv rfl) ?_))
   obtain ⟨g7, f2, f4⟩ := af.g_Registers a2
   refine ah rfl rfl (cq (k := 0) a5 rfl rfl f2) (ah rfl rfl (cy rfl (co f4 Tryz.underlying24 _)) (ah rfl rfl (bp rfl rfl ct) ?_))
   exact gK rfl rfl rfl rfl rfl k
 refine mV rfl (nS (au (sR (fL rfl (av.g_Kind r1) rfl rfl (nS (cb (sR (bN dn rfl rfl ?_))))))))
 refine mV rfl (nS ?_)
 refine bt s rfl ?_ ?_ <;> clear s <;> intro c s <;> try simp only [qa] at c
 ·refine au (sR (mV rfl (ae (gv rfl) (nS ?_))))
  refine bt s rfl ?_ ?_ <;> clear s <;> intro c s <;> try simp only [qa] at c
  ·refine sR (mI rfl (nS ?_))
   exact rR s rfl rfl rfl
  ·refine ba (aq (sR (lD r0 rfl rfl rfl (gL (av.g_Value r1) rfl rfl rfl fun f8 d5 => (mV rfl ?_)))))
   obtain ⟨h1, d0, s⟩ := bn s
   have d4 := bb4 (x2 := a3.1) r0 d5 
   rw [d0] at d4
   refine cL d4 rfl rfl (ab (TR.clo dh.t r0) (ab (TR.clo (tSl aa.t) d5) (ab rfl ay))) (mV rfl (nS ?_))
   exact rR s rfl rfl rfl
 ·refine au (sR (bN dn rfl rfl (mV rfl (nS ?_))))
  obtain ⟨e9, d6, s⟩ := bn s
  refine pp (F := fun b S Q => ∀ (a1 : Bool) (a6 : Heap) (a4 : Mem a6 [⟨.op a7 a9 0, 31, 9, [b1]⟩]), e9 a1 = res → RC Tryz.prog b S Q [(43, vb a1), (33, vi x1.Kind), (8, vb ((decide (0 ≤ x1.Register)) && (decide (x1.Register < (x0.scope.Program.Registers.length : Int))))), (7, vb a3.2), (6, vi a3.1), (5, .op a7 a9 0), (3, .fp v1), (2, .fp v0)] a6) ?_ ?_
  ·intro a1 a6 a4 s
   rw [← d6] at s
   refine bt s rfl ?_ ?_ <;> clear s <;> intro c s <;> try simp only [qa] at c
   ·refine au (sR (fL rfl (av.g_Header r1) rfl rfl (bN ct rfl rfl (mV rfl ?_))))
    refine bw 7 (d := 56) (v := vb ((decide (x1.Header < 0)) || (decide ((x0.scope.Program.Headers.length : Int) ≤ x1.Header)))) ?_ ?_
    ·intro S Q r
     cases d3 : (decide (x1.Header < 0))
     ·intro k
      have b5 := d3
      try simp only [qa] at b5
      refine ah rfl rfl (br rfl (av.g_Header r1)) (ah rfl rfl (bq rfl rfl rfl) (ah rfl rfl (bv rfl) ?_))
      obtain ⟨f7, e2, e3⟩ := af.g_Headers a2
      refine ah rfl rfl (cq (k := 0) a4 rfl rfl e2) (ah rfl rfl (cy rfl (co e3 Tryz.underlying22 _)) (ah rfl rfl (bp rfl rfl ja) ?_))
      exact gK rfl rfl rfl rfl rfl k
     ·exact gN 6 rfl rfl rfl rfl rfl rfl
    refine nS ?_
    refine bt s rfl ?_ ?_ <;> clear s <;> intro c s <;> try simp only [qa] at c
    ·refine sR (mI rfl (nS ?_))
     exact rR s rfl rfl rfl
    ·refine ba (aq (sR (mI rfl (nS ?_))))
     exact rR s rfl rfl rfl
   ·refine au (sR (bN dn rfl rfl (mV rfl (nS ?_))))
    obtain ⟨e4, b6, s⟩ := bn s
    refine pp (F := fun b S Q => ∀ (a0 : Bool) (a8 : Heap) (b0 : Mem a8 [⟨.op a7 a9 0, 31, 9, [b1]⟩]), e4 a0 = res → RC Tryz.prog b S Q [(57, vb a0), (8, vb ((decide (0 ≤ x1.Register)) && (decide (x1.Register < (x0.scope.Program.Registers.length : Int))))), (7, vb a3.2), (6, vi a3.1), (5, .op a7 a9 0), (3, .fp v1), (2, .fp v0)] a8) ?_ ?_
    ·intro a0 a8 b0 s
     rw [← b6] at s
     refine bt s rfl ?_ ?_ <;> clear s <;> intro c s <;> try simp only [qa] at c
     ·refine au (sR (mV rfl (ae (gv rfl) (mV rfl ?_))))
      refine bw 8 (d := 70) (v := vb ((!((decide (0 ≤ x1.Register)) && (decide (x1.Register < (x0.scope.Program.Registers.length : Int))))) || ((decide (x1.Kind = 4)) && (!a3.2)))) ?_ ?_
      ·intro S Q r
       cases c7 : (!((decide (0 ≤ x1.Register)) && (decide (x1.Register < (x0.scope.Program.Registers.length : Int)))))
       ·intro k
        have b4 := c7
        try simp only [qa] at b4
        refine ah rfl rfl (br rfl (av.g_Kind r1)) (ah rfl rfl (bq rfl rfl rfl) (ah rfl rfl (bp rfl rfl dn) (ah rfl rfl (ax rfl) ?_)))
        refine bw 3 (d := 69) (v := vb ((decide (x1.Kind = 4)) && (!a3.2))) ?_ ?_
        ·intro S Q r
         cases d2 : (decide (x1.Kind = 4))
         ·intro k
          refine lh rfl rfl (lh rfl rfl (ah (v := vb false) rfl rfl (ob rfl rfl rfl rfl) ?_))
          exact wD k rfl
         ·intro k
          have b2 := d2
          try simp only [qa] at b2
          refine ah rfl rfl (ax rfl) (ah rfl rfl (gv rfl) (ah (v := vb (!a3.2)) rfl rfl (ob rfl rfl rfl rfl) ?_))
          exact wD k rfl
        exact gK rfl rfl rfl rfl rfl k
       ·exact gN 7 rfl rfl rfl rfl rfl rfl
      refine nS ?_
      refine bt s rfl ?_ ?_ <;> clear s <;> intro c s <;> try simp only [qa] at c
      ·refine sR (mI rfl (nS ?_))
       exact rR s rfl rfl rfl
      ·refine ba (aq (au (sR (gL (av.g_Index r1) rfl rfl rfl fun g5 c9 => (gL (dh.g_scope r0) rfl rfl rfl fun g6 d1 => ?_)))))
       obtain ⟨g4, c8, s⟩ := bn s
       have c1 := am6  c9 d1 
       rw [c8] at c1
       refine cL c1 rfl rfl (ab (TR.clo (tSl aa.t) c9) (ab (TR.clo aj.t d1) ay)) (mV rfl (xT rfl rfl (xT rfl rfl (mV rfl (mV rfl (nR (mV rfl (bN kg rfl rfl ?_))))))))
       refine nS ?_
       refine bt s rfl ?_ ?_ <;> clear s <;> intro c s <;> try simp only [qa] at c
       ·refine sR (mV rfl (mV rfl (nS ?_)))
        exact rR s rfl rfl rfl
       ·refine ba (aq (au (sR (fL rfl (av.g_Kind r1) rfl rfl (bN dn rfl rfl (nS ?_))))))
        refine bt s rfl ?_ ?_ <;> clear s <;> intro c s <;> try simp only [qa] at c
        ·refine sR (lD r0 rfl rfl rfl (gL (av.g_Value r1) rfl rfl rfl fun f6 c6 => (ae (bv rfl) ?_)))
         obtain ⟨f9, d9, f3⟩ := af.g_Registers a2
         refine ae (cq (k := 0) b0 rfl rfl d9) (fL rfl (av.g_Register r1) rfl rfl ?_)
         obtain ⟨g9, e6, f1⟩ := cr (i := x1.Register) f3 (by omega) (by omega)
         refine ae (bh rfl rfl e6) (fL rfl (cg.g_Width f1) rfl rfl ?_)
         obtain ⟨g0, c4, s⟩ := bn s
         have d7 := bb4 (x2 := (ix x0.scope.Program.Registers x1.Register).Width) r0 c6 
         rw [c4] at d7
         refine cL d7 rfl rfl (ab (TR.clo dh.t r0) (ab (TR.clo (tSl aa.t) c6) (ab rfl ay))) (mV rfl (nS ?_))
         exact rR s rfl rfl rfl
        ·refine ba (aq (au (sR (mV rfl (ae (bv rfl) ?_)))))
         obtain ⟨g2, e7, f5⟩ := af.g_Registers a2
         refine ae (cq (k := 0) b0 rfl rfl e7) (fL rfl (av.g_Register r1) rfl rfl ?_)
         obtain ⟨g8, d8, e5⟩ := cr (i := x1.Register) f5 (by omega) (by omega)
         refine ae (bh rfl rfl d8) (fL rfl (cg.g_Width e5) rfl rfl (bN kg rfl rfl (nS ?_)))
         refine bt s rfl ?_ ?_ <;> clear s <;> intro c s <;> try simp only [qa] at c
         ·refine sR (mI rfl (nS ?_))
          exact rR s rfl rfl rfl
         ·refine ba (aq (sR (mI rfl (nS ?_))))
          exact rR s rfl rfl rfl
     ·refine ba (dj (aq (sR (mI rfl (nS ?_)))))
      exact rR s rfl rfl rfl
    ·intro J
     refine bt s rfl ?_ ?_ <;> clear s <;> intro c s <;> try simp only [qa] at c
     ·refine ba ?_
      refine aq (wC (J _ _ (Mem.sub a4 (.cons_cons _ .slnil)) s) rfl)
     ·refine bb (bN dn rfl rfl (mV rfl (cf ?_)))
      refine aq (wC (J _ _ (Mem.sub a4 (.cons_cons _ .slnil)) s) rfl)
  ·intro J
   refine bt s rfl ?_ ?_ <;> clear s <;> intro c s <;> try simp only [qa] at c
   ·refine ba ?_
    refine aq (wC (J _ _ (Mem.sub a5 (.cons_cons _ .slnil)) s) rfl)
   ·refine bb (bN dn rfl rfl (mV rfl (cf ?_)))
    refine aq (wC (J _ _ (Mem.sub a5 (.cons_cons _ .slnil)) s) rfl)

def RF35 (res : Int × Int) (r : PV) : Prop := r = .tup [vi res.1, vi res.2]
theorem yd {S : List Fr} {res : Int × Int} {x0 : af} {x1 c7 : Int} {b3 a6 a0 a4 a2 a7 a3 a1 a5 c5 : PV} {b2 b1 : Nat} (c4 : ((decide (x1 < 0)) || (decide ((x0.Actions.length : Int) ≤ x1))) = false) (d5 : ly (ix x0.Actions x1) = c7) (b8 : (!decide (c7 = 0)) = false) (b9 : (tSl av.t).R ((ix x0.Actions x1).Body) c5) (b5 : dh.t.R ({ scope := ({ Program := x0, Params := (ix x0.Actions x1).Params } : aj) } : dh) (.agg [vs x0.Name, a6, a0, a4, a2, a7, a3, a1, a5, b3])) {K0 : Unit → (Int × Int)}
  (d7 : ∀ {h : Heap} (M0 : Mem h [⟨.op b2 b1 0, 151, 10, [.agg [vs x0.Name, a6, a0, a4, a2, a7, a3, a1, a5, b3]]⟩]), K0 () = res → PX Tryz.prog 0 S (QR Tryz.prog [(4, none), (5, none)] (RF35 res)) [] h) :
  ∀ {m : Nat} {a8 : Int} (d4 : m = Int.toNat ((((ix x0.Actions x1).Body).length : Int) - a8)) (c6 : 0 ≤ a8) {h : Heap} (M0 : Mem h [⟨.op b2 b1 0, 151, 10, [.agg [vs x0.Name, a6, a0, a4, a2, a7, a3, a1, a5, b3]]⟩]), jo x0 x1 K0 m a8 = res → RC Tryz.prog (.loop cn3) S (QR Tryz.prog [(4, none), (5, none)] (RF35 res)) [(37, vi a8), (36, vi (((ix x0.Actions x1).Body).length : Int)), (35, c5), (7, .op b2 b1 0)] h := by
 have b6 := c4
 try simp only [qa] at b6
 have b4 := b8
 try simp only [qa] at b4
 intro m
 induction m with
 | zero =>
  intro a8 d4 c6 h M0 s
  rw [jo] at s
  refine de (sR (bN ct rfl rfl (nS (au ?_))))
  refine cw rfl ?_ ?_ <;> intro c <;> try simp only [qa] at c
  ·omega
  refine fc (gh (dy ?_))
  exact wP (d7 (Mem.sub M0 (.cons_cons _ .slnil)) s) rfl
 | succ m ih =>
  intro a8 d4 c6 h M0 s
  rw [jo] at s
  refine de (sR (bN ct rfl rfl (nS (au ?_))))
  refine cw rfl ?_ ?_ <;> intro c <;> try simp only [qa] at c
  rotate_left
  ·omega
  refine ba (aq (au (cb (sR (mV rfl ?_)))))
  obtain ⟨b7, c9, a9⟩ := cr (i := a8) b9 (by omega) (by omega)
  refine ae (bh rfl rfl c9) (lD a9 rfl rfl rfl ?_)
  refine di (x := .agg [vi 0, vi 0, vi 0, vi 0, vi 0, nilS, nilS]) M0 rfl rfl (fun d0 d2 d6 d1 => ?_)
  refine mV rfl ?_
  refine ci (k := 0) (v := b7) d1 rfl rfl rfl (TR.cnt av.t a9) (fun d3 b0 => ?_)
  replace b0 : Mem d3 [⟨.op d0 d2 0, 135, 7, [b7]⟩, ⟨.op b2 b1 0, 151, 10, [.agg [vs x0.Name, a6, a0, a4, a2, a7, a3, a1, a5, b3]]⟩] := b0
  refine nR (ae (fq (k := 1) b0 rfl rfl (TR.agg dh.t b5)) (ae (fq (k := 0) b0 rfl rfl (TR.agg av.t a9)) ?_))
  obtain ⟨d8, c8, s⟩ := bn s
  have c1 := cs5  b5 a9 
  rw [c8] at c1
  refine cL c1 rfl rfl (ab (TR.clo dh.t b5) (ab (TR.clo av.t a9) ay)) (mV rfl (nR (mV rfl (bN kg rfl rfl (nS ?_)))))
  refine bt s rfl ?_ ?_ <;> clear s <;> intro c s <;> try simp only [qa] at c
  ·refine sR (mV rfl (mV rfl (mV rfl (mV rfl (nS ?_)))))
   exact rT s rfl rfl rfl rfl rfl
  ·refine ba (dj (aq (bb (bN fy rfl rfl (mV rfl (cf (du ?_)))))))
   have hbd := fg b9
   have u : wr (a8 + 1) = a8 + 1 := ek (by omega) (by omega)
   erw [u]
   exact wC (ih   (by omega) (by omega) (Mem.sub b0 (.cons _ (.cons_cons _ .slnil))) s) rfl

theorem dq4 {x0 : af} {x1 : Int} {v0 : PV} (r0 : af.t.R x0 v0) : FnR Tryz.prog 35 [v0, vi x1] (.tup [vi ((jy x0 x1).1), vi ((jy x0 x1).2)]) := by
 refine fnS (R := RF35) bt5 (fun _ h => h) rfl fun res s => ?_
 unfold jy at s
 refine sR (ae (cz rfl (TR.cnt af.t r0)) (mI rfl (mI rfl (nS (au (sR (mV rfl (bN ct rfl rfl ?_))))))))
 refine mV rfl ?_
 refine bw 6 (d := 18) (v := vb ((decide (x1 < 0)) || (decide ((x0.Actions.length : Int) ≤ x1)))) ?_ ?_
 ·intro S Q r
  cases d6 : (decide (x1 < 0))
  ·intro k
   have c9 := d6
   try simp only [qa] at c9
   refine ah rfl rfl (ax rfl) ?_
   obtain ⟨f2, e9, d0⟩ := af.g_Actions r0
   refine ah rfl rfl (br rfl e9) (ah rfl rfl (bq rfl (TR.cnt (tSl bz.t) d0) (TR.agg (tSl bz.t) d0)) (ah rfl rfl (cy rfl (co d0 Tryz.underlying25 _)) (ah rfl rfl (bp rfl rfl ja) ?_)))
   exact gK rfl rfl rfl rfl rfl k
  ·exact gN 5 rfl rfl rfl rfl rfl rfl
 refine nS ?_
 refine bt s rfl ?_ ?_ <;> clear s <;> intro c4 s <;> have d1 := c4 <;> try simp only [qa] at d1
 ·refine sR (mI rfl (mI rfl (nS ?_)))
  exact rT s rfl rfl rfl rfl rfl
 ·refine ba (aq (sR ?_))
  obtain ⟨f3, f0, d2⟩ := af.g_Actions r0
  refine fA rfl f0 (lD d2 rfl rfl rfl (mV rfl ?_))
  obtain ⟨c6, e2, a9⟩ := cr (i := x1) d2 (by omega) (by omega)
  refine ae (bh rfl rfl e2) (lD a9 rfl rfl rfl ?_)
  refine di (x := .agg [vs [], nilS, nilS]) (Mem.nil ⟨0, []⟩) rfl rfl (fun d7 d5 f6 e6 => ?_)
  refine ci (k := 0) (v := c6) e6 rfl rfl rfl (TR.cnt bz.t a9) (fun e0 b0 => ?_)
  replace b0 : Mem e0 [⟨.op d7 d5 0, 97, 3, [c6]⟩] := b0
  refine nS (au (sR (ae (fq (k := 0) b0 rfl rfl (TR.agg bz.t a9)) ?_)))
  obtain ⟨f8, c5, s⟩ := bn s
  have d4 := cw9  a9 
  rw [c5] at d4
  refine cL d4 rfl rfl (ab (TR.clo bz.t a9) ay) (mV rfl (nR (mV rfl (bN kg rfl rfl (nS ?_)))))
  refine bt s rfl ?_ ?_ <;> clear s <;> intro c1 s <;> have c8 := c1 <;> try simp only [qa] at c8
  ·refine sR (mV rfl (mI rfl (mV rfl (nS ?_))))
   exact rT s rfl rfl rfl rfl rfl
  ·refine ba (aq (sR (lD r0 rfl rfl rfl (ae (bv rfl) ?_))))
   obtain ⟨a8, e5, c7⟩ := bz.g_Params a9
   refine ae (cq (k := 0) b0 rfl rfl e5) ?_
   obtain ⟨a6, a0, a4, a2, a7, a3, a1, a5, e8, b9, b6, b7, b8, b5, b2, b4, b1⟩ := r0
   subst e8
   refine ae (v := .agg [vs x0.Name, a6, a0, a4, a2, a7, a3, a1, a5, a8]) (eg (cs := [vs x0.Name, a6, a0, a4, a2, a7, a3, a1, a5, a8]) rfl (by simp only [buildV, og (TR.cnt (tSl aw.t) c7) (TR.agg (tSl aw.t) c7)]; rfl)) (ae (v := .agg [vs x0.Name, a6, a0, a4, a2, a7, a3, a1, a5, a8]) (eg (cs := [vs x0.Name, a6, a0, a4, a2, a7, a3, a1, a5, a8]) rfl rfl) ?_)
   refine di (x := .agg [vs [], nilS, nilS, nilS, nilS, nilS, nilS, nilS, nilS, nilS]) b0 rfl rfl (fun e7 d9 f4 e3 => ?_)
   refine ci (k := 0) (v := .agg [vs x0.Name, a6, a0, a4, a2, a7, a3, a1, a5, a8]) e3 rfl rfl rfl rfl (fun d8 b3 => ?_)
   replace b3 : Mem d8 [⟨.op e7 d9 0, 151, 10, [.agg [vs x0.Name, a6, a0, a4, a2, a7, a3, a1, a5, a8]]⟩, ⟨.op d7 d5 0, 97, 3, [c6]⟩] := b3
   refine nS (au (sR (ae (bv rfl) ?_)))
   obtain ⟨f5, e4, d3⟩ := bz.g_Body a9
   refine ae (cq (k := 1) b3 rfl rfl e4) (ae (cy rfl (co d3 Tryz.underlying95 _)) (mI rfl (nS (cb ?_))))
   have e1 : dh.t.R ({ scope := ({ Program := x0, Params := (ix x0.Actions x1).Params } : aj) } : dh) (.agg [vs x0.Name, a6, a0, a4, a2, a7, a3, a1, a5, a8]) := ⟨a6, a0, a4, a2, a7, a3, a1, a5, a8, rfl, b9, b6, b7, b8, b5, b2, b4, b1, c7⟩
   refine wC (yd c4 c5 c1 d3 e1 ?_  rfl (by omega) (Mem.sub b3 (.cons_cons _ (.cons _ .slnil))) s) rfl
   ·intro f1 f7 s
    refine gy (aq (sR (mI rfl (mI rfl (nS ?_)))))
    exact rT s rfl rfl rfl rfl rfl

def RF114 (res : Bool) (r : PV) : Prop := r = vb res
theorem ct0 {x0 : BitVec 32} {x1 : Int} : FnR Tryz.prog 114 [bd x0, vi x1] (vb (sa x0 x1)) := by
 refine fnS (R := RF114) bj1 (fun _ h => h) rfl fun res s => ?_
 unfold sa at s
 refine sR (mB rfl (nR (mV rfl (ae (v := .fs true [vi x1]) (ko rfl (all_cons rfl oa)) ?_))))
 have a5 : (tSl tI).R ([x1] : List Int) (.fs true [vi x1]) := ah1 ⟨rfl, trivial⟩ (by simp)
 obtain ⟨a2, a4, s⟩ := bn s
 have a3 := ad5  a5 
 rw [a4] at a3
 refine cL a3 rfl rfl (ab (TR.clo (tSl tI) a5) ay) (mV rfl ?_)
 refine bw 5 (d := 13) (v := vb (a2 && (decide (x0 ≤ (ca x1))))) ?_ ?_
 ·intro S Q r
  cases a1 : a2
  ·exact gN 4 rfl rfl rfl rfl rfl rfl
  ·intro k
   have a0 := a1
   try simp only [qa] at a0
   refine ah rfl rfl (ax rfl) (ah rfl rfl (ax rfl) ?_)
   have a6 := kt (x0 := x1)  
   refine jm rfl rfl (qq rfl rfl (ab rfl ay) a6) (ah rfl rfl (bp (a := bd x0) (b := bd (ca x1)) rfl rfl ee9) ?_)
   exact gK rfl rfl rfl rfl rfl k
 refine mV rfl (nS ?_)
 exact rR s rfl rfl rfl

def RF41 (res : Int) (r : PV) : Prop := r = vi res
theorem uy {S : List Fr} {res : Int} {x0 : af} {x1 : bm} {a4 a3 : PV} (a7 : ((decide (x1.Action < 0)) || (decide ((x0.Actions.length : Int) ≤ x1.Action))) = false) (b1 : (tSl aw.t).R ((ix x0.Actions x1.Action).Params) a4) (a8 : (!decide ((x1.Args.length : Int) = (((ix x0.Actions x1.Action).Params).length : Int))) = false) (b0 : (tSl dg).R x1.Args a3) {K0 : Unit → Int}
  (b6 : K0 () = res → PX Tryz.prog 0 S (QR Tryz.prog [(4, none)] (RF41 res)) [] ⟨0, []⟩) :
  ∀ {m : Nat} {a0 : Int} (b4 : m = Int.toNat ((x1.Args.length : Int) - a0)) (a9 : 0 ≤ a0), ji x0 x1 K0 m a0 = res → RC Tryz.prog (.loop cu3) S (QR Tryz.prog [(4, none)] (RF41 res)) [(35, vi a0), (34, vi (x1.Args.length : Int)), (33, a3), (5, a4)] ⟨0, []⟩ := by
 have a2 := a7
 try simp only [qa] at a2
 have a1 := a8
 try simp only [qa] at a1
 intro m
 induction m with
 | zero =>
  intro a0 b4 a9 s
  rw [ji] at s
  refine de (sR (bN ct rfl rfl (nS (au ?_))))
  refine cw rfl ?_ ?_ <;> intro c <;> try simp only [qa] at c
  ·omega
  refine fc (gh (dy ?_))
  exact wP (b6  s) rfl
 | succ m ih =>
  intro a0 b4 a9 s
  rw [ji] at s
  refine de (sR (bN ct rfl rfl (nS (au ?_))))
  refine cw rfl ?_ ?_ <;> intro c <;> try simp only [qa] at c
  rotate_left
  ·omega
  refine ba (aq (au (cb (sR (mV rfl (ae (bh rfl rfl (vv b0 (by omega) (by omega))) (lR rfl rfl rfl (mV rfl ?_))))))))
  refine mV rfl (nR (mV rfl (mV rfl (mV rfl ?_))))
  obtain ⟨b5, b3, b2⟩ := cr (i := a0) b1 (by omega) (by omega)
  refine ae (bh rfl rfl b3) (fL rfl (aw.g_Width b2) rfl rfl ?_)
  obtain ⟨b7, a5, s⟩ := bn s
  have a6 := ct0 (x0 := (ix x1.Args a0)) (x1 := (ix ((ix x0.Actions x1.Action).Params) a0).Width)  
  rw [a5] at a6
  refine cL a6 rfl rfl (ab rfl (ab rfl ay)) (ae (gv rfl) (nS ?_))
  refine bt s rfl ?_ ?_ <;> clear s <;> intro c s <;> try simp only [qa] at c
  ·refine sR (mI rfl (nS ?_))
   exact rR s rfl rfl rfl
  ·refine ba (dj (aq (bb (bN fy rfl rfl (mV rfl (cf (du ?_)))))))
   have hbd := fg b0
   have u : wr (a0 + 1) = a0 + 1 := ek (by omega) (by omega)
   erw [u]
   exact wC (ih   (by omega) (by omega) s) rfl

theorem dj8 {x0 : af} {x1 : bm} {v0 v1 : PV} (r0 : af.t.R x0 v0) (r1 : bm.t.R x1 v1) : FnR Tryz.prog 41 [v0, v1] (vi (ik x0 x1)) := by
 refine fnS (R := RF41) bs0 (fun _ h => h) rfl fun res s => ?_
 unfold ik at s
 refine sR (ae (cz rfl (TR.cnt af.t r0)) (ae (cz rfl (TR.cnt bm.t r1)) (mI rfl (nS (au (sR (fL rfl (bm.g_Action r1) rfl rfl (bN ct rfl rfl ?_))))))))
 refine mV rfl ?_
 refine bw 7 (d := 18) (v := vb ((decide (x1.Action < 0)) || (decide ((x0.Actions.length : Int) ≤ x1.Action)))) ?_ ?_
 ·intro S Q r
  cases a7 : (decide (x1.Action < 0))
  ·intro k
   have a2 := a7
   try simp only [qa] at a2
   refine ah rfl rfl (br rfl (bm.g_Action r1)) (ah rfl rfl (bq rfl rfl rfl) ?_)
   obtain ⟨b7, b3, a3⟩ := af.g_Actions r0
   refine ah rfl rfl (br rfl b3) (ah rfl rfl (bq rfl (TR.cnt (tSl bz.t) a3) (TR.agg (tSl bz.t) a3)) (ah rfl rfl (cy rfl (co a3 Tryz.underlying25 _)) (ah rfl rfl (bp rfl rfl ja) ?_)))
   exact gK rfl rfl rfl rfl rfl k
  ·exact gN 6 rfl rfl rfl rfl rfl rfl
 refine nS ?_
 refine bt s rfl ?_ ?_ <;> clear s <;> intro a0 s <;> have a5 := a0 <;> try simp only [qa] at a5
 ·refine sR (mI rfl (nS ?_))
  exact rR s rfl rfl rfl
 ·refine ba (aq (sR (gL (af.g_Actions r0) rfl rfl rfl fun b8 a9 => (fL rfl (bm.g_Action r1) rfl rfl ?_))))
  obtain ⟨b4, b1, b0⟩ := cr (i := x1.Action) a9 (by omega) (by omega)
  refine ae (bh rfl rfl b1) (gL (bz.g_Params b0) rfl rfl rfl fun b6 a6 => (mV rfl (nS (au (sR (gL (bm.g_Args r1) rfl rfl rfl fun b9 b2 => (ae (cy rfl (co b2 Tryz.underlying43 _)) (mV rfl ?_))))))))
  refine ae (cy rfl (co a6 Tryz.underlying23 _)) (bN kg rfl rfl (nS ?_))
  refine bt s rfl ?_ ?_ <;> clear s <;> intro a1 s <;> have a4 := a1 <;> try simp only [qa] at a4
  ·refine sR (mI rfl (nS ?_))
   exact rR s rfl rfl rfl
  ·refine ba (aq (au (sR (gL (bm.g_Args r1) rfl rfl rfl fun b5 a8 => (ae (cy rfl (co a8 Tryz.underlying43 _)) (mI rfl (nS (cb ?_))))))))
   refine wC (uy a0 a6 a1 a8 ?_  rfl (by omega) s) rfl
   ·intro  s
    refine gy (aq (sR (mI rfl (nS ?_))))
    exact rR s rfl rfl rfl

def RF294 (res : (BitVec 32)) (r : PV) : Prop := r = bd res
theorem cn4 {x0 : ai} {x1 : ak} {v0 v1 : PV} (r0 : ai.t.R x0 v0) (r1 : ak.t.R x1 v1) : FnR Tryz.prog 294 [v0, v1] (bd (ww x0 x1)) := by
 refine fnS (R := RF294) bl0 (fun _ h => h) rfl fun res s => ?_
 unfold ww at s
 refine sR (ae (cz rfl (TR.cnt ai.t r0)) (ae (cz rfl (TR.cnt ak.t r1)) (ae (v := bd 0#32) (ax rfl) (nR (lD r0 rfl rfl rfl (lD r1 rfl rfl rfl ?_))))))
 obtain ⟨a4, a2, s⟩ := bn s
 obtain ⟨a3, a0, a1⟩ := cj0  r0 r1 
 rw [a2] at a0 a1
 refine cL a0 rfl rfl (ab (TR.clo ai.t r0) (ab (TR.clo ak.t r1) ay)) (mV rfl (xT rfl rfl (xT rfl rfl (mV rfl (mV rfl (nS (au (sR ?_))))))))
 refine mV rfl (ae (gv rfl) (nS ?_))
 refine bt s rfl ?_ ?_ <;> clear s <;> intro c s <;> try simp only [qa] at c
 ·refine sR (ae (v := bd 0#32) (ax rfl) (nS ?_))
  exact rR s rfl rfl rfl
 ·refine ba (aq (sR (mV rfl (fL rfl (ak.g_Field r1) rfl rfl (ae (bh rfl rfl (vv a1 (by exact (cz8 (by assumption) (by assumption)).1) (by exact (cz8 (by assumption) (by assumption)).2))) (lR rfl rfl rfl (mV rfl (nS ?_))))))))
  exact rR s rfl rfl rfl

end Go.Proofs.YtmonnlkagniolaaGreat
