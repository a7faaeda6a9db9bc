/-
 The code of each function does what its plain program says.
-/
import Derived.Test.YtmonnlkagniolaaGreatL6W1
set_option linter.unusedVariables false
set_option linter.unusedSimpArgs false
set_option maxRecDepth 100000
namespace Go.Proofs.YtmonnlkagniolaaGreat
open Go Go.Pb Go.RowKit
def RF226 (n : Int × Int × Int) (r : PV) : Prop := r = .tup [vi n.1, vi n.2.1, vi n.2.2]
theorem qk {S : List Fr} {n : Int × Int × Int} {x0 : au} {x1 : List ab} {x2 : Int} {rec_ : au → (List ab) → Int → (Int × Int × Int)} {mu_ : Nat} {a9 : Int} {v0 v1 : PV} {a7 a8 : Nat} (r0 : au.t.R x0 v0) (r1 : (tSl ab.t).R x1 v1) (h0 : 0 ≤ x2) (hb : x1.length ≤ 1000000) (ihR : ∀ {z0 : au} {z1 : List ab} {z2 : Int} {d1 c8 : PV} (d4 : au.t.R z0 d1) (d3 : (tSl ab.t).R z1 c8) (h0 : 0 ≤ z2) (hb : z1.length ≤ 1000000), (z1.length - z2.toNat) < mu_ → FnR Tryz.prog 226 [d1, c8, vi z2] (.tup [vi ((rec_ z0 z1 z2).1), vi ((rec_ z0 z1 z2).2.1), vi ((rec_ z0 z1 z2).2.2)])) (hmu : mu_ = (x1.length - x2.toNat)) (hrec : ∀ (z0 : au) (z1 : List ab) (z2 : Int), 0 ≤ z2 → z1.length ≤ 1000000 → (rec_ z0 z1 z2).2.2 = 0 → z2 < (rec_ z0 z1 z2).2.1) (c5 : (decide ((x1.length : Int) ≤ x2)) = false) (d0 : dh ((ix x1 x2).Op) = a9) (c1 : (decide (a9 < 0)) = false) (c0 : (decide (a9 = 0)) = false) {K1 : Int → (List Int) → (Int × Int × Int)}
  (d2 : ∀ {b0 : Int} {a1 : List Int} {a2 : PV} (a3 : (tAr 3 tI).R a1 a2) {h : Heap} (M0 : Mem h [⟨.op a7 a8 0, 293, 3, [a2]⟩]), K1 b0 a1 = n → PX Tryz.prog 1 S (QR Tryz.prog [(6, none), (7, none), (8, none)] (RF226 n)) [(1, v1), (2, vi x2), (7, vi b0), (10, .op a7 a8 0)] h) :
  ∀ {m : Nat} {b0 a0 : Int} {a1 : List Int} {a2 : PV} (a3 : (tAr 3 tI).R a1 a2) (c9 : m = Int.toNat (a9 - a0)) (c4 : 0 ≤ a0) (b1 : x2 < b0) {h : Heap} (M0 : Mem h [⟨.op a7 a8 0, 293, 3, [a2]⟩]), cd x0 x1 rec_ K1 m b0 a0 a1 = n → RC Tryz.prog (.loop bi3) S (QR Tryz.prog [(6, none), (7, none), (8, none)] (RF226 n)) [(44, vi a0), (43, vi a9), (10, .op a7 a8 0), (7, vi b0), (3, .fp v0), (2, vi x2), (1, v1)] h := by
 have hb' := hb
 try simp only [qa] at hb'
 have b6 := c5
 try simp only [qa] at b6
 have b4 := c1
 try simp only [qa] at b4
 have b5 := c0
 try simp only [qa] at b5
 intro m
 induction m with
 | zero =>
  intro b0 a0 a1 a2 a3 c9 c4 b1 h M0 z
  rw [cd] at z
  refine cj (sR (bN cn rfl rfl (nS (aq ?_))))
  refine cb rfl ?_ ?_ <;> intro c <;> try simp only [qa] at c
  ·omega
  refine dw (fj (dl ?_))
  exact wP (d2 a3 (Mem.sub M0 (.cons_cons _ .slnil)) z) rfl
 | succ m ih =>
  intro b0 a0 a1 a2 a3 c9 c4 b1 h M0 z
  rw [cd] at z
  refine cj (sR (bN cn rfl rfl (nS (aq ?_))))
  refine cb rfl ?_ ?_ <;> intro c <;> try simp only [qa] at c
  rotate_left
  ·omega
  refine ax (am (aq (bh (sR (mV rfl (mV rfl (nR (mV rfl ?_))))))))
  refine lD r0 rfl rfl rfl (mV rfl (mV rfl ?_))
  obtain ⟨a4, b3, z⟩ := bq z
  have b8 := ihR (z0 := x0) (z1 := x1) (z2 := b0) r0 r1 (by first | assumption | omega | (rw [de (by omega) (by omega)]; omega)) (by first | assumption | omega | (rw [de (by omega) (by omega)]; omega)) (by first | omega | (rw [de (by omega) (by omega)]; omega))
  rw [b3] at b8
  have c7 : a4.2.2 = 0 → b0 < a4.2.1 := by rw [← b3]; exact hrec _ _ _ (by omega) (by omega)
  refine cL b8 rfl rfl (ak (TR.clo au.t r0) (ak (TR.clo (tSl ab.t) r1) (ak rfl bc))) (mV rfl (xT rfl rfl (xT rfl rfl (xT rfl rfl ?_))))
  have a5 : 0 ≤ a0 := by first | omega | (have hk := ar (by assumption); omega)
  have a6 : a0 < 3 := by first | omega | (have hk := ar (by assumption); omega)
  refine ae (an0 rfl rfl a5 a6) ?_
  obtain ⟨b9, c2, b2, c3⟩ := ba7 (t := tI) (i := a0) a3 a5 a6 (show tI.R a4.1 (vi a4.1) from rfl) rfl
  refine ap6 (k := 0) (v := vi a4.1) M0 rfl rfl rfl c2 rfl b2.1 b2.2 (fun c6 b7 => ?_)
  replace b7 : Mem c6 [⟨.op a7 a8 0, 293, 3, [.agg (spl b9 (a0.toNat * 1) [vi a4.1])]⟩] := b7
  refine mV rfl (mV rfl (nR (mV rfl (bN ig rfl rfl (nS ?_)))))
  refine bm z rfl ?_ ?_ <;> clear z <;> intro c z <;> try simp only [qa] at c
  ·refine sR (mV rfl (mI rfl (mI rfl (mV rfl (nS ?_)))))
   subst z
   exact gm (.tmp rfl (.tmp rfl (.tmp rfl .nil))) (dm (show closed (.tup _) = true from (ak rfl (ak rfl (ak rfl bc))))) rfl
  ·refine ax (cp (am (aw (bN em rfl rfl (mV rfl (bp (cq ?_)))))))
   have o : wr (a0 + 1) = a0 + 1 := de (by omega) (by first | omega | (have hk := ar (by assumption); omega))
   erw [o]
   exact wC (ih  c3 (by omega) (by omega) (by first | omega | (simp; done) | (simp only [List.length_append, List.length_cons, List.length_nil, List.length_set]; omega)) (Mem.sub b7 (.cons_cons _ .slnil)) z) rfl

theorem bd2 {rec_ : au → (List ab) → Int → (Int × Int × Int)} {mu_ : Nat} {x0 : au} {x1 : List ab} {x2 : Int} {v0 v1 : PV} (r0 : au.t.R x0 v0) (r1 : (tSl ab.t).R x1 v1) (h0 : 0 ≤ x2) (hb : x1.length ≤ 1000000) (hmu : mu_ = (x1.length - x2.toNat)) (hrec : ∀ (z0 : au) (z1 : List ab) (z2 : Int), 0 ≤ z2 → z1.length ≤ 1000000 → (rec_ z0 z1 z2).2.2 = 0 → z2 < (rec_ z0 z1 z2).2.1) (ihR : ∀ {z0 : au} {z1 : List ab} {z2 : Int} {c5 c4 : PV} (d7 : au.t.R z0 c5) (d6 : (tSl ab.t).R z1 c4) (h0 : 0 ≤ z2) (hb : z1.length ≤ 1000000), (z1.length - z2.toNat) < mu_ → FnR Tryz.prog 226 [c5, c4, vi z2] (.tup [vi ((rec_ z0 z1 z2).1), vi ((rec_ z0 z1 z2).2.1), vi ((rec_ z0 z1 z2).2.2)])) : FnR Tryz.prog 226 [v0, v1, vi x2] (.tup [vi ((da rec_ x0 x1 x2).1), vi ((da rec_ x0 x1 x2).2.1), vi ((da rec_ x0 x1 x2).2.2)]) := by
 refine fnS (R := RF226) ax3 (fun _ h => h) rfl fun n z => ?_
 unfold da at z
 refine sR (ae (ej rfl (TR.cnt au.t r0)) (mI rfl (mI rfl (mI rfl (nS (aq (sR (mV rfl ?_))))))))
 refine mV rfl (ae (cv rfl (cm r1 Tryz.underlying32 _)) (bN lv rfl rfl (nS ?_)))
 refine bm z rfl ?_ ?_ <;> clear z <;> intro a3 z <;> have a7 := a3 <;> try simp only [qa] at a7
 ·refine sR (mI rfl (mI rfl (mI rfl (nS ?_))))
  subst z
  exact gm (.tmp rfl (.tmp rfl (.tmp rfl .nil))) (dm (show closed (.tup _) = true from (ak rfl (ak rfl (ak rfl bc))))) rfl
 ·refine ax (am (sR (mV rfl (mV rfl ?_))))
  obtain ⟨c6, b7, c0⟩ := cz (i := x2) r1 (by omega) (by omega)
  refine ae (bf rfl rfl b7) (fL rfl (ab.g_Op c0) rfl rfl ?_)
  obtain ⟨d5, a4, z⟩ := bq z
  have b2 := ac8 (x0 := (ix x1 x2).Op)  
  rw [a4] at b2
  refine cL b2 rfl rfl (ak rfl bc) (mV rfl (nS (aq (bh (sR (mV rfl (bN cn rfl rfl (mV rfl ?_))))))))
  refine nS ?_
  refine bm z rfl ?_ ?_ <;> clear z <;> intro a2 z <;> have a5 := a2 <;> try simp only [qa] at a5
  ·refine sR (mI rfl (mI rfl (mI rfl (nS ?_))))
   subst z
   exact gm (.tmp rfl (.tmp rfl (.tmp rfl .nil))) (dm (show closed (.tup _) = true from (ak rfl (ak rfl (ak rfl bc))))) rfl
  ·refine sR (mV rfl (bN dc rfl rfl (mV rfl (nS ?_))))
   refine bm z rfl ?_ ?_ <;> clear z <;> intro a1 z <;> have a9 := a1 <;> try simp only [qa] at a9
   ·refine sR (lD r0 rfl rfl rfl (mV rfl (mV rfl ?_)))
    obtain ⟨d3, c2, a6⟩ := cz (i := x2) r1 (by omega) (by omega)
    refine ae (bf rfl rfl c2) (lD a6 rfl rfl rfl ?_)
    obtain ⟨d4, b1, z⟩ := bq z
    have b3 := cc8  r0 a6 
    rw [b1] at b3
    refine cL b3 rfl rfl (ak (TR.clo au.t r0) (ak (TR.clo ab.t a6) bc)) (mV rfl (xT rfl rfl (xT rfl rfl (mV rfl (mV rfl (nR (mV rfl (mV rfl ?_))))))))
    refine bN em rfl rfl (mV rfl (mV rfl (mV rfl (mV rfl (nS ?_)))))
    subst z
    exact gm (.tmp rfl (.tmp rfl (.tmp rfl .nil))) (dm (show closed (.tup _) = true from (ak rfl (ak rfl (ak rfl bc))))) rfl
   ·refine ax (cp (am (sR ?_)))
    refine gh (x := .agg [vi 0, vi 0, vi 0]) (Mem.nil ⟨0, []⟩) rfl rfl (fun c8 d0 c9 b9 => ?_)
    refine nR (mV rfl (bN em rfl rfl (mV rfl (nS (aq (sR (mV rfl (mI rfl ?_))))))))
    refine nS (bh ?_)
    refine wC (qk r0 r1 h0 hb ihR hmu hrec a3 a4 a2 a1 ?_  (show (tAr 3 tI).R ([0, 0, 0] : List Int) (.agg [vi 0, vi 0, vi 0]) from ⟨rfl, [vi 0, vi 0, vi 0], [vi 0, vi 0, vi 0], ⟨rfl, ⟨rfl, ⟨rfl, trivial⟩⟩⟩, rfl, rfl⟩) rfl (by omega) (by (rw [de (by omega) (by omega)]; omega)) (Mem.sub b9 (.cons_cons _ .slnil)) z) rfl
    ·intro c1 b0 b4 a0 c7 b8 z
     refine fx (am (sR (mV rfl (mV rfl ?_))))
     obtain ⟨d1, c3, a8⟩ := cz (i := x2) r1 (by omega) (by omega)
     refine ae (bf rfl rfl c3) (lD a8 rfl rfl rfl (ae (ou (k := 0) b8 rfl rfl (TR.agg (tAr 3 tI) a0)) ?_))
     obtain ⟨d2, b6, z⟩ := bq z
     have b5 := bx0  a8 a0 
     rw [b6] at b5
     refine cL b5 rfl rfl (ak (TR.clo ab.t a8) (ak (TR.clo (tAr 3 tI) a0) bc)) (mV rfl (xT rfl rfl (xT rfl rfl (mV rfl (mV rfl (nR (mV rfl (mV rfl ?_))))))))
     refine mV rfl (mV rfl (mV rfl (mV rfl (nS ?_))))
     subst z
     exact gm (.tmp rfl (.tmp rfl (.tmp rfl .nil))) (dm (show closed (.tup _) = true from (ak rfl (ak rfl (ak rfl bc))))) rfl
theorem bd0 : ∀ (n_ : Nat) {x0 : au} {x1 : List ab} {x2 : Int} {v0 v1 : PV} (r0 : au.t.R x0 v0) (r1 : (tSl ab.t).R x1 v1) (h0 : 0 ≤ x2) (hb : x1.length ≤ 1000000), (x1.length - x2.toNat) < n_ → FnR Tryz.prog 226 [v0, v1, vi x2] (.tup [vi ((ci n_ x0 x1 x2).1), vi ((ci n_ x0 x1 x2).2.1), vi ((ci n_ x0 x1 x2).2.2)]) := by
 intro n_
 induction n_ with
 | zero => intros; rename_i hlt; exact absurd hlt (Nat.not_lt_zero _)
 | succ n_ ihn =>
  intro x0 x1 x2 v0 v1 r0 r1 h0 hb hlt
  have e_ : ci (n_ + 1) x0 x1 x2 = da (ci n_) x0 x1 x2 := by rw [ci]
  rw [e_]
  exact bd2 r0 r1 h0 hb rfl (oa n_) (fun {z0} {z1} {z2} {zv0} {zv1} zr0 zr1 h0 hb hz => ihn zr0 zr1 h0 hb (by omega))
theorem cc2 {x0 : au} {x1 : List ab} {x2 : Int} {v0 v1 : PV} (r0 : au.t.R x0 v0) (r1 : (tSl ab.t).R x1 v1) (h0 : 0 ≤ x2) (hb : x1.length ≤ 1000000) : FnR Tryz.prog 226 [v0, v1, vi x2] (.tup [vi ((bz x0 x1 x2).1), vi ((bz x0 x1 x2).2.1), vi ((bz x0 x1 x2).2.2)]) := bd0 _ r0 r1 h0 hb (Nat.lt_succ_self _)

def RF174 (n : Int × Int) (r : PV) : Prop := r = .tup [vi n.1, vi n.2]
theorem ar2 {x0 : List ab} {x1 : au} {v0 v1 : PV} (r0 : (tSl ab.t).R x0 v0) (r1 : au.t.R x1 v1) : FnR Tryz.prog 174 [v0, v1] (.tup [vi ((lk x0 x1).1), vi ((lk x0 x1).2)]) := by
 refine fnS (R := RF174) as6 (fun _ h => h) rfl fun n z => ?_
 unfold lk at z
 refine sR (ae (ej rfl (TR.cnt au.t r1)) (mI rfl (mI rfl (nS (aq (sR (mV rfl (ae (cv rfl (cm r0 Tryz.underlying32 _)) ?_))))))))
 refine bN ke rfl rfl (nS ?_)
 refine bm z rfl ?_ ?_ <;> clear z <;> intro c z <;> try simp only [qa] at c
 ·refine sR (mI rfl (mI rfl (nS ?_)))
  exact rT z rfl rfl rfl rfl rfl
 ·refine ax (am (sR (lD r1 rfl rfl rfl (mV rfl ?_))))
  obtain ⟨a2, a0, z⟩ := bq z
  have a1 := cc2 (x2 := 0) r1 r0 (by first | assumption | omega | (rw [de (by omega) (by omega)]; omega)) (by first | assumption | omega | (rw [de (by omega) (by omega)]; omega))
  rw [a0] at a1
  refine cL a1 rfl rfl (ak (TR.clo au.t r1) (ak (TR.clo (tSl ab.t) r0) (ak rfl bc))) (mV rfl (xT rfl rfl (xT rfl rfl (xT rfl rfl (mV rfl (mV rfl (mV rfl (nS ?_))))))))
  refine aq (bh (sR (mV rfl (bN ig rfl rfl (mV rfl (nS ?_))))))
  refine bm z rfl ?_ ?_ <;> clear z <;> intro c z <;> try simp only [qa] at c
  ·refine sR (mV rfl (mI rfl (mV rfl (nS ?_))))
   exact rT z rfl rfl rfl rfl rfl
  ·refine sR (mV rfl (mV rfl (ae (cv rfl (cm r0 Tryz.underlying32 _)) (bN cn rfl rfl (mV rfl (nS ?_))))))
   refine bm z rfl ?_ ?_ <;> clear z <;> intro c z <;> try simp only [qa] at c
   ·refine sR (mI rfl (mI rfl (nS ?_)))
    exact rT z rfl rfl rfl rfl rfl
   ·refine ax (cp (am (sR (mV rfl (mV rfl (mI rfl (nS ?_)))))))
    exact rT z rfl rfl rfl rfl rfl

def RF173 (n : Int) (r : PV) : Prop := r = vi n
theorem as2 {x0 : ck} {x1 : List ab} {x2 : Int} {v0 v1 : PV} (r0 : ck.t.R x0 v0) (r1 : (tSl ab.t).R x1 v1) : FnR Tryz.prog 173 [v0, v1, vi x2] (vi (fa x0 x1 x2)) := by
 refine fnS (R := RF173) as8 (fun _ h => h) rfl fun n z => ?_
 unfold fa at z
 refine sR (ae (ej rfl (TR.cnt ck.t r0)) (mI rfl (nR (mV rfl ?_))))
 obtain ⟨a7, a6, a0⟩ := ck.g_scope r0
 refine fA rfl a6 (lD a0 rfl rfl rfl ?_)
 obtain ⟨a1, a5, z⟩ := bq z
 have a3 := ar2  r1 a0 
 rw [a5] at a3
 refine cL a3 rfl rfl (ak (TR.clo (tSl ab.t) r1) (ak (TR.clo au.t a0) bc)) (mV rfl (xT rfl rfl (xT rfl rfl (mV rfl (mV rfl (nS (aq (sR ?_))))))))
 refine mV rfl (bN dc rfl rfl (mV rfl ?_))
 refine bw 4 (d := 22) (v := vb ((decide (a1.2 = 0)) && (!decide (a1.1 = x2)))) ?_ ?_
 ·intro S Q r
  cases a4 : (decide (a1.2 = 0))
  ·exact gN 3 rfl rfl rfl rfl rfl rfl
  ·intro k
   have a2 := a4
   try simp only [qa] at a2
   refine ai rfl rfl (av rfl) (ai rfl rfl (av rfl) (ai rfl rfl (bv rfl rfl ig) ?_))
   exact gK rfl rfl rfl rfl rfl k
 refine nS ?_
 refine bm z rfl ?_ ?_ <;> clear z <;> intro c z <;> try simp only [qa] at c
 ·refine sR (mI rfl (nS ?_))
  exact rR z rfl rfl rfl
 ·refine ax (am (sR (mV rfl (mV rfl (nS ?_)))))
  exact rR z rfl rfl rfl

def RF104 (n : Int) (r : PV) : Prop := r = vi n
theorem bv4 {x0 : ck} {x1 : aj} {v0 v1 : PV} (r0 : ck.t.R x0 v0) (r1 : aj.t.R x1 v1) : FnR Tryz.prog 104 [v0, v1] (vi (di x0 x1)) := by
 refine fnS (R := RF104) ay1 (fun _ h => h) rfl fun n z => ?_
 unfold di at z
 refine sR (ae (ej rfl (TR.cnt ck.t r0)) (ae (ej rfl (TR.cnt aj.t r1)) (mI rfl (nR ?_))))
 obtain ⟨g1, e2, e9⟩ := ck.g_scope r0
 refine fA rfl e2 (gL (au.g_Program e9) rfl rfl rfl fun b1 a3 => ?_)
 refine gh (x := .agg [vs [], nilS, nilS, nilS, nilS, nilS, nilS, nilS, nilS]) (Mem.nil ⟨0, []⟩) rfl rfl (fun a6 a9 f6 e5 => ?_)
 refine fu (k := 0) (v := b1) e5 rfl rfl rfl (TR.cnt af.t a3) (fun d7 a5 => ?_)
 replace a5 : Mem d7 [⟨.op a6 a9 0, 31, 9, [b1]⟩] := a5
 refine nR (ae (ou (k := 0) a5 rfl rfl (TR.agg af.t a3)) (gL (aj.g_Dst r1) rfl rfl rfl fun g6 c4 => ?_))
 obtain ⟨a2, c5, z⟩ := bq z
 have c6 := bx5  a3 c4 
 rw [c5] at c6
 refine cL c6 rfl rfl (ak (TR.clo af.t a3) (ak (TR.clo aa.t c4) bc)) (mV rfl (xT rfl rfl (xT rfl rfl (mV rfl (mV rfl (nR (fL rfl (aj.g_Register r1) rfl rfl (bN lv rfl rfl ?_))))))))
 refine mV rfl ?_
 refine bw 7 (d := 31) (v := vb ((decide (0 ≤ x1.Register)) && (decide (x1.Register < (x0.scope.Program.Registers.length : Int))))) ?_ ?_
 ·intro S Q r
  cases c9 : (decide (0 ≤ x1.Register))
  ·exact gN 6 rfl rfl rfl rfl rfl rfl
  ·intro k
   have b5 := c9
   try simp only [qa] at b5
   refine ai rfl rfl (cg rfl (aj.g_Register r1)) (ai rfl rfl (ca rfl rfl rfl) (ai rfl rfl (ba rfl) ?_))
   obtain ⟨g8, d9, f1⟩ := af.g_Registers a3
   refine ai rfl rfl (br (k := 0) a5 rfl rfl d9) (ai rfl rfl (cv rfl (cm f1 Tryz.underlying24 _)) (ai rfl rfl (bv rfl rfl cn) ?_))
   exact gK rfl rfl rfl rfl rfl k
 refine mV rfl (nS (aq (sR (fL rfl (aj.g_Kind r1) rfl rfl (nS (bh (sR (bN dc rfl rfl ?_))))))))
 refine mV rfl (nS ?_)
 refine bm z rfl ?_ ?_ <;> clear z <;> intro c z <;> try simp only [qa] at c
 ·refine aq (sR (mV rfl (ae (jp rfl) (nS ?_))))
  refine bm z rfl ?_ ?_ <;> clear z <;> intro c z <;> try simp only [qa] at c
  ·refine sR (mI rfl (nS ?_))
   exact rR z rfl rfl rfl
  ·refine ax (am (sR (lD r0 rfl rfl rfl (gL (aj.g_Value r1) rfl rfl rfl fun g5 b9 => (mV rfl ?_)))))
   obtain ⟨g4, b6, z⟩ := bq z
   have c8 := as2 (x2 := a2.1) r0 b9 
   rw [b6] at c8
   refine cL c8 rfl rfl (ak (TR.clo ck.t r0) (ak (TR.clo (tSl ab.t) b9) (ak rfl bc))) (mV rfl (nS ?_))
   exact rR z rfl rfl rfl
 ·refine aq (sR (bN dc rfl rfl (mV rfl (nS ?_))))
  obtain ⟨e0, d0, z⟩ := bq z
  refine jw (F := fun b S Q => ∀ (a1 : Bool) (a8 : Heap) (a4 : Mem a8 [⟨.op a6 a9 0, 31, 9, [b1]⟩]), e0 a1 = n → RC Tryz.prog b S Q [(43, vb a1), (33, vi x1.Kind), (8, vb ((decide (0 ≤ x1.Register)) && (decide (x1.Register < (x0.scope.Program.Registers.length : Int))))), (7, vb a2.2), (6, vi a2.1), (5, .op a6 a9 0), (3, .fp v1), (2, .fp v0)] a8) ?_ ?_
  ·intro a1 a8 a4 z
   rw [← d0] at z
   refine bm z rfl ?_ ?_ <;> clear z <;> intro c z <;> try simp only [qa] at c
   ·refine aq (sR (fL rfl (aj.g_Header r1) rfl rfl (bN cn rfl rfl (mV rfl ?_))))
    refine bw 7 (d := 56) (v := vb ((decide (x1.Header < 0)) || (decide ((x0.scope.Program.Headers.length : Int) ≤ x1.Header)))) ?_ ?_
    ·intro S Q r
     cases d3 : (decide (x1.Header < 0))
     ·intro k
      have b4 := d3
      try simp only [qa] at b4
      refine ai rfl rfl (cg rfl (aj.g_Header r1)) (ai rfl rfl (ca rfl rfl rfl) (ai rfl rfl (ba rfl) ?_))
      obtain ⟨g7, e3, e6⟩ := af.g_Headers a3
      refine ai rfl rfl (br (k := 0) a4 rfl rfl e3) (ai rfl rfl (cv rfl (cm e6 Tryz.underlying22 _)) (ai rfl rfl (bv rfl rfl lv) ?_))
      exact gK rfl rfl rfl rfl rfl k
     ·exact gN 6 rfl rfl rfl rfl rfl rfl
    refine nS ?_
    refine bm z rfl ?_ ?_ <;> clear z <;> intro c z <;> try simp only [qa] at c
    ·refine sR (mI rfl (nS ?_))
     exact rR z rfl rfl rfl
    ·refine ax (am (sR (mI rfl (nS ?_))))
     exact rR z rfl rfl rfl
   ·refine aq (sR (bN dc rfl rfl (mV rfl (nS ?_))))
    obtain ⟨e7, d1, z⟩ := bq z
    refine jw (F := fun b S Q => ∀ (a0 : Bool) (a7 : Heap) (b0 : Mem a7 [⟨.op a6 a9 0, 31, 9, [b1]⟩]), e7 a0 = n → RC Tryz.prog b S Q [(57, vb a0), (8, vb ((decide (0 ≤ x1.Register)) && (decide (x1.Register < (x0.scope.Program.Registers.length : Int))))), (7, vb a2.2), (6, vi a2.1), (5, .op a6 a9 0), (3, .fp v1), (2, .fp v0)] a7) ?_ ?_
    ·intro a0 a7 b0 z
     rw [← d1] at z
     refine bm z rfl ?_ ?_ <;> clear z <;> intro c z <;> try simp only [qa] at c
     ·refine aq (sR (mV rfl (ae (jp rfl) (mV rfl ?_))))
      refine bw 8 (d := 70) (v := vb ((!((decide (0 ≤ x1.Register)) && (decide (x1.Register < (x0.scope.Program.Registers.length : Int))))) || ((decide (x1.Kind = 4)) && (!a2.2)))) ?_ ?_
      ·intro S Q r
       cases c7 : (!((decide (0 ≤ x1.Register)) && (decide (x1.Register < (x0.scope.Program.Registers.length : Int)))))
       ·intro k
        have b3 := c7
        try simp only [qa] at b3
        refine ai rfl rfl (cg rfl (aj.g_Kind r1)) (ai rfl rfl (ca rfl rfl rfl) (ai rfl rfl (bv rfl rfl dc) (ai rfl rfl (av rfl) ?_)))
        refine bw 3 (d := 69) (v := vb ((decide (x1.Kind = 4)) && (!a2.2))) ?_ ?_
        ·intro S Q r
         cases c3 : (decide (x1.Kind = 4))
         ·intro k
          refine iv rfl rfl (iv rfl rfl (ai (v := vb false) rfl rfl (mw rfl rfl rfl rfl) ?_))
          exact wD k rfl
         ·intro k
          have b2 := c3
          try simp only [qa] at b2
          refine ai rfl rfl (av rfl) (ai rfl rfl (jp rfl) (ai (v := vb (!a2.2)) rfl rfl (mw rfl rfl rfl rfl) ?_))
          exact wD k rfl
        exact gK rfl rfl rfl rfl rfl k
       ·exact gN 7 rfl rfl rfl rfl rfl rfl
      refine nS ?_
      refine bm z rfl ?_ ?_ <;> clear z <;> intro c z <;> try simp only [qa] at c
      ·refine sR (mI rfl (nS ?_))
       exact rR z rfl rfl rfl
      ·refine ax (am (aq (sR (gL (aj.g_Index r1) rfl rfl rfl fun f4 c0 => (gL (ck.g_scope r0) rfl rfl rfl fun f9 d4 => ?_)))))
       obtain ⟨f5, c1, z⟩ := bq z
       have d2 := ar2  c0 d4 
       rw [c1] at d2
       refine cL d2 rfl rfl (ak (TR.clo (tSl ab.t) c0) (ak (TR.clo au.t d4) bc)) (mV rfl (xT rfl rfl (xT rfl rfl (mV rfl (mV rfl (nR (mV rfl (bN ig rfl rfl ?_))))))))
       refine nS ?_
       refine bm z rfl ?_ ?_ <;> clear z <;> intro c z <;> try simp only [qa] at c
       ·refine sR (mV rfl (mV rfl (nS ?_)))
        exact rR z rfl rfl rfl
       ·refine ax (am (aq (sR (fL rfl (aj.g_Kind r1) rfl rfl (bN dc rfl rfl (nS ?_))))))
        refine bm z rfl ?_ ?_ <;> clear z <;> intro c z <;> try simp only [qa] at c
        ·refine sR (lD r0 rfl rfl rfl (gL (aj.g_Value r1) rfl rfl rfl fun f3 b8 => (ae (ba rfl) ?_)))
         obtain ⟨g3, e8, e1⟩ := af.g_Registers a3
         refine ae (br (k := 0) b0 rfl rfl e8) (fL rfl (aj.g_Register r1) rfl rfl ?_)
         obtain ⟨f7, d5, f0⟩ := cz (i := x1.Register) e1 (by omega) (by omega)
         refine ae (bf rfl rfl d5) (fL rfl (cx.g_Width f0) rfl rfl ?_)
         obtain ⟨g0, c2, z⟩ := bq z
         have b7 := as2 (x2 := (ix x0.scope.Program.Registers x1.Register).Width) r0 b8 
         rw [c2] at b7
         refine cL b7 rfl rfl (ak (TR.clo ck.t r0) (ak (TR.clo (tSl ab.t) b8) (ak rfl bc))) (mV rfl (nS ?_))
         exact rR z rfl rfl rfl
        ·refine ax (am (aq (sR (mV rfl (ae (ba rfl) ?_)))))
         obtain ⟨f8, d8, f2⟩ := af.g_Registers a3
         refine ae (br (k := 0) b0 rfl rfl d8) (fL rfl (aj.g_Register r1) rfl rfl ?_)
         obtain ⟨g2, e4, d6⟩ := cz (i := x1.Register) f2 (by omega) (by omega)
         refine ae (bf rfl rfl e4) (fL rfl (cx.g_Width d6) rfl rfl (bN ig rfl rfl (nS ?_)))
         refine bm z rfl ?_ ?_ <;> clear z <;> intro c z <;> try simp only [qa] at c
         ·refine sR (mI rfl (nS ?_))
          exact rR z rfl rfl rfl
         ·refine ax (am (sR (mI rfl (nS ?_))))
          exact rR z rfl rfl rfl
     ·refine ax (cp (am (sR (mI rfl (nS ?_)))))
      exact rR z rfl rfl rfl
    ·intro J
     refine bm z rfl ?_ ?_ <;> clear z <;> intro c z <;> try simp only [qa] at c
     ·refine ax ?_
      refine am (wC (J _ _ (Mem.sub a4 (.cons_cons _ .slnil)) z) rfl)
     ·refine aw (bN dc rfl rfl (mV rfl (bp ?_)))
      refine am (wC (J _ _ (Mem.sub a4 (.cons_cons _ .slnil)) z) rfl)
  ·intro J
   refine bm z rfl ?_ ?_ <;> clear z <;> intro c z <;> try simp only [qa] at c
   ·refine ax ?_
    refine am (wC (J _ _ (Mem.sub a5 (.cons_cons _ .slnil)) z) rfl)
   ·refine aw (bN dc rfl rfl (mV rfl (bp ?_)))
    refine am (wC (J _ _ (Mem.sub a5 (.cons_cons _ .slnil)) z) rfl)

def RF35 (n : Int × Int) (r : PV) : Prop := r = .tup [vi n.1, vi n.2]
theorem ug {S : List Fr} {n : Int × Int} {x0 : af} {x1 c4 : Int} {b3 a1 a3 a5 a0 a7 a6 a2 a4 b8 : PV} {b2 b1 : Nat} (c5 : ((decide (x1 < 0)) || (decide ((x0.Actions.length : Int) ≤ x1))) = false) (d1 : ii (ix x0.Actions x1) = c4) (b7 : (!decide (c4 = 0)) = false) (b9 : (tSl aj.t).R ((ix x0.Actions x1).Body) b8) (b6 : ck.t.R ({ scope := ({ Program := x0, Params := (ix x0.Actions x1).Params } : au) } : ck) (.agg [vs x0.Name, a1, a3, a5, a0, a7, a6, a2, a4, b3])) {K0 : Unit → (Int × Int)}
  (d3 : ∀ {h : Heap} (M0 : Mem h [⟨.op b2 b1 0, 151, 10, [.agg [vs x0.Name, a1, a3, a5, a0, a7, a6, a2, a4, b3]]⟩]), K0 () = n → PX Tryz.prog 0 S (QR Tryz.prog [(4, none), (5, none)] (RF35 n)) [] h) :
  ∀ {m : Nat} {a8 : Int} (d2 : m = Int.toNat ((((ix x0.Actions x1).Body).length : Int) - a8)) (c1 : 0 ≤ a8) {h : Heap} (M0 : Mem h [⟨.op b2 b1 0, 151, 10, [.agg [vs x0.Name, a1, a3, a5, a0, a7, a6, a2, a4, b3]]⟩]), ib x0 x1 K0 m a8 = n → RC Tryz.prog (.loop bq1) S (QR Tryz.prog [(4, none), (5, none)] (RF35 n)) [(37, vi a8), (36, vi (((ix x0.Actions x1).Body).length : Int)), (35, b8), (7, .op b2 b1 0)] h := by
 have b5 := c5
 try simp only [qa] at b5
 have b4 := b7
 try simp only [qa] at b4
 intro m
 induction m with
 | zero =>
  intro a8 d2 c1 h M0 z
  rw [ib] at z
  refine cj (sR (bN cn rfl rfl (nS (aq ?_))))
  refine cb rfl ?_ ?_ <;> intro c <;> try simp only [qa] at c
  ·omega
  refine dw (fj (dl ?_))
  exact wP (d3 (Mem.sub M0 (.cons_cons _ .slnil)) z) rfl
 | succ m ih =>
  intro a8 d2 c1 h M0 z
  rw [ib] at z
  refine cj (sR (bN cn rfl rfl (nS (aq ?_))))
  refine cb rfl ?_ ?_ <;> intro c <;> try simp only [qa] at c
  rotate_left
  ·omega
  refine ax (am (aq (bh (sR (mV rfl ?_)))))
  obtain ⟨c0, c9, a9⟩ := cz (i := a8) b9 (by omega) (by omega)
  refine ae (bf rfl rfl c9) (lD a9 rfl rfl rfl ?_)
  refine gh (x := .agg [vi 0, vi 0, vi 0, vi 0, vi 0, nilS, nilS]) M0 rfl rfl (fun c8 c7 d4 d0 => ?_)
  refine mV rfl ?_
  refine fu (k := 0) (v := c0) d0 rfl rfl rfl (TR.cnt aj.t a9) (fun c6 b0 => ?_)
  replace b0 : Mem c6 [⟨.op c8 c7 0, 135, 7, [c0]⟩, ⟨.op b2 b1 0, 151, 10, [.agg [vs x0.Name, a1, a3, a5, a0, a7, a6, a2, a4, b3]]⟩] := b0
  refine nR (ae (ou (k := 1) b0 rfl rfl (TR.agg ck.t b6)) (ae (ou (k := 0) b0 rfl rfl (TR.agg aj.t a9)) ?_))
  obtain ⟨d5, c2, z⟩ := bq z
  have c3 := bv4  b6 a9 
  rw [c2] at c3
  refine cL c3 rfl rfl (ak (TR.clo ck.t b6) (ak (TR.clo aj.t a9) bc)) (mV rfl (nR (mV rfl (bN ig rfl rfl (nS ?_)))))
  refine bm z rfl ?_ ?_ <;> clear z <;> intro c z <;> try simp only [qa] at c
  ·refine sR (mV rfl (mV rfl (mV rfl (mV rfl (nS ?_)))))
   exact rT z rfl rfl rfl rfl rfl
  ·refine ax (cp (am (aw (bN em rfl rfl (mV rfl (bp (cq ?_)))))))
   have s := db b9
   have o : wr (a8 + 1) = a8 + 1 := de (by omega) (by omega)
   erw [o]
   exact wC (ih   (by omega) (by omega) (Mem.sub b0 (.cons _ (.cons_cons _ .slnil))) z) rfl

theorem be4 {x0 : af} {x1 : Int} {v0 : PV} (r0 : af.t.R x0 v0) : FnR Tryz.prog 35 [v0, vi x1] (.tup [vi ((iz x0 x1).1), vi ((iz x0 x1).2)]) := by
 refine fnS (R := RF35) bn6 (fun _ h => h) rfl fun n z => ?_
 unfold iz at z
 refine sR (ae (ej rfl (TR.cnt af.t r0)) (mI rfl (mI rfl (nS (aq (sR (mV rfl (bN cn rfl rfl ?_))))))))
 refine mV rfl ?_
 refine bw 6 (d := 18) (v := vb ((decide (x1 < 0)) || (decide ((x0.Actions.length : Int) ≤ x1)))) ?_ ?_
 ·intro S Q r
  cases c9 : (decide (x1 < 0))
  ·intro k
   have c8 := c9
   try simp only [qa] at c8
   refine ai rfl rfl (av rfl) ?_
   obtain ⟨e7, d4, c4⟩ := af.g_Actions r0
   refine ai rfl rfl (cg rfl d4) (ai rfl rfl (ca rfl (TR.cnt (tSl bg.t) c4) (TR.agg (tSl bg.t) c4)) (ai rfl rfl (cv rfl (cm c4 Tryz.underlying25 _)) (ai rfl rfl (bv rfl rfl lv) ?_)))
   exact gK rfl rfl rfl rfl rfl k
  ·exact gN 5 rfl rfl rfl rfl rfl rfl
 refine nS ?_
 refine bm z rfl ?_ ?_ <;> clear z <;> intro c2 z <;> have c5 := c2 <;> try simp only [qa] at c5
 ·refine sR (mI rfl (mI rfl (nS ?_)))
  exact rT z rfl rfl rfl rfl rfl
 ·refine ax (am (sR (gL (af.g_Actions r0) rfl rfl rfl fun f2 d7 => (mV rfl ?_))))
  obtain ⟨c6, d6, a9⟩ := cz (i := x1) d7 (by omega) (by omega)
  refine ae (bf rfl rfl d6) (lD a9 rfl rfl rfl ?_)
  refine gh (x := .agg [vs [], nilS, nilS]) (Mem.nil ⟨0, []⟩) rfl rfl (fun d2 d3 e8 e0 => ?_)
  refine fu (k := 0) (v := c6) e0 rfl rfl rfl (TR.cnt bg.t a9) (fun e2 b0 => ?_)
  replace b0 : Mem e2 [⟨.op d2 d3 0, 97, 3, [c6]⟩] := b0
  refine nS (aq (sR (ae (ou (k := 0) b0 rfl rfl (TR.agg bg.t a9)) ?_)))
  obtain ⟨f0, c1, z⟩ := bq z
  have d1 := bs6  a9 
  rw [c1] at d1
  refine cL d1 rfl rfl (ak (TR.clo bg.t a9) bc) (mV rfl (nR (mV rfl (bN ig rfl rfl (nS ?_)))))
  refine bm z rfl ?_ ?_ <;> clear z <;> intro c0 z <;> have c3 := c0 <;> try simp only [qa] at c3
  ·refine sR (mV rfl (mI rfl (mV rfl (nS ?_))))
   exact rT z rfl rfl rfl rfl rfl
  ·refine ax (am (sR (lD r0 rfl rfl rfl (ae (ba rfl) ?_))))
   obtain ⟨a8, d9, c7⟩ := bg.g_Params a9
   refine ae (br (k := 0) b0 rfl rfl d9) ?_
   obtain ⟨a1, a4, a6, a0, a2, a7, a3, a5, e1, b3, b9, b1, b2, b4, b5, b8, b6⟩ := r0
   subst e1
   refine ae (v := .agg [vs x0.Name, a1, a4, a6, a0, a2, a7, a3, a5, a8]) (me (cs := [vs x0.Name, a1, a4, a6, a0, a2, a7, a3, a5, a8]) rfl (by simp only [buildV, lm (TR.cnt (tSl ay.t) c7) (TR.agg (tSl ay.t) c7)]; rfl)) (ae (v := .agg [vs x0.Name, a1, a4, a6, a0, a2, a7, a3, a5, a8]) (me (cs := [vs x0.Name, a1, a4, a6, a0, a2, a7, a3, a5, a8]) rfl rfl) ?_)
   refine gh (x := .agg [vs [], nilS, nilS, nilS, nilS, nilS, nilS, nilS, nilS, nilS]) b0 rfl rfl (fun d8 d5 e9 e6 => ?_)
   refine fu (k := 0) (v := .agg [vs x0.Name, a1, a4, a6, a0, a2, a7, a3, a5, a8]) e6 rfl rfl rfl rfl (fun e5 b7 => ?_)
   replace b7 : Mem e5 [⟨.op d8 d5 0, 151, 10, [.agg [vs x0.Name, a1, a4, a6, a0, a2, a7, a3, a5, a8]]⟩, ⟨.op d2 d3 0, 97, 3, [c6]⟩] := b7
   refine nS (aq (sR (ae (ba rfl) ?_)))
   obtain ⟨f1, e4, d0⟩ := bg.g_Body a9
   refine ae (br (k := 1) b7 rfl rfl e4) (ae (cv rfl (cm d0 Tryz.underlying95 _)) (mI rfl (nS (bh ?_))))
   have e3 : ck.t.R ({ scope := ({ Program := x0, Params := (ix x0.Actions x1).Params } : au) } : ck) (.agg [vs x0.Name, a1, a4, a6, a0, a2, a7, a3, a5, a8]) := ⟨a1, a4, a6, a0, a2, a7, a3, a5, a8, rfl, b3, b9, b1, b2, b4, b5, b8, b6, c7⟩
   refine wC (ug c2 c1 c0 d0 e3 ?_  rfl (by omega) (Mem.sub b7 (.cons_cons _ (.cons _ .slnil))) z) rfl
   ·intro f3 f4 z
    refine fx (am (sR (mI rfl (mI rfl (nS ?_)))))
    exact rT z rfl rfl rfl rfl rfl

def RF175 (n : Bool) (r : PV) : Prop := r = vb n
theorem az2 {x0 : UInt8} : FnR Tryz.prog 175 [vu8 x0] (vb (lh x0)) := by
 refine fnS (R := RF175) cg4 (fun _ h => h) rfl fun n z => ?_
 unfold lh at z
 refine sR (mB rfl (nR (mV rfl (ae (bv (a := vu8 x0) (b := vu8 (97 : UInt8)) rfl rfl ab3) (mV rfl ?_)))))
 refine bw 3 (d := 8) (v := vb ((decide ((97 : UInt8) ≤ x0)) && (decide (x0 ≤ (122 : UInt8))))) ?_ ?_
 ·intro S Q r
  cases a3 : (decide ((97 : UInt8) ≤ x0))
  ·exact gN 2 rfl rfl rfl rfl rfl rfl
  ·intro k
   have a1 := a3
   try simp only [qa] at a1
   refine ai rfl rfl (av rfl) (ai rfl rfl (bv (a := vu8 x0) (b := vu8 (122 : UInt8)) rfl rfl aa7) ?_)
   exact gK rfl rfl rfl rfl rfl k
 refine mV rfl ?_
 refine bw 7 (d := 16) (v := vb (((decide ((97 : UInt8) ≤ x0)) && (decide (x0 ≤ (122 : UInt8)))) || ((decide ((65 : UInt8) ≤ x0)) && (decide (x0 ≤ (90 : UInt8)))))) ?_ ?_
 ·intro S Q r
  cases a5 : ((decide ((97 : UInt8) ≤ x0)) && (decide (x0 ≤ (122 : UInt8))))
  ·intro k
   have a2 := a5
   try simp only [qa] at a2
   refine ai rfl rfl (av rfl) (ai rfl rfl (bv (a := vu8 x0) (b := vu8 (65 : UInt8)) rfl rfl ab3) (ai rfl rfl (av rfl) ?_))
   refine bw 3 (d := 15) (v := vb ((decide ((65 : UInt8) ≤ x0)) && (decide (x0 ≤ (90 : UInt8))))) ?_ ?_
   ·intro S Q r
    cases a4 : (decide ((65 : UInt8) ≤ x0))
    ·intro k
     refine iv rfl rfl (iv rfl rfl (ai (v := vb false) rfl rfl (mw rfl rfl rfl rfl) ?_))
     exact wD k rfl
    ·intro k
     have a0 := a4
     try simp only [qa] at a0
     refine ai rfl rfl (av rfl) (ai rfl rfl (bv (a := vu8 x0) (b := vu8 (90 : UInt8)) rfl rfl aa7) (ai (v := vb (decide (x0 ≤ (90 : UInt8)))) rfl rfl (mw rfl rfl rfl rfl) ?_))
     exact wD k rfl
   exact gK rfl rfl rfl rfl rfl k
  ·exact gN 6 rfl rfl rfl rfl rfl rfl
 refine mV rfl (nS ?_)
 exact rR z rfl rfl rfl

def RF176 (n : Bool) (r : PV) : Prop := r = vb n
theorem cc4 {x0 : UInt8} : FnR Tryz.prog 176 [vu8 x0] (vb (mm x0)) := by
 refine fnS (R := RF176) ce5 (fun _ h => h) rfl fun n z => ?_
 unfold mm at z
 refine sR (mB rfl (nR (mV rfl (ae (bv (a := vu8 x0) (b := vu8 (48 : UInt8)) rfl rfl ab3) (mV rfl ?_)))))
 refine bw 3 (d := 8) (v := vb ((decide ((48 : UInt8) ≤ x0)) && (decide (x0 ≤ (57 : UInt8))))) ?_ ?_
 ·intro S Q r
  cases a1 : (decide ((48 : UInt8) ≤ x0))
  ·exact gN 2 rfl rfl rfl rfl rfl rfl
  ·intro k
   have a0 := a1
   try simp only [qa] at a0
   refine ai rfl rfl (av rfl) (ai rfl rfl (bv (a := vu8 x0) (b := vu8 (57 : UInt8)) rfl rfl aa7) ?_)
   exact gK rfl rfl rfl rfl rfl k
 refine mV rfl (nS ?_)
 exact rR z rfl rfl rfl

def RF105 (n : Bool) (r : PV) : Prop := r = vb n
theorem qh {S : List Fr} {n : Bool} {x0 : List UInt8} (a6 : (((decide (x0 = ([] : List UInt8))) || (decide (16 < (x0.length : Int)))) || (!(lh (ix x0 0)))) = false) {K0 : Unit → Bool}
  (b3 : K0 () = n → PX Tryz.prog 0 S (QR Tryz.prog [(2, none)] (RF105 n)) [] ⟨0, []⟩) :
  ∀ {m : Nat} {a0 : Int} (b2 : m = Int.toNat ((x0.length : Int) - a0)) (a8 : 0 ≤ a0), gj x0 K0 m a0 = n → RC Tryz.prog (.loop bk1) S (QR Tryz.prog [(2, none)] (RF105 n)) [(3, vi a0), (0, vs x0)] ⟨0, []⟩ := by
 have a2 := a6
 try simp only [qa] at a2
 intro m
 induction m with
 | zero =>
  intro a0 b2 a8 z
  rw [gj] at z
  refine cj (aq (sR (mV rfl (mV rfl (ae (cv rfl (qb Tryz.underlying9)) (bN cn rfl rfl (nS ?_)))))))
  refine cb rfl ?_ ?_ <;> intro c <;> try simp only [qa] at c
  ·omega
  refine dw (fj (dl ?_))
  exact wP (b3  z) rfl
 | succ m ih =>
  intro a0 b2 a8 z
  rw [gj] at z
  refine cj (aq (sR (mV rfl (mV rfl (ae (cv rfl (qb Tryz.underlying9)) (bN cn rfl rfl (nS ?_)))))))
  refine cb rfl ?_ ?_ <;> intro c <;> try simp only [qa] at c
  rotate_left
  ·omega
  refine ax (am (aq (bh (sR (mV rfl (mV rfl (ae (oe rfl rfl (qx Tryz.underlying9 (by first | omega | (have hp := List.length_pos_iff.2 (And.left (by assumption : ¬x0 = [] ∧ _)); omega)) (by first | omega | (have hp := List.length_pos_iff.2 (And.left (by assumption : ¬x0 = [] ∧ _)); omega)))) ?_)))))))
  obtain ⟨a1, a5, z⟩ := bq z
  have a7 := az2 (x0 := (ix x0 a0))  
  rw [a5] at a7
  refine cL a7 rfl rfl (ak rfl bc) (ae (jp rfl) (mV rfl ?_))
  refine bw 6 (d := 34) (v := vb ((!a1) && (!(mm (ix x0 a0))))) ?_ ?_
  ·intro S Q r
   cases b0 : (!a1)
   ·exact gN 5 rfl rfl rfl rfl rfl rfl
   ·intro k
    have a4 := b0
    try simp only [qa] at a4
    refine ai rfl rfl (av rfl) (ai rfl rfl (av rfl) (ai rfl rfl (oe rfl rfl (qx Tryz.underlying9 (by first | omega | (have hp := List.length_pos_iff.2 (And.left (by assumption : ¬x0 = [] ∧ _)); omega)) (by first | omega | (have hp := List.length_pos_iff.2 (And.left (by assumption : ¬x0 = [] ∧ _)); omega)))) ?_))
    have b1 := cc4 (x0 := (ix x0 a0))  
    refine jm rfl rfl (nw rfl rfl (ak rfl bc) b1) (ai rfl rfl (jp rfl) ?_)
    exact gK rfl rfl rfl rfl rfl k
  refine mV rfl ?_
  refine bw 5 (d := 40) (v := vb (((!a1) && (!(mm (ix x0 a0)))) && (!decide ((ix x0 a0) = (95 : UInt8))))) ?_ ?_
  ·intro S Q r
   cases a9 : ((!a1) && (!(mm (ix x0 a0))))
   ·exact gN 4 rfl rfl rfl rfl rfl rfl
   ·intro k
    have a3 := a9
    try simp only [qa] at a3
    refine ai rfl rfl (av rfl) (ai rfl rfl (av rfl) (ai rfl rfl (oe rfl rfl (qx Tryz.underlying9 (by first | omega | (have hp := List.length_pos_iff.2 (And.left (by assumption : ¬x0 = [] ∧ _)); omega)) (by first | omega | (have hp := List.length_pos_iff.2 (And.left (by assumption : ¬x0 = [] ∧ _)); omega)))) (ai rfl rfl (bv (a := vu8 (ix x0 a0)) (b := vu8 (95 : UInt8)) rfl rfl cx7) ?_)))
    exact gK rfl rfl rfl rfl rfl k
  refine nS ?_
  refine bm z rfl ?_ ?_ <;> clear z <;> intro c z <;> try simp only [qa] at c
  ·refine sR (mB rfl (nS ?_))
   exact rR z rfl rfl rfl
  ·refine ax (cp (am (aw (mV rfl (bN em rfl rfl (mV rfl (bp (cq ?_))))))))
   have o : wr (a0 + 1) = a0 + 1 := de (by omega) (by omega)
   erw [o]
   exact wC (ih   (by omega) (by omega) z) rfl

theorem ay8 {x0 : List UInt8} : FnR Tryz.prog 105 [vs x0] (vb (gn x0)) := by
 refine fnS (R := RF105) bt8 (fun _ h => h) rfl fun n z => ?_
 unfold gn at z
 refine sR (mB rfl (nS (aq (sR (mV rfl (ae (bv (a := vs x0) (b := vs ([] : List UInt8)) rfl rfl ad8) (mV rfl ?_)))))))
 refine bw 4 (d := 10) (v := vb ((decide (x0 = ([] : List UInt8))) || (decide (16 < (x0.length : Int))))) ?_ ?_
 ·intro S Q r
  cases a4 : (decide (x0 = ([] : List UInt8)))
  ·intro k
   have a3 := a4
   try simp only [qa] at a3
   refine ai rfl rfl (av rfl) (ai rfl rfl (cv rfl (qb Tryz.underlying9)) (ai rfl rfl (bv rfl rfl ke) ?_))
   exact gK rfl rfl rfl rfl rfl k
  ·exact gN 3 rfl rfl rfl rfl rfl rfl
 refine mV rfl ?_
 refine bw 5 (d := 16) (v := vb (((decide (x0 = ([] : List UInt8))) || (decide (16 < (x0.length : Int)))) || (!(lh (ix x0 0))))) ?_ ?_
 ·intro S Q r
  cases a5 : ((decide (x0 = ([] : List UInt8))) || (decide (16 < (x0.length : Int))))
  ·intro k
   have a2 := a5
   try simp only [qa] at a2
   refine ai rfl rfl (av rfl) (ai rfl rfl (oe rfl rfl (qx (i := 0) Tryz.underlying9 (by first | omega | (have hp := List.length_pos_iff.2 (And.left (by assumption : ¬x0 = [] ∧ _)); omega)) (by first | omega | (have hp := List.length_pos_iff.2 (And.left (by assumption : ¬x0 = [] ∧ _)); omega)))) ?_)
   have a6 := az2 (x0 := (ix x0 0))  
   refine jm rfl rfl (nw rfl rfl (ak rfl bc) a6) (ai rfl rfl (jp rfl) ?_)
   exact gK rfl rfl rfl rfl rfl k
  ·exact gN 4 rfl rfl rfl rfl rfl rfl
 refine nS ?_
 refine bm z rfl ?_ ?_ <;> clear z <;> intro a0 z <;> have a1 := a0 <;> try simp only [qa] at a1
 ·refine sR (mB rfl (nS ?_))
  exact rR z rfl rfl rfl
 ·refine ax (am (aq (sR (mI rfl (nS (bh ?_))))))
  refine wC (qh a0 ?_  rfl (by omega) z) rfl
  ·intro  z
   refine fx (am (sR (mB rfl (nS ?_))))
   exact rR z rfl rfl rfl

def RF106 (n : Int) (r : PV) : Prop := r = vi n
theorem tv {S : List Fr} {n : Int} {x0 : List ay} {a0 : Int} {a7 : Bool} {v0 : PV} (r0 : (tSl ay.t).R x0 v0) (b8 : 0 ≤ a0) (a8 : (decide (a0 < (x0.length : Int))) = true) (b5 : gn ((ix x0 a0).Name) = a7) (a5 : (!a7) = false) (a9 : ((decide (((ix x0 a0).Width) < 1)) || (decide (32 < ((ix x0 a0).Width)))) = false) {K3 : Unit → Int}
  (b9 : K3 () = n → PX Tryz.prog 3 S (QR Tryz.prog [(2, none)] (RF106 n)) [(0, v0), (3, vi a0)] ⟨0, []⟩) :
  ∀ {m : Nat} {a1 : Int} (b4 : m = Int.toNat (a0 - a1)) (a6 : 0 ≤ a1), ji x0 a0 K3 m a1 = n → RC Tryz.prog (.loop be5) S (QR Tryz.prog [(2, none)] (RF106 n)) [(4, vi a1), (3, vi a0), (0, v0)] ⟨0, []⟩ := by
 have a3 := a8
 try simp only [qa] at a3
 have a2 := a5
 try simp only [qa] at a2
 have a4 := a9
 try simp only [qa] at a4
 intro m
 induction m with
 | zero =>
  intro a1 b4 a6 z
  rw [ji] at z
  refine cj (aq (sR (mV rfl (mV rfl (bN cn rfl rfl (nS ?_))))))
  refine cb rfl ?_ ?_ <;> intro c <;> try simp only [qa] at c
  ·omega
  refine dw (fj (dl ?_))
  exact wP (b9  z) rfl
 | succ m ih =>
  intro a1 b4 a6 z
  rw [ji] at z
  refine cj (aq (sR (mV rfl (mV rfl (bN cn rfl rfl (nS ?_))))))
  refine cb rfl ?_ ?_ <;> intro c <;> try simp only [qa] at c
  rotate_left
  ·omega
  refine ax (am (aq (bh (sR (mV rfl (mV rfl ?_))))))
  obtain ⟨b7, b1, b0⟩ := cz (i := a1) r0 (by omega) (by omega)
  refine ae (bf rfl rfl b1) (fL rfl (ay.g_Name b0) rfl rfl (mV rfl (mV rfl ?_)))
  obtain ⟨b6, b3, b2⟩ := cz (i := a0) r0 (by omega) (by omega)
  refine ae (bf rfl rfl b3) (fL rfl (ay.g_Name b2) rfl rfl (ae (bv (a := vs ((ix x0 a1).Name)) (b := vs ((ix x0 a0).Name)) rfl rfl ad8) (nS ?_)))
  refine bm z rfl ?_ ?_ <;> clear z <;> intro c z <;> try simp only [qa] at c
  ·refine sR (mI rfl (nS ?_))
   exact rR z rfl rfl rfl
  ·refine ax (cp (am (aw (mV rfl (bN em rfl rfl (mV rfl (bp (cq ?_))))))))
   have o : wr (a1 + 1) = a1 + 1 := de (by omega) (by first | omega | (have s := db r0; omega))
   erw [o]
   exact wC (ih   (by omega) (by omega) z) rfl

theorem tq {S : List Fr} {n : Int} {x0 : List ay} {v0 : PV} (r0 : (tSl ay.t).R x0 v0) {K0 : Unit → Int}
  (b9 : K0 () = n → PX Tryz.prog 0 S (QR Tryz.prog [(2, none)] (RF106 n)) [] ⟨0, []⟩) :
  ∀ {m : Nat} {a0 : Int} (b8 : m = Int.toNat ((x0.length : Int) - a0)) (a7 : 0 ≤ a0), je x0 K0 m a0 = n → RC Tryz.prog (.loop bm2) S (QR Tryz.prog [(2, none)] (RF106 n)) [(3, vi a0), (0, v0)] ⟨0, []⟩ := by
 intro m
 induction m with
 | zero =>
  intro a0 b8 a7 z
  rw [je] at z
  refine cj (aq (sR (mV rfl (mV rfl (ae (cv rfl (cm r0 Tryz.underlying23 _)) (bN cn rfl rfl (nS ?_)))))))
  refine cb rfl ?_ ?_ <;> intro c <;> try simp only [qa] at c
  ·omega
  refine dw (fj (dl ?_))
  exact wP (b9  z) rfl
 | succ m ih =>
  intro a0 b8 a7 z
  rw [je] at z
  refine cj (aq (sR (mV rfl (mV rfl (ae (cv rfl (cm r0 Tryz.underlying23 _)) (bN cn rfl rfl (nS ?_)))))))
  refine cb rfl (fun a1 => ?_) (fun a1 => ?_)
  ·have hgo := z
   have a6 := a1
   try simp only [qa] at a6
   refine ax (am (aq (bh (aq (bh (sR (mV rfl (mV rfl ?_))))))))
   obtain ⟨c2, b6, b7⟩ := cz (i := a0) r0 (by omega) (by omega)
   refine ae (bf rfl rfl b6) (fL rfl (ay.g_Name b7) rfl rfl ?_)
   obtain ⟨c1, a4, z⟩ := bq z
   have b1 := ay8 (x0 := (ix x0 a0).Name)  
   rw [a4] at b1
   refine cL b1 rfl rfl (ak rfl bc) (ae (jp rfl) (mV rfl (nS ?_)))
   refine bm z rfl ?_ ?_ <;> clear z <;> intro a2 z <;> have a5 := a2 <;> try simp only [qa] at a5
   ·refine sR (mI rfl (nS ?_))
    exact rR z rfl rfl rfl
   ·refine sR (mV rfl (mV rfl ?_))
    obtain ⟨c3, b5, b2⟩ := cz (i := a0) r0 (by omega) (by omega)
    refine ae (bf rfl rfl b5) (fL rfl (ay.g_Width b2) rfl rfl (bN cn rfl rfl (mV rfl ?_)))
    refine bw 7 (d := 33) (v := vb ((decide (((ix x0 a0).Width) < 1)) || (decide (32 < ((ix x0 a0).Width))))) ?_ ?_
    ·intro S Q r
     cases b0 : (decide (((ix x0 a0).Width) < 1))
     ·intro k
      have a8 := b0
      try simp only [qa] at a8
      refine ai rfl rfl (av rfl) (ai rfl rfl (av rfl) ?_)
      obtain ⟨c0, b3, b4⟩ := cz (i := a0) r0 (by omega) (by omega)
      refine ai rfl rfl (bf rfl rfl b3) (ai rfl rfl (cg rfl (ay.g_Width b4)) (ai rfl rfl (ca rfl rfl rfl) (ai rfl rfl (bv rfl rfl ke) ?_)))
      exact gK rfl rfl rfl rfl rfl k
     ·exact gN 6 rfl rfl rfl rfl rfl rfl
    refine mV rfl (nS ?_)
    refine bm z rfl ?_ ?_ <;> clear z <;> intro a3 z <;> have a9 := a3 <;> try simp only [qa] at a9
    ·refine sR (mI rfl (nS ?_))
     exact rR z rfl rfl rfl
    ·refine ax (cp (am (sR (mI rfl (nS (bh ?_))))))
     refine wC (tv r0 a7 a1 a4 a2 a3 ?_  rfl (by omega) z) rfl
     ·intro  z
      refine fx (cp (am (aw (mV rfl (bN em rfl rfl (mV rfl (bp (cq ?_))))))))
      have s := db r0
      have o : wr (a0 + 1) = a0 + 1 := de (by omega) (by first | omega | (have s := db r0; omega))
      erw [o]
      exact wC (ih   (by omega) (by omega) z) rfl
  ·exfalso
   try simp only [qa] at a1
   omega

theorem ax6 {x0 : List ay} {v0 : PV} (r0 : (tSl ay.t).R x0 v0) : FnR Tryz.prog 106 [v0] (vi (mz x0)) := by
 refine fnS (R := RF106) bs5 (fun _ h => h) rfl fun n z => ?_
 unfold mz at z
 refine sR (mI rfl (nS (aq (sR (mI rfl (nS (bh ?_)))))))
 refine wC (tq r0 ?_  rfl (by omega) z) rfl
 ·intro  z
  refine fx (am (sR (mI rfl (nS ?_))))
  exact rR z rfl rfl rfl

end Go.Proofs.YtmonnlkagniolaaGreat
