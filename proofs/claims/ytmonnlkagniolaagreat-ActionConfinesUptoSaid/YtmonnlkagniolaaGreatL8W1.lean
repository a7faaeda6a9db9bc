/-
 The code of each function does what its plain program says.
-/
import Derived.Test.YtmonnlkagniolaaGreatL8W0
set_option linter.unusedVariables false
set_option linter.unusedSimpArgs false
set_option maxRecDepth 100000
namespace Go.Proofs.YtmonnlkagniolaaGreat
open Go Go.Pb Go.RowKit
def RF162 (res : Int) (r : PV) : Prop := r = vi res
theorem ct2 {x0 : cm} {v0 : PV} (r0 : cm.t.R x0 v0) : FnR Tryz.prog 162 [v0] (vi (ln x0)) := by
 refine fnS (R := RF162) cp7 (fun _ h => h) rfl fun res s => ?_
 unfold ln at s
 refine sR (ae (dm rfl (TR.cnt cm.t r0)) (mI rfl (nS (am (sR (fL rfl (cm.g_Width r0) rfl rfl (bN cw rfl rfl (mV rfl ?_))))))))
 refine cq 4 (d := 10) (v := vb ((decide (x0.Width < 1)) || (decide (32 < x0.Width)))) ?_ ?_
 ·intro S Q r
  cases a1 : (decide (x0.Width < 1))
  ·intro k
   have a0 := a1
   try simp only [qa] at a0
   refine ah rfl rfl (bw rfl (cm.g_Width r0)) (ah rfl rfl (bv rfl rfl rfl) (ah rfl rfl (bq rfl rfl nj) ?_))
   exact gK rfl rfl rfl rfl rfl k
  ·exact gN 3 rfl rfl rfl rfl rfl rfl
 refine nS ?_
 refine cg s rfl ?_ ?_ <;> clear s <;> intro c s <;> try simp only [qa] at c
 ·refine sR (mI rfl (nS ?_))
  exact rR s rfl rfl rfl
 ·refine az (aq (sR (fL rfl (cm.g_Width r0) rfl rfl (mV rfl (nS ?_)))))
  exact rR s rfl rfl rfl

def RF123 (res : Int) (r : PV) : Prop := r = vi res
theorem sb {S : List Fr} {res : Int} {x0 : ab} {x1 : List (List (BitVec 32))} {v0 v1 : PV} (r0 : ab.t.R x0 v0) (r1 : (tSl (tSl dn)).R x1 v1) (a2 : (!decide ((x1.length : Int) = (x0.Registers.length : Int))) = false) {K0 : Unit → Int}
  (b4 : K0 () = res → PX Tryz.prog 0 S (QR Tryz.prog [(4, none)] (RF123 res)) [(1, v1), (2, .fp v0)] ⟨0, []⟩) :
  ∀ {m : Nat} {a0 : Int} (b0 : m = Int.toNat ((x1.length : Int) - a0)) (a4 : 0 ≤ a0), gu x0 x1 K0 m a0 = res → RC Tryz.prog (.loop bs7) S (QR Tryz.prog [(4, none)] (RF123 res)) [(5, vi a0), (2, .fp v0), (1, v1)] ⟨0, []⟩ := by
 have a1 := a2
 try simp only [qa] at a1
 intro m
 induction m with
 | zero =>
  intro a0 b0 a4 s
  rw [gu] at s
  refine co (am (sR (mV rfl (mV rfl (ae (cv rfl (ci r1 Tryz.underlying42 _)) (bN cw rfl rfl (nS ?_)))))))
  refine cd rfl ?_ ?_ <;> intro c <;> try simp only [qa] at c
  ·omega
  refine fj (gg (dw ?_))
  exact wP (b4  s) rfl
 | succ m ih =>
  intro a0 b0 a4 s
  rw [gu] at s
  refine co (am (sR (mV rfl (mV rfl (ae (cv rfl (ci r1 Tryz.underlying42 _)) (bN cw rfl rfl (nS ?_)))))))
  refine cd rfl ?_ ?_ <;> intro c <;> try simp only [qa] at c
  rotate_left
  ·omega
  refine az (aq (am (bm (sR (mV rfl (mV rfl ?_))))))
  obtain ⟨b2, a8, a3⟩ := dq (i := a0) r1 (by omega) (by omega)
  refine ae (bg rfl rfl a8) (lD a3 rfl rfl rfl (ae (cv rfl (ci a3 Tryz.underlying43 _)) ?_))
  obtain ⟨b1, a9, a5⟩ := ab.g_Registers r0
  refine fA rfl a9 (lD a5 rfl rfl rfl (mV rfl ?_))
  obtain ⟨b3, a6, a7⟩ := dq (i := a0) a5 (by omega) (by omega)
  refine ae (bg rfl rfl a6) (fL rfl (cm.g_Size a7) rfl rfl (bN mi rfl rfl (nS ?_)))
  refine cg s rfl ?_ ?_ <;> clear s <;> intro c s <;> try simp only [qa] at c
  ·refine sR (mI rfl (nS ?_))
   exact rR s rfl rfl rfl
  ·refine az (de (aq (ay (mV rfl (bN gv rfl rfl (mV rfl (br (di ?_))))))))
   have hbd := en r1
   have hinc : wr (a0 + 1) = a0 + 1 := ee (by omega) (by omega)
   erw [hinc]
   exact wC (ih   (by omega) (by omega) s) rfl

theorem sa {S : List Fr} {res : Int} {x0 : ab} {x1 : List (List (BitVec 32))} {a0 : Int} {v0 v1 : PV} (r0 : ab.t.R x0 v0) (r1 : (tSl (tSl dn)).R x1 v1) (a9 : (!decide ((x1.length : Int) = (x0.Registers.length : Int))) = false) (c8 : 0 ≤ a0) (b2 : (decide (a0 < (x1.length : Int))) = true) {K4 : Unit → Int}
  (c7 : K4 () = res → PX Tryz.prog 4 S (QR Tryz.prog [(4, none)] (RF123 res)) [(1, v1), (2, .fp v0), (6, vi a0)] ⟨0, []⟩) :
  ∀ {m : Nat} {a1 : Int} (c2 : m = Int.toNat (((ix x1 a0).length : Int) - a1)) (b3 : 0 ≤ a1), gk x0 x1 a0 K4 m a1 = res → RC Tryz.prog (.loop ce0) S (QR Tryz.prog [(4, none)] (RF123 res)) [(7, vi a1), (6, vi a0), (2, .fp v0), (1, v1)] ⟨0, []⟩ := by
 have a3 := a9
 try simp only [qa] at a3
 have a4 := b2
 try simp only [qa] at a4
 intro m
 induction m with
 | zero =>
  intro a1 c2 b3 s
  rw [gk] at s
  refine co (am (sR (mV rfl (mV rfl (mV rfl ?_)))))
  obtain ⟨c3, c0, b1⟩ := dq (i := a0) r1 (by omega) (by omega)
  refine ae (bg rfl rfl c0) (lD b1 rfl rfl rfl (ae (cv rfl (ci b1 Tryz.underlying43 _)) (bN cw rfl rfl (nS ?_))))
  refine cd rfl ?_ ?_ <;> intro c <;> try simp only [qa] at c
  ·omega
  refine fj (gg (dw ?_))
  exact wP (c7  s) rfl
 | succ m ih =>
  intro a1 c2 b3 s
  rw [gk] at s
  refine co (am (sR (mV rfl (mV rfl (mV rfl ?_)))))
  obtain ⟨c9, b8, a6⟩ := dq (i := a0) r1 (by omega) (by omega)
  refine ae (bg rfl rfl b8) (lD a6 rfl rfl rfl (ae (cv rfl (ci a6 Tryz.underlying43 _)) (bN cw rfl rfl (nS ?_))))
  refine cd rfl ?_ ?_ <;> intro c <;> try simp only [qa] at c
  rotate_left
  ·omega
  refine az (aq (am (bm (sR (mV rfl (mV rfl ?_))))))
  obtain ⟨c4, b6, b0⟩ := dq (i := a0) r1 (by omega) (by omega)
  refine ae (bg rfl rfl b6) (lD b0 rfl rfl rfl (mV rfl (ae (bg rfl rfl (uj b0 (by omega) (by omega))) (lR rfl rfl rfl (gL (ab.g_Registers r0) rfl rfl rfl fun d0 b9 => (mV rfl ?_))))))
  obtain ⟨c6, b7, a5⟩ := dq (i := a0) b9 (by omega) (by omega)
  refine ae (bg rfl rfl b7) (lD a5 rfl rfl rfl ?_)
  obtain ⟨b4, a2, s⟩ := bt s
  have b5 := ct2  a5 
  rw [a2] at b5
  have c1 : b4 ≤ 32 := bl7 a2
  refine cL b5 rfl rfl (ai (TR.clo cm.t a5) bf) ?_
  obtain ⟨c5, a8, s⟩ := bt s
  have a7 := bb4 (x0 := (ix (ix x1 a0) a1)) (x1 := b4)  (by first | assumption | omega | (rw [ee (by omega) (by omega)]; omega) | (have hk := rval rfl (And.right (And.left (by assumption))); omega) | (have hk := rval (by assumption) (by assumption); omega) | (have hk := rval (by assumption) (And.left (by assumption)); omega) | (have hk := rval (by assumption) (And.left (And.left (by assumption))); have hz := rslc (by assumption); omega) | (simp; done) | (simp only [List.length_append, List.length_nil, List.length_cons]; omega) | (have hk := (dx (by assumption) (by assumption)).1; omega) | (simp only [List.length_cons, List.length_nil]; omega) | (simp only [List.length_append]; have hk := (dx (by assumption) (by assumption)).1; omega) | (simp only [List.length_append, List.length_nil]; have hk := (dx (by assumption) (by assumption)).1; omega))
  rw [a8] at a7
  refine cL a7 rfl rfl (ai rfl (ai rfl bf)) (ae (ju rfl) (nS ?_))
  refine cg s rfl ?_ ?_ <;> clear s <;> intro c s <;> try simp only [qa] at c
  ·refine sR (mI rfl (nS ?_))
   exact rR s rfl rfl rfl
  ·refine az (de (aq (ay (mV rfl (bN gv rfl rfl (mV rfl (br (di ?_))))))))
   have hbd := en a6
   have hinc : wr (a1 + 1) = a1 + 1 := ee (by omega) (by omega)
   erw [hinc]
   exact wC (ih   (by omega) (by omega) s) rfl

theorem sd {S : List Fr} {res : Int} {x0 : ab} {x1 : List (List (BitVec 32))} {v0 v1 : PV} (r0 : ab.t.R x0 v0) (r1 : (tSl (tSl dn)).R x1 v1) (a1 : (!decide ((x1.length : Int) = (x0.Registers.length : Int))) = false) {K2 : Unit → Int}
  (a7 : K2 () = res → PX Tryz.prog 2 S (QR Tryz.prog [(4, none)] (RF123 res)) [] ⟨0, []⟩) :
  ∀ {m : Nat} {a2 : Int} (a6 : m = Int.toNat ((x1.length : Int) - a2)) (a5 : 0 ≤ a2), gq x0 x1 K2 m a2 = res → RC Tryz.prog (.loop cb6) S (QR Tryz.prog [(4, none)] (RF123 res)) [(6, vi a2), (2, .fp v0), (1, v1)] ⟨0, []⟩ := by
 have a3 := a1
 try simp only [qa] at a3
 intro m
 induction m with
 | zero =>
  intro a2 a6 a5 s
  rw [gq] at s
  refine co (am (sR (mV rfl (mV rfl (ae (cv rfl (ci r1 Tryz.underlying42 _)) (bN cw rfl rfl (nS ?_)))))))
  refine cd rfl ?_ ?_ <;> intro c <;> try simp only [qa] at c
  ·omega
  refine fj (gg (dw ?_))
  exact wP (a7  s) rfl
 | succ m ih =>
  intro a2 a6 a5 s
  rw [gq] at s
  refine co (am (sR (mV rfl (mV rfl (ae (cv rfl (ci r1 Tryz.underlying42 _)) (bN cw rfl rfl (nS ?_)))))))
  refine cd rfl (fun a0 => ?_) (fun a0 => ?_)
  ·have hgo := s
   have a4 := a0
   try simp only [qa] at a4
   refine az (aq (am (bm (sR (mI rfl (nS (bm ?_)))))))
   refine wC (sa r0 r1 a1 a5 a0 ?_  rfl (by omega) s) rfl
   ·intro  s
    refine gm (de (aq (ay (mV rfl (bN gv rfl rfl (mV rfl (br (di ?_))))))))
    have hbd := en r1
    have hinc : wr (a2 + 1) = a2 + 1 := ee (by omega) (by omega)
    erw [hinc]
    exact wC (ih   (by omega) (by omega) s) rfl
  ·exfalso
   try simp only [qa] at a0
   omega

theorem cs9 {x0 : ab} {x1 : List (List (BitVec 32))} {v0 v1 : PV} (r0 : ab.t.R x0 v0) (r1 : (tSl (tSl dn)).R x1 v1) : FnR Tryz.prog 123 [v0, v1] (vi (kb x0 x1)) := by
 refine fnS (R := RF123) co2 (fun _ h => h) rfl fun res s => ?_
 unfold kb at s
 refine sR (ae (dm rfl (TR.cnt ab.t r0)) (mI rfl (nS (am (sR (mV rfl (ae (cv rfl (ci r1 Tryz.underlying42 _)) ?_)))))))
 obtain ⟨a4, a3, a2⟩ := ab.g_Registers r0
 refine fA rfl a3 (lD a2 rfl rfl rfl (ae (cv rfl (ci a2 Tryz.underlying24 _)) (bN mi rfl rfl (nS ?_))))
 refine cg s rfl ?_ ?_ <;> clear s <;> intro a0 s <;> have a1 := a0 <;> try simp only [qa] at a1
 ·refine sR (mI rfl (nS ?_))
  exact rR s rfl rfl rfl
 ·refine az (aq (am (sR (mI rfl (nS (bm ?_))))))
  refine wC (sb r0 r1 a0 ?_  rfl (by omega) s) rfl
  ·intro  s
   refine gm (aq (am (sR (mI rfl (nS (bm ?_))))))
   refine wC (sd r0 r1 a0 ?_  rfl (by omega) s) rfl
   ·intro  s
    refine gm (aq (sR (mI rfl (nS ?_))))
    exact rR s rfl rfl rfl

def RF47 (res : Bool) (r : PV) : Prop := r = vb res
theorem dg0 {x0 : bd} {v0 : PV} (r0 : bd.t.R x0 v0) : FnR Tryz.prog 47 [v0] (vb (fc x0)) := by
 refine fnS (R := RF47) cy7 (fun _ h => h) rfl fun res s => ?_
 unfold fc at s
 refine sR (ae (dm rfl (TR.cnt bd.t r0)) (mB rfl (nR (gL (bd.g_P r0) rfl rfl rfl fun b4 a4 => (gL (bd.g_E r0) rfl rfl rfl fun b5 a6 => ?_)))))
 obtain ⟨a5, a7, s⟩ := bt s
 have a3 := dd7  a4 a6 
 rw [a7] at a3
 refine cL a3 rfl rfl (ai (TR.clo ab.t a4) (ai (TR.clo au.t a6) bf)) (bN fi rfl rfl (mV rfl ?_))
 refine cq 7 (d := 16) (v := vb ((decide (a5 = 0)) && (decide ((kb x0.P x0.Regs) = 0)))) ?_ ?_
 ·intro S Q r
  cases a8 : (decide (a5 = 0))
  ·exact gN 6 rfl rfl rfl rfl rfl rfl
  ·intro k
   have a2 := a8
   try simp only [qa] at a2
   obtain ⟨b3, a9, a0⟩ := bd.g_P r0
   refine ah rfl rfl (bw rfl a9) (ah rfl rfl (bv rfl (TR.cnt ab.t a0) (TR.agg ab.t a0)) ?_)
   obtain ⟨b2, b0, a1⟩ := bd.g_Regs r0
   refine ah rfl rfl (bw rfl b0) (ah rfl rfl (bv rfl (TR.cnt (tSl (tSl dn)) a1) (TR.agg (tSl (tSl dn)) a1)) ?_)
   have b1 := cs9  a0 a1 
   refine ld rfl rfl (ru rfl rfl (ai (TR.clo ab.t a0) (ai (TR.clo (tSl (tSl dn)) a1) bf)) b1) (ah rfl rfl (bq rfl rfl fi) ?_)
   exact gK rfl rfl rfl rfl rfl k
 refine mV rfl (nS ?_)
 exact rR s rfl rfl rfl

theorem bv2 : FnR Tryz.prog 34 [] (vb lc) := dp7

def RF185 (res : (List Bool)) (r : PV) : Prop := (tSl tB).R res r
theorem ww {S : List Fr} {res : (List Bool)} {x0 : List (List Bool)} {v0 : PV} (r0 : (tSl (tSl tB)).R x0 v0) (hb : ∀ l ∈ x0, l.length ≤ 1048576) (hc : x0.length ≤ 1) {K0 : (List Bool) → (List Bool)}
  (c5 : ∀ {a1 : List Bool} {a0 : List PV} {a2 : PV} (a4 : All2 tB.R a1 a0) (a6 : isL a2 = true) (a3 : Wri a2 a0) (a5 : a1.length ≤ 4611686018427387904) {h : Heap} (M0 : Mem h [⟨a2, 4, 1, a0⟩]), K0 a1 = res → PX Tryz.prog 0 S (QR Tryz.prog [(2, none)] (RF185 res)) [(3, a2)] h) :
  ∀ {m : Nat} {a7 : Int} {a1 : List Bool} {a0 : List PV} {a2 : PV} (a4 : All2 tB.R a1 a0) (a6 : isL a2 = true) (a3 : Wri a2 a0) (a5 : a1.length ≤ 4611686018427387904) (c1 : m = Int.toNat ((x0.length : Int) - a7)) (b4 : 0 ≤ a7) (b0 : (a1.length : Int) ≤ 1048576 * a7) {h : Heap} (M0 : Mem h [⟨a2, 4, 1, a0⟩]), jb x0 K0 m a7 a1 = res → RC Tryz.prog (.loop as6) S (QR Tryz.prog [(2, none)] (RF185 res)) [(8, vi a7), (7, vi (x0.length : Int)), (6, v0), (3, a2)] h := by
 have hb' := hb
 try simp only [qa] at hb'
 have hc' := hc
 try simp only [qa] at hc'
 intro m
 induction m with
 | zero =>
  intro a7 a1 a0 a2 a4 a6 a3 a5 c1 b4 b0 h M0 s
  rw [jb] at s
  refine co (sR (bN cw rfl rfl (nS (am ?_))))
  refine cd rfl ?_ ?_ <;> intro c <;> try simp only [qa] at c
  ·omega
  refine fj (gg (dw ?_))
  exact wP (c5 a4 a6 a3 a5 (Mem.sub M0 (.cons_cons _ .slnil)) s) rfl
 | succ m ih =>
  intro a7 a1 a0 a2 a4 a6 a3 a5 c1 b4 b0 h M0 s
  rw [jb] at s
  refine co (sR (bN cw rfl rfl (nS (am ?_))))
  refine cd rfl ?_ ?_ <;> intro c <;> try simp only [qa] at c
  rotate_left
  ·omega
  refine az (aq (am (bm (sR ?_))))
  obtain ⟨c3, b9, b3⟩ := dq (i := a7) r0 (by omega) (by omega)
  refine ae (bg rfl rfl b9) (lD b3 rfl rfl rfl (mV rfl (nS (ay (mV rfl (mV rfl ?_))))))
  obtain ⟨a8, b7, a9⟩ := rt (t := tB) (h := h) b3
  have b2 : fits (a0.length + a8.length) 1 = true := by rw [All2.length_eq a4, All2.length_eq a9]; (try simp only [List.length_cons, List.length_nil]); exact pa (by (have hk := pe hb (i := a7) (by omega) (by omega); omega)) (by (have hk := pe hb (i := a7) (by omega) (by omega); omega))
  refine qo (k := 0) (es := a0) (news := a8) M0 rfl rfl rfl a6 a3 b7 b2 (fun c4 c2 b8 b1 c0 => ?_)
  have b5 : All2 tB.R (a1 ++ (ix x0 a7)) (a0 ++ a8) := All2.app a4 a9
  have b6 : (a1 ++ (ix x0 a7)).length ≤ 4611686018427387904 := by rw [← All2.length_eq b5, List.length_append]; exact pg b2
  refine mV rfl (br (de (aq (ay (bN gv rfl rfl (mV rfl (br (di ?_))))))))
  have hbd := en r0
  have hinc : wr (a7 + 1) = a7 + 1 := ee (by omega) (by omega)
  erw [hinc]
  exact wC (ih  b5 b8 b1 b6 (by omega) (by omega) (by (have hk := pe hb (i := a7) (by omega) (by omega); simp only [List.length_append]; omega)) (Mem.sub c0 (.cons_cons _ .slnil)) s) rfl

theorem dw8 {x0 : List (List Bool)} {v0 : PV} (r0 : (tSl (tSl tB)).R x0 v0) (hb : ∀ l ∈ x0, l.length ≤ 1048576) (hc : x0.length ≤ 1) : ∃ r, FnR Tryz.prog 185 [v0] r ∧ (tSl tB).R (mw x0) r := by
 refine fnT (R := RF185) ar1 rfl fun res s => ?_
 unfold mw at s
 refine sR (ae (v := nilS) (av rfl) (nR (ae (v := nilS) (av rfl) (nS (am (sR (mV rfl (ae (cv rfl (ci r0 Tryz.underlying213 _)) ?_))))))))
 refine mI rfl (nS (bm ?_))
 have a7 := py (sz := 1) (es := []) (Mem.nil ⟨0, []⟩) 4 (.inl ⟨none, rfl, rfl⟩) (by simp)
 refine wC (ww r0 hb hc ?_  aL rfl (.inl rfl) (by first | decide | simp) rfl (by omega) (by simp) (Mem.sub a7 (.cons_cons _ .slnil)) s) rfl
 ·intro a3 a4 a6 a1 a2 a5 a0 b1 a8 s
  refine gm (aq (sR (mV rfl (mV rfl (nS ?_)))))
  obtain ⟨b2, a9, b0⟩ := qj (P := Tryz.prog) (k := 0) (t := tB) a8 rfl a2 a1 (Nat.le_trans a0 (by decide))
  subst s
  exact fu (.tmp rfl .nil) a9 b0
def RF185x (R_ : List Ent) (res : (List Bool)) (r : PV) (h : Heap) : Prop := ∃ asR0_ : PV, ∃ esR0_ : List PV, Mem h (⟨asR0_, 4, 1, esR0_⟩ :: R_) ∧ (All2 tB.R res esR0_) ∧ (isL asR0_ = true) ∧ (res.length ≤ 4611686018427387904) ∧ (Wri asR0_ esR0_) ∧ r = asR0_
theorem vm {S : List Fr} {res : (List Bool)} {x0 : List (List Bool)} {v0 : PV} {R_ : List Ent} (r0 : (tSl (tSl tB)).R x0 v0) (hb : ∀ l ∈ x0, l.length ≤ 1048576) (hc : x0.length ≤ 1) {K0 : (List Bool) → (List Bool)}
  (c5 : ∀ {a1 : List Bool} {a0 : List PV} {a2 : PV} (a4 : All2 tB.R a1 a0) (a6 : isL a2 = true) (a3 : Wri a2 a0) (a5 : a1.length ≤ 4611686018427387904) {h : Heap} (M0 : Mem h (⟨a2, 4, 1, a0⟩ :: R_)), K0 a1 = res → PX Tryz.prog 0 S (retPost Tryz.prog [(2, none)] (RF185x R_ res)) [(3, a2)] h) :
  ∀ {m : Nat} {a7 : Int} {a1 : List Bool} {a0 : List PV} {a2 : PV} (a4 : All2 tB.R a1 a0) (a6 : isL a2 = true) (a3 : Wri a2 a0) (a5 : a1.length ≤ 4611686018427387904) (c1 : m = Int.toNat ((x0.length : Int) - a7)) (b4 : 0 ≤ a7) (b0 : (a1.length : Int) ≤ 1048576 * a7) {h : Heap} (M0 : Mem h (⟨a2, 4, 1, a0⟩ :: R_)), jb x0 K0 m a7 a1 = res → RC Tryz.prog (.loop as6) S (retPost Tryz.prog [(2, none)] (RF185x R_ res)) [(8, vi a7), (7, vi (x0.length : Int)), (6, v0), (3, a2)] h := by
 have hb' := hb
 try simp only [qa] at hb'
 have hc' := hc
 try simp only [qa] at hc'
 intro m
 induction m with
 | zero =>
  intro a7 a1 a0 a2 a4 a6 a3 a5 c1 b4 b0 h M0 s
  rw [jb] at s
  refine co (sR (bN cw rfl rfl (nS (am ?_))))
  refine cd rfl ?_ ?_ <;> intro c <;> try simp only [qa] at c
  ·omega
  refine fj (gg (dw ?_))
  exact wP (c5 a4 a6 a3 a5 (Mem.sub M0 (.cons_cons _ (List.Sublist.refl R_))) s) rfl
 | succ m ih =>
  intro a7 a1 a0 a2 a4 a6 a3 a5 c1 b4 b0 h M0 s
  rw [jb] at s
  refine co (sR (bN cw rfl rfl (nS (am ?_))))
  refine cd rfl ?_ ?_ <;> intro c <;> try simp only [qa] at c
  rotate_left
  ·omega
  refine az (aq (am (bm (sR ?_))))
  obtain ⟨c3, b9, b3⟩ := dq (i := a7) r0 (by omega) (by omega)
  refine ae (bg rfl rfl b9) (lD b3 rfl rfl rfl (mV rfl (nS (ay (mV rfl (mV rfl ?_))))))
  obtain ⟨a8, b7, a9⟩ := rt (t := tB) (h := h) b3
  have b2 : fits (a0.length + a8.length) 1 = true := by rw [All2.length_eq a4, All2.length_eq a9]; (try simp only [List.length_cons, List.length_nil]); exact pa (by (have hk := pe hb (i := a7) (by omega) (by omega); omega)) (by (have hk := pe hb (i := a7) (by omega) (by omega); omega))
  refine qo (k := 0) (es := a0) (news := a8) M0 rfl rfl rfl a6 a3 b7 b2 (fun c4 c2 b8 b1 c0 => ?_)
  have b5 : All2 tB.R (a1 ++ (ix x0 a7)) (a0 ++ a8) := All2.app a4 a9
  have b6 : (a1 ++ (ix x0 a7)).length ≤ 4611686018427387904 := by rw [← All2.length_eq b5, List.length_append]; exact pg b2
  refine mV rfl (br (de (aq (ay (bN gv rfl rfl (mV rfl (br (di ?_))))))))
  have hbd := en r0
  have hinc : wr (a7 + 1) = a7 + 1 := ee (by omega) (by omega)
  erw [hinc]
  exact wC (ih  b5 b8 b1 b6 (by omega) (by omega) (by (have hk := pe hb (i := a7) (by omega) (by omega); simp only [List.length_append]; omega)) (Mem.sub c0 (.cons_cons _ (List.Sublist.refl R_))) s) rfl

theorem cc9 {x0 : List (List Bool)} {v0 : PV} {R_ : List Ent} {h_ : Heap} (r0 : (tSl (tSl tB)).R x0 v0) (M_ : Mem h_ (R_)) (hb : ∀ l ∈ x0, l.length ≤ 1048576) (hc : x0.length ≤ 1) : ∃ r b1, FnX Tryz.prog 185 [v0] h_ r b1 ∧ RF185x R_ (mw x0) r b1 := by
 obtain ⟨res, s⟩ : ∃ res, mw x0 = res := ⟨_, rfl⟩
 suffices H : RC Tryz.prog bx5 [] (retPost Tryz.prog [(2, none)] (RF185x R_ res)) (argE 0 [v0]) h_ by
  rw [s]
  exact fnX ar1 (by simp) H
 unfold mw at s
 refine sR (ae (v := nilS) (av rfl) (nR (ae (v := nilS) (av rfl) (nS (am (sR (mV rfl (ae (cv rfl (ci r0 Tryz.underlying213 _)) ?_))))))))
 refine mI rfl (nS (bm ?_))
 have a8 := py (sz := 1) (es := []) M_ 4 (.inl ⟨none, rfl, rfl⟩) (by simp)
 refine wC (vm r0 hb hc ?_  aL rfl (.inl rfl) (by first | decide | simp) rfl (by omega) (by simp) (Mem.sub a8 (.cons_cons _ (List.Sublist.refl R_))) s) rfl
 ·intro a6 a0 a1 a4 a5 a3 a2 b0 a9 s
  refine gm (aq (sR (mV rfl (mV rfl (nS ?_)))))
  have a7 : Mem b0 (⟨a1, 4, 1, a0⟩ :: R_) := (Mem.front (k := 0) a9 rfl)
  subst s
  exact iy (.tmp rfl .nil) ⟨a1, a0, Mem.sub a7 (.cons_cons _ (List.Sublist.refl R_)), a4, a5, a2, a3, rfl⟩

def RF186 (res : (List (BitVec 32))) (r : PV) : Prop := (tSl dn).R res r
theorem ul {S : List Fr} {res : (List (BitVec 32))} {x0 : List (List (BitVec 32))} {v0 : PV} (r0 : (tSl (tSl dn)).R x0 v0) (hb : ∀ l ∈ x0, l.length ≤ 1048576) (hc : x0.length ≤ 1) {K0 : (List (BitVec 32)) → (List (BitVec 32))}
  (c5 : ∀ {a1 : List (BitVec 32)} {a0 : List PV} {a2 : PV} (a4 : All2 dn.R a1 a0) (a6 : isL a2 = true) (a3 : Wri a2 a0) (a5 : a1.length ≤ 4611686018427387904) {h : Heap} (M0 : Mem h [⟨a2, 89, 1, a0⟩]), K0 a1 = res → PX Tryz.prog 0 S (QR Tryz.prog [(2, none)] (RF186 res)) [(3, a2)] h) :
  ∀ {m : Nat} {a7 : Int} {a1 : List (BitVec 32)} {a0 : List PV} {a2 : PV} (a4 : All2 dn.R a1 a0) (a6 : isL a2 = true) (a3 : Wri a2 a0) (a5 : a1.length ≤ 4611686018427387904) (c1 : m = Int.toNat ((x0.length : Int) - a7)) (b4 : 0 ≤ a7) (b0 : (a1.length : Int) ≤ 1048576 * a7) {h : Heap} (M0 : Mem h [⟨a2, 89, 1, a0⟩]), ip x0 K0 m a7 a1 = res → RC Tryz.prog (.loop aw9) S (QR Tryz.prog [(2, none)] (RF186 res)) [(8, vi a7), (7, vi (x0.length : Int)), (6, v0), (3, a2)] h := by
 have hb' := hb
 try simp only [qa] at hb'
 have hc' := hc
 try simp only [qa] at hc'
 intro m
 induction m with
 | zero =>
  intro a7 a1 a0 a2 a4 a6 a3 a5 c1 b4 b0 h M0 s
  rw [ip] at s
  refine co (sR (bN cw rfl rfl (nS (am ?_))))
  refine cd rfl ?_ ?_ <;> intro c <;> try simp only [qa] at c
  ·omega
  refine fj (gg (dw ?_))
  exact wP (c5 a4 a6 a3 a5 (Mem.sub M0 (.cons_cons _ .slnil)) s) rfl
 | succ m ih =>
  intro a7 a1 a0 a2 a4 a6 a3 a5 c1 b4 b0 h M0 s
  rw [ip] at s
  refine co (sR (bN cw rfl rfl (nS (am ?_))))
  refine cd rfl ?_ ?_ <;> intro c <;> try simp only [qa] at c
  rotate_left
  ·omega
  refine az (aq (am (bm (sR ?_))))
  obtain ⟨c3, b9, b3⟩ := dq (i := a7) r0 (by omega) (by omega)
  refine ae (bg rfl rfl b9) (lD b3 rfl rfl rfl (mV rfl (nS (ay (mV rfl (mV rfl ?_))))))
  obtain ⟨a8, b7, a9⟩ := rt (t := dn) (h := h) b3
  have b2 : fits (a0.length + a8.length) 4 = true := by rw [All2.length_eq a4, All2.length_eq a9]; (try simp only [List.length_cons, List.length_nil]); exact pa (by (have hk := pe hb (i := a7) (by omega) (by omega); omega)) (by (have hk := pe hb (i := a7) (by omega) (by omega); omega))
  refine qo (k := 0) (es := a0) (news := a8) M0 rfl rfl rfl a6 a3 b7 b2 (fun c4 c2 b8 b1 c0 => ?_)
  have b5 : All2 dn.R (a1 ++ (ix x0 a7)) (a0 ++ a8) := All2.app a4 a9
  have b6 : (a1 ++ (ix x0 a7)).length ≤ 4611686018427387904 := by rw [← All2.length_eq b5, List.length_append]; exact pg b2
  refine mV rfl (br (de (aq (ay (bN gv rfl rfl (mV rfl (br (di ?_))))))))
  have hbd := en r0
  have hinc : wr (a7 + 1) = a7 + 1 := ee (by omega) (by omega)
  erw [hinc]
  exact wC (ih  b5 b8 b1 b6 (by omega) (by omega) (by (have hk := pe hb (i := a7) (by omega) (by omega); simp only [List.length_append]; omega)) (Mem.sub c0 (.cons_cons _ .slnil)) s) rfl

theorem dx1 {x0 : List (List (BitVec 32))} {v0 : PV} (r0 : (tSl (tSl dn)).R x0 v0) (hb : ∀ l ∈ x0, l.length ≤ 1048576) (hc : x0.length ≤ 1) : ∃ r, FnR Tryz.prog 186 [v0] r ∧ (tSl dn).R (lr x0) r := by
 refine fnT (R := RF186) aq6 rfl fun res s => ?_
 unfold lr at s
 refine sR (ae (v := nilS) (av rfl) (nR (ae (v := nilS) (av rfl) (nS (am (sR (mV rfl (ae (cv rfl (ci r0 Tryz.underlying42 _)) ?_))))))))
 refine mI rfl (nS (bm ?_))
 have a7 := py (sz := 1) (es := []) (Mem.nil ⟨0, []⟩) 89 (.inl ⟨none, rfl, rfl⟩) (by simp)
 refine wC (ul r0 hb hc ?_  aL rfl (.inl rfl) (by first | decide | simp) rfl (by omega) (by simp) (Mem.sub a7 (.cons_cons _ .slnil)) s) rfl
 ·intro a3 a4 a6 a1 a2 a5 a0 b1 a8 s
  refine gm (aq (sR (mV rfl (mV rfl (nS ?_)))))
  obtain ⟨b2, a9, b0⟩ := qj (P := Tryz.prog) (k := 0) (t := dn) a8 rfl a2 a1 (Nat.le_trans a0 (by decide))
  subst s
  exact fu (.tmp rfl .nil) a9 b0
def RF186x (R_ : List Ent) (res : (List (BitVec 32))) (r : PV) (h : Heap) : Prop := ∃ asR0_ : PV, ∃ esR0_ : List PV, Mem h (⟨asR0_, 89, 1, esR0_⟩ :: R_) ∧ (All2 dn.R res esR0_) ∧ (isL asR0_ = true) ∧ (res.length ≤ 4611686018427387904) ∧ (Wri asR0_ esR0_) ∧ r = asR0_
theorem ud {S : List Fr} {res : (List (BitVec 32))} {x0 : List (List (BitVec 32))} {v0 : PV} {R_ : List Ent} (r0 : (tSl (tSl dn)).R x0 v0) (hb : ∀ l ∈ x0, l.length ≤ 1048576) (hc : x0.length ≤ 1) {K0 : (List (BitVec 32)) → (List (BitVec 32))}
  (c5 : ∀ {a1 : List (BitVec 32)} {a0 : List PV} {a2 : PV} (a4 : All2 dn.R a1 a0) (a6 : isL a2 = true) (a3 : Wri a2 a0) (a5 : a1.length ≤ 4611686018427387904) {h : Heap} (M0 : Mem h (⟨a2, 89, 1, a0⟩ :: R_)), K0 a1 = res → PX Tryz.prog 0 S (retPost Tryz.prog [(2, none)] (RF186x R_ res)) [(3, a2)] h) :
  ∀ {m : Nat} {a7 : Int} {a1 : List (BitVec 32)} {a0 : List PV} {a2 : PV} (a4 : All2 dn.R a1 a0) (a6 : isL a2 = true) (a3 : Wri a2 a0) (a5 : a1.length ≤ 4611686018427387904) (c1 : m = Int.toNat ((x0.length : Int) - a7)) (b4 : 0 ≤ a7) (b0 : (a1.length : Int) ≤ 1048576 * a7) {h : Heap} (M0 : Mem h (⟨a2, 89, 1, a0⟩ :: R_)), ip x0 K0 m a7 a1 = res → RC Tryz.prog (.loop aw9) S (retPost Tryz.prog [(2, none)] (RF186x R_ res)) [(8, vi a7), (7, vi (x0.length : Int)), (6, v0), (3, a2)] h := by
 have hb' := hb
 try simp only [qa] at hb'
 have hc' := hc
 try simp only [qa] at hc'
 intro m
 induction m with
 | zero =>
  intro a7 a1 a0 a2 a4 a6 a3 a5 c1 b4 b0 h M0 s
  rw [ip] at s
  refine co (sR (bN cw rfl rfl (nS (am ?_))))
  refine cd rfl ?_ ?_ <;> intro c <;> try simp only [qa] at c
  ·omega
  refine fj (gg (dw ?_))
  exact wP (c5 a4 a6 a3 a5 (Mem.sub M0 (.cons_cons _ (List.Sublist.refl R_))) s) rfl
 | succ m ih =>
  intro a7 a1 a0 a2 a4 a6 a3 a5 c1 b4 b0 h M0 s
  rw [ip] at s
  refine co (sR (bN cw rfl rfl (nS (am ?_))))
  refine cd rfl ?_ ?_ <;> intro c <;> try simp only [qa] at c
  rotate_left
  ·omega
  refine az (aq (am (bm (sR ?_))))
  obtain ⟨c3, b9, b3⟩ := dq (i := a7) r0 (by omega) (by omega)
  refine ae (bg rfl rfl b9) (lD b3 rfl rfl rfl (mV rfl (nS (ay (mV rfl (mV rfl ?_))))))
  obtain ⟨a8, b7, a9⟩ := rt (t := dn) (h := h) b3
  have b2 : fits (a0.length + a8.length) 4 = true := by rw [All2.length_eq a4, All2.length_eq a9]; (try simp only [List.length_cons, List.length_nil]); exact pa (by (have hk := pe hb (i := a7) (by omega) (by omega); omega)) (by (have hk := pe hb (i := a7) (by omega) (by omega); omega))
  refine qo (k := 0) (es := a0) (news := a8) M0 rfl rfl rfl a6 a3 b7 b2 (fun c4 c2 b8 b1 c0 => ?_)
  have b5 : All2 dn.R (a1 ++ (ix x0 a7)) (a0 ++ a8) := All2.app a4 a9
  have b6 : (a1 ++ (ix x0 a7)).length ≤ 4611686018427387904 := by rw [← All2.length_eq b5, List.length_append]; exact pg b2
  refine mV rfl (br (de (aq (ay (bN gv rfl rfl (mV rfl (br (di ?_))))))))
  have hbd := en r0
  have hinc : wr (a7 + 1) = a7 + 1 := ee (by omega) (by omega)
  erw [hinc]
  exact wC (ih  b5 b8 b1 b6 (by omega) (by omega) (by (have hk := pe hb (i := a7) (by omega) (by omega); simp only [List.length_append]; omega)) (Mem.sub c0 (.cons_cons _ (List.Sublist.refl R_))) s) rfl

theorem bs3 {x0 : List (List (BitVec 32))} {v0 : PV} {R_ : List Ent} {h_ : Heap} (r0 : (tSl (tSl dn)).R x0 v0) (M_ : Mem h_ (R_)) (hb : ∀ l ∈ x0, l.length ≤ 1048576) (hc : x0.length ≤ 1) : ∃ r b1, FnX Tryz.prog 186 [v0] h_ r b1 ∧ RF186x R_ (lr x0) r b1 := by
 obtain ⟨res, s⟩ : ∃ res, lr x0 = res := ⟨_, rfl⟩
 suffices H : RC Tryz.prog ca9 [] (retPost Tryz.prog [(2, none)] (RF186x R_ res)) (argE 0 [v0]) h_ by
  rw [s]
  exact fnX aq6 (by simp) H
 unfold lr at s
 refine sR (ae (v := nilS) (av rfl) (nR (ae (v := nilS) (av rfl) (nS (am (sR (mV rfl (ae (cv rfl (ci r0 Tryz.underlying42 _)) ?_))))))))
 refine mI rfl (nS (bm ?_))
 have a8 := py (sz := 1) (es := []) M_ 89 (.inl ⟨none, rfl, rfl⟩) (by simp)
 refine wC (ud r0 hb hc ?_  aL rfl (.inl rfl) (by first | decide | simp) rfl (by omega) (by simp) (Mem.sub a8 (.cons_cons _ (List.Sublist.refl R_))) s) rfl
 ·intro a6 a0 a1 a4 a5 a3 a2 b0 a9 s
  refine gm (aq (sR (mV rfl (mV rfl (nS ?_)))))
  have a7 : Mem b0 (⟨a1, 89, 1, a0⟩ :: R_) := (Mem.front (k := 0) a9 rfl)
  subst s
  exact iy (.tmp rfl .nil) ⟨a1, a0, Mem.sub a7 (.cons_cons _ (List.Sublist.refl R_)), a4, a5, a2, a3, rfl⟩

def RF187 (res : (List UInt8)) (r : PV) : Prop := (tSl tU8).R res r
theorem wy {S : List Fr} {res : (List UInt8)} {x0 : List (List UInt8)} {v0 : PV} (r0 : (tSl (tSl tU8)).R x0 v0) (hb : ∀ l ∈ x0, l.length ≤ 1048576) (hc : x0.length ≤ 1) {K0 : (List UInt8) → (List UInt8)}
  (c5 : ∀ {a1 : List UInt8} {a0 : List PV} {a2 : PV} (a4 : All2 tU8.R a1 a0) (a6 : isL a2 = true) (a3 : Wri a2 a0) (a5 : a1.length ≤ 4611686018427387904) {h : Heap} (M0 : Mem h [⟨a2, 5, 1, a0⟩]), K0 a1 = res → PX Tryz.prog 0 S (QR Tryz.prog [(2, none)] (RF187 res)) [(3, a2)] h) :
  ∀ {m : Nat} {a7 : Int} {a1 : List UInt8} {a0 : List PV} {a2 : PV} (a4 : All2 tU8.R a1 a0) (a6 : isL a2 = true) (a3 : Wri a2 a0) (a5 : a1.length ≤ 4611686018427387904) (c1 : m = Int.toNat ((x0.length : Int) - a7)) (b4 : 0 ≤ a7) (b0 : (a1.length : Int) ≤ 1048576 * a7) {h : Heap} (M0 : Mem h [⟨a2, 5, 1, a0⟩]), jd x0 K0 m a7 a1 = res → RC Tryz.prog (.loop ax1) S (QR Tryz.prog [(2, none)] (RF187 res)) [(8, vi a7), (7, vi (x0.length : Int)), (6, v0), (3, a2)] h := by
 have hb' := hb
 try simp only [qa] at hb'
 have hc' := hc
 try simp only [qa] at hc'
 intro m
 induction m with
 | zero =>
  intro a7 a1 a0 a2 a4 a6 a3 a5 c1 b4 b0 h M0 s
  rw [jd] at s
  refine co (sR (bN cw rfl rfl (nS (am ?_))))
  refine cd rfl ?_ ?_ <;> intro c <;> try simp only [qa] at c
  ·omega
  refine fj (gg (dw ?_))
  exact wP (c5 a4 a6 a3 a5 (Mem.sub M0 (.cons_cons _ .slnil)) s) rfl
 | succ m ih =>
  intro a7 a1 a0 a2 a4 a6 a3 a5 c1 b4 b0 h M0 s
  rw [jd] at s
  refine co (sR (bN cw rfl rfl (nS (am ?_))))
  refine cd rfl ?_ ?_ <;> intro c <;> try simp only [qa] at c
  rotate_left
  ·omega
  refine az (aq (am (bm (sR ?_))))
  obtain ⟨c3, b9, b3⟩ := dq (i := a7) r0 (by omega) (by omega)
  refine ae (bg rfl rfl b9) (lD b3 rfl rfl rfl (mV rfl (nS (ay (mV rfl (mV rfl ?_))))))
  obtain ⟨a8, b7, a9⟩ := rt (t := tU8) (h := h) b3
  have b2 : fits (a0.length + a8.length) 1 = true := by rw [All2.length_eq a4, All2.length_eq a9]; (try simp only [List.length_cons, List.length_nil]); exact pa (by (have hk := pe hb (i := a7) (by omega) (by omega); omega)) (by (have hk := pe hb (i := a7) (by omega) (by omega); omega))
  refine qo (k := 0) (es := a0) (news := a8) M0 rfl rfl rfl a6 a3 b7 b2 (fun c4 c2 b8 b1 c0 => ?_)
  have b5 : All2 tU8.R (a1 ++ (ix x0 a7)) (a0 ++ a8) := All2.app a4 a9
  have b6 : (a1 ++ (ix x0 a7)).length ≤ 4611686018427387904 := by rw [← All2.length_eq b5, List.length_append]; exact pg b2
  refine mV rfl (br (de (aq (ay (bN gv rfl rfl (mV rfl (br (di ?_))))))))
  have hbd := en r0
  have hinc : wr (a7 + 1) = a7 + 1 := ee (by omega) (by omega)
  erw [hinc]
  exact wC (ih  b5 b8 b1 b6 (by omega) (by omega) (by (have hk := pe hb (i := a7) (by omega) (by omega); simp only [List.length_append]; omega)) (Mem.sub c0 (.cons_cons _ .slnil)) s) rfl

theorem dx2 {x0 : List (List UInt8)} {v0 : PV} (r0 : (tSl (tSl tU8)).R x0 v0) (hb : ∀ l ∈ x0, l.length ≤ 1048576) (hc : x0.length ≤ 1) : ∃ r, FnR Tryz.prog 187 [v0] r ∧ (tSl tU8).R (mv x0) r := by
 refine fnT (R := RF187) aq3 rfl fun res s => ?_
 unfold mv at s
 refine sR (ae (v := nilS) (av rfl) (nR (ae (v := nilS) (av rfl) (nS (am (sR (mV rfl (ae (cv rfl (ci r0 Tryz.underlying259 _)) ?_))))))))
 refine mI rfl (nS (bm ?_))
 have a7 := py (sz := 1) (es := []) (Mem.nil ⟨0, []⟩) 5 (.inl ⟨none, rfl, rfl⟩) (by simp)
 refine wC (wy r0 hb hc ?_  aL rfl (.inl rfl) (by first | decide | simp) rfl (by omega) (by simp) (Mem.sub a7 (.cons_cons _ .slnil)) s) rfl
 ·intro a3 a4 a6 a1 a2 a5 a0 b1 a8 s
  refine gm (aq (sR (mV rfl (mV rfl (nS ?_)))))
  obtain ⟨b2, a9, b0⟩ := qj (P := Tryz.prog) (k := 0) (t := tU8) a8 rfl a2 a1 (Nat.le_trans a0 (by decide))
  subst s
  exact fu (.tmp rfl .nil) a9 b0
def RF187x (R_ : List Ent) (res : (List UInt8)) (r : PV) (h : Heap) : Prop := ∃ asR0_ : PV, ∃ esR0_ : List PV, Mem h (⟨asR0_, 5, 1, esR0_⟩ :: R_) ∧ (All2 tU8.R res esR0_) ∧ (isL asR0_ = true) ∧ (res.length ≤ 4611686018427387904) ∧ (Wri asR0_ esR0_) ∧ r = asR0_
theorem ux {S : List Fr} {res : (List UInt8)} {x0 : List (List UInt8)} {v0 : PV} {R_ : List Ent} (r0 : (tSl (tSl tU8)).R x0 v0) (hb : ∀ l ∈ x0, l.length ≤ 1048576) (hc : x0.length ≤ 1) {K0 : (List UInt8) → (List UInt8)}
  (c5 : ∀ {a1 : List UInt8} {a0 : List PV} {a2 : PV} (a4 : All2 tU8.R a1 a0) (a6 : isL a2 = true) (a3 : Wri a2 a0) (a5 : a1.length ≤ 4611686018427387904) {h : Heap} (M0 : Mem h (⟨a2, 5, 1, a0⟩ :: R_)), K0 a1 = res → PX Tryz.prog 0 S (retPost Tryz.prog [(2, none)] (RF187x R_ res)) [(3, a2)] h) :
  ∀ {m : Nat} {a7 : Int} {a1 : List UInt8} {a0 : List PV} {a2 : PV} (a4 : All2 tU8.R a1 a0) (a6 : isL a2 = true) (a3 : Wri a2 a0) (a5 : a1.length ≤ 4611686018427387904) (c1 : m = Int.toNat ((x0.length : Int) - a7)) (b4 : 0 ≤ a7) (b0 : (a1.length : Int) ≤ 1048576 * a7) {h : Heap} (M0 : Mem h (⟨a2, 5, 1, a0⟩ :: R_)), jd x0 K0 m a7 a1 = res → RC Tryz.prog (.loop ax1) S (retPost Tryz.prog [(2, none)] (RF187x R_ res)) [(8, vi a7), (7, vi (x0.length : Int)), (6, v0), (3, a2)] h := by
 have hb' := hb
 try simp only [qa] at hb'
 have hc' := hc
 try simp only [qa] at hc'
 intro m
 induction m with
 | zero =>
  intro a7 a1 a0 a2 a4 a6 a3 a5 c1 b4 b0 h M0 s
  rw [jd] at s
  refine co (sR (bN cw rfl rfl (nS (am ?_))))
  refine cd rfl ?_ ?_ <;> intro c <;> try simp only [qa] at c
  ·omega
  refine fj (gg (dw ?_))
  exact wP (c5 a4 a6 a3 a5 (Mem.sub M0 (.cons_cons _ (List.Sublist.refl R_))) s) rfl
 | succ m ih =>
  intro a7 a1 a0 a2 a4 a6 a3 a5 c1 b4 b0 h M0 s
  rw [jd] at s
  refine co (sR (bN cw rfl rfl (nS (am ?_))))
  refine cd rfl ?_ ?_ <;> intro c <;> try simp only [qa] at c
  rotate_left
  ·omega
  refine az (aq (am (bm (sR ?_))))
  obtain ⟨c3, b9, b3⟩ := dq (i := a7) r0 (by omega) (by omega)
  refine ae (bg rfl rfl b9) (lD b3 rfl rfl rfl (mV rfl (nS (ay (mV rfl (mV rfl ?_))))))
  obtain ⟨a8, b7, a9⟩ := rt (t := tU8) (h := h) b3
  have b2 : fits (a0.length + a8.length) 1 = true := by rw [All2.length_eq a4, All2.length_eq a9]; (try simp only [List.length_cons, List.length_nil]); exact pa (by (have hk := pe hb (i := a7) (by omega) (by omega); omega)) (by (have hk := pe hb (i := a7) (by omega) (by omega); omega))
  refine qo (k := 0) (es := a0) (news := a8) M0 rfl rfl rfl a6 a3 b7 b2 (fun c4 c2 b8 b1 c0 => ?_)
  have b5 : All2 tU8.R (a1 ++ (ix x0 a7)) (a0 ++ a8) := All2.app a4 a9
  have b6 : (a1 ++ (ix x0 a7)).length ≤ 4611686018427387904 := by rw [← All2.length_eq b5, List.length_append]; exact pg b2
  refine mV rfl (br (de (aq (ay (bN gv rfl rfl (mV rfl (br (di ?_))))))))
  have hbd := en r0
  have hinc : wr (a7 + 1) = a7 + 1 := ee (by omega) (by omega)
  erw [hinc]
  exact wC (ih  b5 b8 b1 b6 (by omega) (by omega) (by (have hk := pe hb (i := a7) (by omega) (by omega); simp only [List.length_append]; omega)) (Mem.sub c0 (.cons_cons _ (List.Sublist.refl R_))) s) rfl

theorem cd1 {x0 : List (List UInt8)} {v0 : PV} {R_ : List Ent} {h_ : Heap} (r0 : (tSl (tSl tU8)).R x0 v0) (M_ : Mem h_ (R_)) (hb : ∀ l ∈ x0, l.length ≤ 1048576) (hc : x0.length ≤ 1) : ∃ r b1, FnX Tryz.prog 187 [v0] h_ r b1 ∧ RF187x R_ (mv x0) r b1 := by
 obtain ⟨res, s⟩ : ∃ res, mv x0 = res := ⟨_, rfl⟩
 suffices H : RC Tryz.prog ce4 [] (retPost Tryz.prog [(2, none)] (RF187x R_ res)) (argE 0 [v0]) h_ by
  rw [s]
  exact fnX aq3 (by simp) H
 unfold mv at s
 refine sR (ae (v := nilS) (av rfl) (nR (ae (v := nilS) (av rfl) (nS (am (sR (mV rfl (ae (cv rfl (ci r0 Tryz.underlying259 _)) ?_))))))))
 refine mI rfl (nS (bm ?_))
 have a8 := py (sz := 1) (es := []) M_ 5 (.inl ⟨none, rfl, rfl⟩) (by simp)
 refine wC (ux r0 hb hc ?_  aL rfl (.inl rfl) (by first | decide | simp) rfl (by omega) (by simp) (Mem.sub a8 (.cons_cons _ (List.Sublist.refl R_))) s) rfl
 ·intro a6 a0 a1 a4 a5 a3 a2 b0 a9 s
  refine gm (aq (sR (mV rfl (mV rfl (nS ?_)))))
  have a7 : Mem b0 (⟨a1, 5, 1, a0⟩ :: R_) := (Mem.front (k := 0) a9 rfl)
  subst s
  exact iy (.tmp rfl .nil) ⟨a1, a0, Mem.sub a7 (.cons_cons _ (List.Sublist.refl R_)), a4, a5, a2, a3, rfl⟩

theorem cr9 (l : List Bool) : mw [l] = l := by
 simp [mw, jb, ix]
theorem cl8 (l : List (BitVec 32)) : lr [l] = l := by
 simp [lr, ip, ix]
theorem ci2 (l : List UInt8) : mv [l] = l := by
 simp [mv, jd, ix]
theorem sl1 {α : Type} {t : TR α} {l : α} {c : PV} (h : t.R l c) : (tSl t).R [l] (.fs true [c]) := vj (t := t) (l := [l]) ⟨h, trivial⟩ (by simp)
theorem jn_b {l : List Bool} {c : PV} (q : (tSl tB).R l c) (hl : l.length ≤ 1048576) : ∃ r k es, FnX Tryz.prog 185 [.fs true [c]] ⟨0, []⟩ r k ∧ Mem k [⟨r, 4, 1, es⟩] ∧ All2 tB.R l es ∧ isL r = true ∧ Wri r es := by
 obtain ⟨r, k, h1, a, es, h2, h3, h4, h5, h6, rfl⟩ := cc9 (x0 := [l]) (sl1 q) (Mem.nil ⟨0, []⟩) (by simpa using hl) (by simp)
 rw [cr9] at h3
 exact ⟨_, k, es, h1, h2, h3, h4, h6⟩
theorem jn_w {l : List (BitVec 32)} {c : PV} (q : (tSl dn).R l c) (hl : l.length ≤ 1048576) : ∃ r k es, FnX Tryz.prog 186 [.fs true [c]] ⟨0, []⟩ r k ∧ Mem k [⟨r, 89, 1, es⟩] ∧ All2 dn.R l es ∧ isL r = true ∧ Wri r es := by
 obtain ⟨r, k, h1, a, es, h2, h3, h4, h5, h6, rfl⟩ := bs3 (x0 := [l]) (sl1 q) (Mem.nil ⟨0, []⟩) (by simpa using hl) (by simp)
 rw [cl8] at h3
 exact ⟨_, k, es, h1, h2, h3, h4, h6⟩
theorem jn_y {l : List UInt8} {c : PV} (q : (tSl tU8).R l c) (hl : l.length ≤ 1048576) : ∃ r k es, FnX Tryz.prog 187 [.fs true [c]] ⟨0, []⟩ r k ∧ Mem k [⟨r, 5, 1, es⟩] ∧ All2 tU8.R l es ∧ isL r = true ∧ Wri r es := by
 obtain ⟨r, k, h1, a, es, h2, h3, h4, h5, h6, rfl⟩ := cd1 (x0 := [l]) (sl1 q) (Mem.nil ⟨0, []⟩) (by simpa using hl) (by simp)
 rw [ci2] at h3
 exact ⟨_, k, es, h1, h2, h3, h4, h6⟩
theorem cc0 {g : Ent} {X I R : List Ent} : (g :: (X ++ (I ++ R))).Perm (X ++ ((I ++ [g]) ++ R)) := by
 have e1 : X ++ ((I ++ [g]) ++ R) = (X ++ I) ++ g :: R := by simp
 have e2 : X ++ (I ++ R) = (X ++ I) ++ R := by simp
 rw [e1, e2]
 exact List.perm_middle.symm
def CQ (x0 : au) (R_ : List Ent) (r : PV) (h : Heap) : Prop := ∃ a b c d eb ef em ep I, r = .agg [a, b, c, d] ∧ OE h x0 a b c d eb ef em ep I R_
theorem cx7 {S : List Fr} {Q : Post} {x0 : au} {c1 : PV} (q1 : (tSl (tSl dn)).R x0.Fields c1) (hE : EB x0) {a c d : PV} {e1 e2 e3 : List PV} {i2 w2 i3 w3 : Nat} {R_ : List Ent} (na : isL a = true) (nc : isL c = true) (nd : isL d = true)
  (K : ∀ {h : Heap} {zv : PV} {ze : List PV} {I : List Ent}, Ns dn 89 x0.Fields ze I → isL zv = true → Wri zv ze → Mem h (⟨.op i3 w3 0, 46, 4, [.agg [a, zv, c, d]]⟩ :: ⟨zv, 43, 1, ze⟩ :: ⟨d, 5, 1, e3⟩ :: ⟨c, 89, 1, e2⟩ :: ⟨a, 4, 1, e1⟩ :: ⟨.op i2 w2 0, 46, 4, [.agg [nilS, nilS, nilS, nilS]]⟩ :: (I ++ R_)) → PX Tryz.prog 0 S Q [(3, .op i3 w3 0), (2, .op i2 w2 0)] h) :
  ∀ (m : Nat) {i : Int} {zv : PV} {ze : List PV} {I : List Ent} {h : Heap}, m = Int.toNat ((x0.Fields.length : Int) - i) → 0 ≤ i → i ≤ x0.Fields.length → Ns dn 89 (x0.Fields.take i.toNat) ze I → isL zv = true → Wri zv ze →
   Mem h (⟨.op i3 w3 0, 46, 4, [.agg [a, zv, c, d]]⟩ :: ⟨zv, 43, 1, ze⟩ :: ⟨d, 5, 1, e3⟩ :: ⟨c, 89, 1, e2⟩ :: ⟨a, 4, 1, e1⟩ :: ⟨.op i2 w2 0, 46, 4, [.agg [nilS, nilS, nilS, nilS]]⟩ :: (I ++ R_)) →
   RC Tryz.prog (.loop bx4) S Q [(22, vi i), (21, vi (x0.Fields.length : Int)), (20, c1), (3, .op i3 w3 0), (2, .op i2 w2 0)] h
 | 0, i, zv, ze, I, h, hm, h0, h1, hn, nz, wz, M => by
  refine co ?_
  refine am (ay (ae (bq rfl rfl cw) (br (aq (am (cd rfl (fun hc => ?_) fun hc => ?_))))))
  ·simp only [decide_eq_true_eq] at hc; omega
  ·have e : i = x0.Fields.length := by omega
   subst e
   rw [Int.toNat_natCast, List.take_length] at hn
   exact fj (gg (dw (wP (K hn nz wz M) rfl)))
 | m + 1, i, zv, ze, I, h, hm, h0, h1, hn, nz, wz, M => by
  have hlt : i < (x0.Fields.length : Int) := by omega
  refine co ?_
  refine am (ay (ae (bq rfl rfl cw) (br (aq (am (cd rfl (fun hc => ?_) fun hc => ?_))))))
  ·refine az (aq (am (bm ?_)))
   obtain ⟨g0, e0, q0⟩ := dq (i := i) q1 h0 hlt
   refine am (ay (ae (bg rfl rfl e0) (ae (bv rfl (TR.cnt _ q0) (TR.agg _ q0)) (ae (av rfl) (br (aq (ae9 ?_)))))))
   refine rm_q (bz rfl) (rm_q (dj (k := 0) M rfl rfl (mk1 (ft (k := 1) M rfl nz).2)) (rm_q (av rfl) (rm_q (kt rfl (all_cons (TR.cnt _ q0) nn)) ?_)))
   obtain ⟨r1, k1, es, X1, N1, A1, L1, W1⟩ := jn_w q0 (pe hE.i h0 hlt)
   refine za X1 N1 L1 A1.clo W1 M rfl rfl (ai (by simp [closed, closedL, TR.clo _ q0]) bf) (fun g a0 ng wg M1 => ?_)
   refine rm_q (kt rfl (all_cons (nu (k := 0) M1 rfl ng) nn)) ?_
   have hzl := hn.len
   refine cr8 (k := 2) (es := ze) (news := [g]) M1 rfl rfl rfl nz wz (cc5 (.inr ⟨true, rfl⟩) (fun y hy => by rw [List.mem_singleton.1 hy]; exact nu (k := 0) M1 rfl ng)) (by have hl := hn.len.1; have hf := hE.f; simp only [List.length_take] at hl; exact pa (by simp only [List.length_cons, List.length_nil]; omega) (by simp only [List.length_cons, List.length_nil]; omega)) (fun z' a2 nz' wz' M2 => ?_)
   refine rm_q (bz rfl) ?_
   refine bp9 (k := 1) (v := z') M2 rfl rfl rfl (ft (k := 2) M2 rfl nz').1 rfl (by simp) (fun a1 M3 => ?_)
   refine cb4 (de (aq ?_))
   refine ay (ae (bq rfl rfl gv) (ae (av rfl) (br (di ?_))))
   have M4 := Mem.perm (L := ⟨g, 89, 1, es⟩ :: ([⟨.op i3 w3 0, 46, 4, [.agg [a, z', c, d]]⟩, ⟨z', 43, 1, ze ++ [g]⟩, ⟨d, 5, 1, e3⟩, ⟨c, 89, 1, e2⟩, ⟨a, 4, 1, e1⟩, ⟨.op i2 w2 0, 46, 4, [.agg [nilS, nilS, nilS, nilS]]⟩] ++ (I ++ R_))) M3 cc0
   have hinc : wr (i + 1) = i + 1 := ee (by omega) (by have := hE.f; omega)
   refine ov ?_ (cx7 q1 hE na nc nd K m (i := i + 1) (zv := z') (ze := ze ++ [g]) (I := I ++ [(⟨g, 89, 1, es⟩ : Ent)]) (by omega) (by omega) (by omega) ?_ nz' wz' M4)
   ·exact fe (by show some (vi (wr (i + 1))) = _; rw [hinc]) (sB rfl)
   ·have e : x0.Fields.take (i + 1).toNat = x0.Fields.take i.toNat ++ [ix x0.Fields i] := by
     rw [xc h0 hlt, show (i + 1).toNat = i.toNat + 1 by omega, List.take_succ_eq_append_getElem]
    rw [e]
    exact hn.app1 ⟨rfl, rfl, rfl, A1, ng, by have := pe hE.i h0 hlt; omega, wg⟩
  ·simp only [decide_eq_false_iff_not] at hc; omega
theorem ag1 {x0 : au} {v0 : PV} {R_ : List Ent} {h_ : Heap} (r0 : au.t.R x0 v0) (hE : EB x0) (M_ : Mem h_ R_) : ∃ r k, FnX Tryz.prog 116 [v0] h_ r k ∧ CQ x0 R_ r k := by
 refine fnX bd3 (by simp) ?_
 obtain ⟨c0, c1, c2, c3, rfl, q0, q1, q2, q3⟩ := r0
 refine am (ay ?_)
 refine ae (dm rfl rfl) ?_
 refine ej (x := .agg [nilS, nilS, nilS, nilS]) M_ rfl rfl (fun i2 w2 h2 M2 => ?_)
 refine br (aq ?_)
 refine am (ae9 ?_)
 refine rm_q (bw rfl (mk1 (TR.agg _ q0))) (rm_q (bv rfl (TR.cnt _ q0) (TR.agg _ q0)) (rm_q (kt rfl (all_cons (TR.cnt _ q0) nn)) ?_))
 obtain ⟨r1, k1, e1, X1, N1, A1, L1, W1⟩ := jn_b q0 hE.v
 refine za X1 N1 L1 A1.clo W1 M2 rfl rfl (ai (by simp [closed, closedL, TR.clo _ q0]) bf) (fun a h3 na wa M3 => ?_)
 refine rm_q (bw rfl (mk1 (TR.agg _ q2))) (rm_q (bv rfl (TR.cnt _ q2) (TR.agg _ q2)) (rm_q (kt rfl (all_cons (TR.cnt _ q2) nn)) ?_))
 obtain ⟨r2, k2, e2, X2, N2, A2, L2, W2⟩ := jn_w q2 hE.m
 refine za X2 N2 L2 A2.clo W2 M3 rfl rfl (ai (by simp [closed, closedL, TR.clo _ q2]) bf) (fun c h4 nc wc M4 => ?_)
 refine rm_q (bw rfl (mk1 (TR.agg _ q3))) (rm_q (bv rfl (TR.cnt _ q3) (TR.agg _ q3)) (rm_q (kt rfl (all_cons (TR.cnt _ q3) nn)) ?_))
 obtain ⟨r3, k3, e3, X3, N3, A3, L3, W3⟩ := jn_y q3 hE.p
 refine za X3 N3 L3 A3.clo W3 M4 rfl rfl (ai (by simp [closed, closedL, TR.clo _ q3]) bf) (fun d h5 nd wd M5 => ?_)
 refine rm_q (v := .agg [a, nilS, c, d]) (fk (cs := [a, nilS, c, d]) rfl (by simp only [buildV, (ft (k := 2) M5 rfl na).1, (ft (k := 1) M5 rfl nc).1, (ft (k := 0) M5 rfl nd).1]; rfl)) ?_
 refine bp1 (x := .agg [nilS, nilS, nilS, nilS]) M5 rfl rfl (fun i3 w3 h6 M6 => ?_)
 refine bq5 (k := 0) (v := .agg [a, nilS, c, d]) M6 rfl rfl rfl rfl (fun h7 M7 => ?_)
 replace M7 : Mem h7 (⟨.op i3 w3 0, 46, 4, [.agg [a, nilS, c, d]]⟩ :: ⟨d, 5, 1, e3⟩ :: ⟨c, 89, 1, e2⟩ :: ⟨a, 4, 1, e1⟩ :: ⟨.op i2 w2 0, 46, 4, [.agg [nilS, nilS, nilS, nilS]]⟩ :: R_) := M7
 refine cb4 ?_
 refine aq (am (am (ay ?_)))
 refine ae (bw rfl (mk1 (TR.agg _ q1))) (ae (bv rfl (TR.cnt _ q1) (TR.agg _ q1)) (ae (cv rfl (ci q1 Tryz.underlying42 _)) (ae (av rfl) ?_)))
 refine br (aq (bm ?_))
 have M8 := py (sz := 1) (es := []) M7 43 (.inl ⟨none, rfl, rfl⟩) (by simp)
 refine wC (cx7 (x0 := x0) q1 hE na nc nd ?_ x0.Fields.length (i := 0) (zv := nilS) (ze := []) (I := []) (h := h7) (by omega) (by omega) (by omega) trivial rfl (.inl rfl) (Mem.front (k := 1) M8 rfl)) rfl
 ·intro h zv ze I hn nz wz M
  refine gm (aq ?_)
  refine am (ay ?_)
  refine ae (ir (k := 0) M rfl rfl rfl) ?_
  refine ct (k := 5) (v := .agg [a, zv, c, d]) M rfl rfl rfl rfl (fun h' M' => ?_)
  refine br (aq ?_)
  refine iy (.cell rfl (dg (k := 5) M' rfl rfl) .nil) ⟨a, zv, c, d, _, _, _, _, I, rfl, ?_, A1, hn, A2, A3, na, nz, nc, nd, wa, wz, wc⟩
  exact Mem.front (k := 3) (Mem.front (k := 2) (Mem.front (k := 2) (Mem.front (k := 1) (Mem.sub M' (.cons _ (.cons_cons _ (.cons_cons _ (.cons_cons _ (.cons_cons _ (.cons _ (List.Sublist.refl _)))))))) rfl) rfl) rfl) rfl
theorem co6 {x0 : au} {v0 : PV} (r0 : au.t.R x0 v0) (hE : EB x0) : ∃ r, FnR Tryz.prog 116 [v0] r ∧ au.t.R (vx x0) r := by
 obtain ⟨r, k, X, a, b, c, d, eb, ef, em, ep, I, rfl, H⟩ := ag1 r0 hE (Mem.nil ⟨0, []⟩)
 obtain ⟨d', hd, hr⟩ := H.deep hE
 exact ⟨d', FnR.of_X X hd, hr⟩

def RF233 (res : cj) (r : PV) : Prop := cj.t.R res r
theorem cu8 {x0 : List cj} {x1 : Int} {v0 : PV} (r0 : (tSl cj.t).R x0 v0) : ∃ r, FnR Tryz.prog 233 [v0, vi x1] r ∧ cj.t.R (od x0 x1) r := by
 refine fnT (R := RF233) bd6 rfl fun res s => ?_
 unfold od at s
 refine sR ?_
 refine ej (x := .agg [vs [], nilS]) (Mem.nil ⟨0, []⟩) rfl rfl (fun a7 a6 b2 a5 => ?_)
 refine nR (ae (ak8 (x := .agg [vs [], nilS]) rfl rfl) (nS (am (sR (mV rfl (bN cw rfl rfl (mV rfl ?_)))))))
 refine cq 5 (d := 13) (v := vb ((decide (x1 < 0)) || (decide ((x0.length : Int) ≤ x1)))) ?_ ?_
 ·intro S Q r
  cases a8 : (decide (x1 < 0))
  ·intro k
   have a3 := a8
   try simp only [qa] at a3
   refine ah rfl rfl (av rfl) (ah rfl rfl (av rfl) (ah rfl rfl (cv rfl (ci r0 Tryz.underlying22 _)) (ah rfl rfl (bq rfl rfl mo) ?_)))
   exact gK rfl rfl rfl rfl rfl k
  ·exact gN 4 rfl rfl rfl rfl rfl rfl
 refine nS ?_
 refine cg s rfl ?_ ?_ <;> clear s <;> intro c s <;> try simp only [qa] at c
 ·refine sR (lR rfl rfl rfl ?_)
  refine ct (k := 0) (v := .agg [vs [], nilS]) a5 rfl rfl rfl rfl (fun b1 a1 => ?_)
  replace a1 : Mem b1 [⟨.op a7 a6 0, 92, 2, [.agg [vs [], nilS]]⟩] := a1
  refine nS ?_
  subst s
  exact fu (.cell rfl (dg (k := 0) a1 rfl rfl) .nil) (cp (TR.clo cj.t (show cj.t.R ({ Name := ([] : List UInt8), Fields := ([] : List ax) } : cj) (.agg [vs [], nilS]) from ⟨nilS, rfl, rm⟩))) (show cj.t.R ({ Name := ([] : List UInt8), Fields := ([] : List ax) } : cj) (.agg [vs [], nilS]) from ⟨nilS, rfl, rm⟩)
 ·refine az (aq (sR (mV rfl (mV rfl ?_))))
  obtain ⟨a4, a9, a0⟩ := dq (i := x1) r0 (by omega) (by omega)
  refine ae (bg rfl rfl a9) (lD a0 rfl rfl rfl ?_)
  refine ct (k := 0) (v := a4) a5 rfl rfl rfl (TR.cnt cj.t a0) (fun b0 a2 => ?_)
  replace a2 : Mem b0 [⟨.op a7 a6 0, 92, 2, [a4]⟩] := a2
  refine nS ?_
  subst s
  exact fu (.cell rfl (dg (k := 0) a2 rfl (TR.agg cj.t a0)) .nil) (cp (TR.clo cj.t a0)) a0

def RF203 (res : (List ax)) (r : PV) : Prop := (tSl ax.t).R res r
theorem cj3 {x0 : ab} {x1 : Int} {v0 : PV} (r0 : ab.t.R x0 v0) : ∃ r, FnR Tryz.prog 203 [v0, vi x1] r ∧ (tSl ax.t).R (uf x0 x1) r := by
 refine fnT (R := RF203) bj4 rfl fun res s => ?_
 unfold uf at s
 refine sR (ae (dm rfl (TR.cnt ab.t r0)) (ae (v := nilS) (av rfl) (nS (am (sR (mV rfl (bN (fi (b := -1)) rfl rfl (nS ?_))))))))
 refine cg s rfl ?_ ?_ <;> clear s <;> intro c s <;> try simp only [qa] at c
 ·refine sR (gL (ab.g_Metadata r0) rfl rfl rfl fun b0 a3 => (mV rfl (nS ?_)))
  exact rR s rfl (TR.clo (tSl ax.t) a3) a3
 ·refine az (aq (sR (gL (ab.g_Headers r0) rfl rfl rfl fun b1 a0 => (mV rfl ?_))))
  obtain ⟨a8, a1, s⟩ := bt s
  obtain ⟨a9, a5, a2⟩ := cu8 (x1 := x1) a0 
  rw [a1] at a2
  refine cL a5 rfl rfl (ai (TR.clo (tSl cj.t) a0) (ai rfl bf)) ?_
  obtain ⟨a7, a6, a4⟩ := cj.g_Fields a2
  refine ae (ag7 rfl a6) (mV rfl (nS ?_))
  exact rR s rfl (TR.clo (tSl ax.t) a4) a4

def RF202 (res : ax) (r : PV) : Prop := ax.t.R res r
theorem ce8 {x0 : List ax} {x1 : Int} {v0 : PV} (r0 : (tSl ax.t).R x0 v0) : ∃ r, FnR Tryz.prog 202 [v0, vi x1] r ∧ ax.t.R (ii x0 x1) r := by
 refine fnT (R := RF202) bh1 rfl fun res s => ?_
 unfold ii at s
 refine sR ?_
 refine ej (x := .agg [vs [], vi 0]) (Mem.nil ⟨0, []⟩) rfl rfl (fun a7 a6 b2 a5 => ?_)
 refine nR (ae (ak8 (x := .agg [vs [], vi 0]) rfl rfl) (nS (am (sR (mV rfl (bN cw rfl rfl (mV rfl ?_)))))))
 refine cq 5 (d := 13) (v := vb ((decide (x1 < 0)) || (decide ((x0.length : Int) ≤ x1)))) ?_ ?_
 ·intro S Q r
  cases a8 : (decide (x1 < 0))
  ·intro k
   have a3 := a8
   try simp only [qa] at a3
   refine ah rfl rfl (av rfl) (ah rfl rfl (av rfl) (ah rfl rfl (cv rfl (ci r0 Tryz.underlying23 _)) (ah rfl rfl (bq rfl rfl mo) ?_)))
   exact gK rfl rfl rfl rfl rfl k
  ·exact gN 4 rfl rfl rfl rfl rfl rfl
 refine nS ?_
 refine cg s rfl ?_ ?_ <;> clear s <;> intro c s <;> try simp only [qa] at c
 ·refine sR (lR rfl rfl rfl ?_)
  refine ct (k := 0) (v := .agg [vs [], vi 0]) a5 rfl rfl rfl rfl (fun b1 a1 => ?_)
  replace a1 : Mem b1 [⟨.op a7 a6 0, 166, 2, [.agg [vs [], vi 0]]⟩] := a1
  refine nS ?_
  subst s
  exact fu (.cell rfl (dg (k := 0) a1 rfl rfl) .nil) (cp (TR.clo ax.t (show ax.t.R ({ Name := ([] : List UInt8), Width := 0 } : ax) (.agg [vs [], vi 0]) from rfl))) (show ax.t.R ({ Name := ([] : List UInt8), Width := 0 } : ax) (.agg [vs [], vi 0]) from rfl)
 ·refine az (aq (sR (mV rfl (mV rfl ?_))))
  obtain ⟨a4, a9, a0⟩ := dq (i := x1) r0 (by omega) (by omega)
  refine ae (bg rfl rfl a9) (lD a0 rfl rfl rfl ?_)
  refine ct (k := 0) (v := a4) a5 rfl rfl rfl (TR.cnt ax.t a0) (fun b0 a2 => ?_)
  replace a2 : Mem b0 [⟨.op a7 a6 0, 166, 2, [a4]⟩] := a2
  refine nS ?_
  subst s
  exact fu (.cell rfl (dg (k := 0) a2 rfl (TR.agg ax.t a0)) .nil) (cp (TR.clo ax.t a0)) a0

def RF181 (res : Bool) (r : PV) : Prop := r = vb res
theorem xj {S : List Fr} {res : Bool} {x0 : List Int} {v0 : PV} (r0 : (tSl tI).R x0 v0) {K0 : Unit → Bool}
  (a5 : K0 () = res → PX Tryz.prog 0 S (QR Tryz.prog [(2, none)] (RF181 res)) [] ⟨0, []⟩) :
  ∀ {m : Nat} {a0 : Int} (a4 : m = Int.toNat ((x0.length : Int) - a0)) (a2 : 0 ≤ a0), gh x0 K0 m a0 = res → RC Tryz.prog (.loop by7) S (QR Tryz.prog [(2, none)] (RF181 res)) [(7, vi a0), (6, vi (x0.length : Int)), (5, v0)] ⟨0, []⟩ := by
 intro m
 induction m with
 | zero =>
  intro a0 a4 a2 s
  rw [gh] at s
  refine co (sR (bN cw rfl rfl (nS (am ?_))))
  refine cd rfl ?_ ?_ <;> intro c <;> try simp only [qa] at c
  ·omega
  refine fj (gg (dw ?_))
  exact wP (a5  s) rfl
 | succ m ih =>
  intro a0 a4 a2 s
  rw [gh] at s
  refine co (sR (bN cw rfl rfl (nS (am ?_))))
  refine cd rfl ?_ ?_ <;> intro c <;> try simp only [qa] at c
  rotate_left
  ·omega
  refine az (aq (am (bm (sR (ae (bg rfl rfl (slI r0 (by omega) (by omega))) (lR rfl rfl rfl (mV rfl (nR ?_))))))))
  refine mV rfl (bN cw rfl rfl (mV rfl ?_))
  refine cq 3 (d := 16) (v := vb ((decide ((ix x0 a0) < 1)) || (decide (32 < (ix x0 a0))))) ?_ ?_
  ·intro S Q r
   cases a3 : (decide ((ix x0 a0) < 1))
   ·intro k
    have a1 := a3
    try simp only [qa] at a1
    refine ah rfl rfl (av rfl) (ah rfl rfl (bq rfl rfl nj) ?_)
    exact gK rfl rfl rfl rfl rfl k
   ·exact gN 2 rfl rfl rfl rfl rfl rfl
  refine nS ?_
  refine cg s rfl ?_ ?_ <;> clear s <;> intro c s <;> try simp only [qa] at c
  ·refine sR (mB rfl (nS ?_))
   exact rR s rfl rfl rfl
  ·refine az (de (aq (ay (bN gv rfl rfl (mV rfl (br (di ?_)))))))
   have hbd := en r0
   have hinc : wr (a0 + 1) = a0 + 1 := ee (by omega) (by omega)
   erw [hinc]
   exact wC (ih   (by omega) (by omega) s) rfl

theorem ad7 {x0 : List Int} {v0 : PV} (r0 : (tSl tI).R x0 v0) : FnR Tryz.prog 181 [v0] (vb (iw x0)) := by
 refine fnS (R := RF181) bl1 (fun _ h => h) rfl fun res s => ?_
 unfold iw at s
 refine sR (mB rfl (nS (am (sR (mV rfl (ae (cv rfl (ci r0 Tryz.underlying29 _)) (mI rfl (nS ?_))))))))
 refine bm ?_
 refine wC (xj r0 ?_  rfl (by omega) s) rfl
 ·intro  s
  refine gm (aq (sR (mB rfl (nS ?_))))
  exact rR s rfl rfl rfl

end Go.Proofs.YtmonnlkagniolaaGreat
