/-
 The code of each function does what its plain program says.
-/
import Derived.Test.YthdnpgpnodgicaaGreatL5W1
set_option linter.unusedVariables false
set_option linter.unusedSimpArgs false
set_option maxRecDepth 100000
namespace Go.Proofs.YthdnpgpnodgicaaGreat
open Go Go.Pb Go.RowKit
def RF37 (res : Bool) (r : PV) : Prop := r = vb res
theorem db2 {x0 : aa} {x1 : Int} {x2 : aj} {x3 : aj} {v0 v2 v3 : PV} (r0 : aa.t.R x0 v0) (r2 : aj.t.R x2 v2) (r3 : aj.t.R x3 v3) : FnR Tryz.prog 37 [v0, vi x1, v2, v3] (vb (kb x0 x1 x2 x3)) := by
 refine fnS (R := RF37) di4 (fun _ h => h) rfl fun res hres => ?_
 unfold kb at hres
 refine sR (ab (dh rfl (TR.cnt aa.t r0)) (ab (dh rfl (TR.cnt aj.t r2)) (ab (dh rfl (TR.cnt aj.t r3)) (mB rfl (nR (lD r0 rfl rfl rfl (mV rfl (gL (aj.g_Entry r2) rfl rfl rfl fun b5 a1 => ?_))))))))
 obtain ⟨b4, a4, hres⟩ := dc hres
 have a5 := cc9 (x1 := x1) r0 a1 
 rw [a4] at a5
 refine cL a5 rfl rfl (aq (TR.clo aa.t r0) (aq rfl (aq (TR.clo au.t a1) bm))) (lD r0 rfl rfl rfl (mV rfl (gL (aj.g_Entry r3) rfl rfl rfl fun c1 a0 => ?_)))
 obtain ⟨b8, a2, hres⟩ := dc hres
 have a3 := cc9 (x1 := x1) r0 a0 
 rw [a2] at a3
 refine cL a3 rfl rfl (aq (TR.clo aa.t r0) (aq rfl (aq (TR.clo au.t a0) bm))) (mV rfl (mV rfl (nS (ae (bf (sR ?_))))))
 obtain ⟨b6, b3, a9⟩ := aj.g_Entry r2
 refine fA rfl b3 (fL rfl (au.g_Priority a9) rfl rfl ?_)
 obtain ⟨b7, a7, b0⟩ := aj.g_Entry r3
 refine fA rfl a7 (fL rfl (au.g_Priority b0) rfl rfl (bN jk rfl rfl (mV rfl (nS ?_))))
 refine cq hres rfl ?_ ?_ <;> clear hres <;> intro c hres <;> try simp only [qa] at c
 ·refine sR ?_
  obtain ⟨c0, b1, b2⟩ := aj.g_Entry r2
  refine fA rfl b1 (fL rfl (au.g_Priority b2) rfl rfl ?_)
  obtain ⟨b9, a6, a8⟩ := aj.g_Entry r3
  refine fA rfl a6 (fL rfl (au.g_Priority a8) rfl rfl (bN gi rfl rfl (mV rfl (nS ?_))))
  exact rR hres rfl rfl rfl
 ·refine sR (mV rfl (mV rfl (bN jk rfl rfl (mV rfl (nS ?_)))))
  refine cq hres rfl ?_ ?_ <;> clear hres <;> intro c hres <;> try simp only [qa] at c
  ·refine sR (mV rfl (mV rfl (bN gi rfl rfl (mV rfl (nS ?_)))))
   exact rR hres rfl rfl rfl
  ·refine az (dg (af (sR (fL rfl (aj.g_ID r2) rfl rfl (fL rfl (aj.g_ID r3) rfl rfl (bN co rfl rfl (mV rfl (nS ?_))))))))
   exact rR hres rfl rfl rfl

def RF13 (res : aj × Bool) (r : PV) : Prop := ∃ c0, r = .tup [c0, vb res.2] ∧ aj.t.R res.1 c0
theorem zf {S : List Fr} {res : aj × Bool} {x0 : aa} {x1 : Int} {x2 : List aj} {x3 : List (BitVec 32)} {v0 v2 v3 : PV} {a8 a7 a5 a6 : Nat} (r0 : aa.t.R x0 v0) (r2 : (tSl aj.t).R x2 v2) (r3 : (tSl ko).R x3 v3) {K0 : Bool → aj → (aj × Bool)}
  (e1 : ∀ {a4 : Bool} {a1 : aj} {a3 : PV} (a2 : aj.t.R a1 a3) {h : Heap} (M0 : Mem h [⟨.op a5 a6 0, 44, 5, [a3]⟩, ⟨.op a8 a7 0, 44, 5, [.agg [vi 0, nilS, vi 0, vi 0, nilS]]⟩]), K0 a4 a1 = res → PX Tryz.prog 0 S (QR Tryz.prog [(8, some (5, true)), (9, none)] (RF13 res)) [(8, .op a8 a7 0), (10, .op a5 a6 0), (11, vb a4)] h) :
  ∀ {m : Nat} {a4 : Bool} {a0 : Int} {a1 : aj} {a3 : PV} (a2 : aj.t.R a1 a3) (e2 : m = Int.toNat ((x2.length : Int) - a0)) (c1 : 0 ≤ a0) {h : Heap} (M0 : Mem h [⟨.op a5 a6 0, 44, 5, [a3]⟩, ⟨.op a8 a7 0, 44, 5, [.agg [vi 0, nilS, vi 0, vi 0, nilS]]⟩]), jv x0 x1 x2 x3 K0 m a4 a0 a1 = res → RC Tryz.prog (.loop cj7) S (QR Tryz.prog [(8, some (5, true)), (9, none)] (RF13 res)) [(12, vi a0), (11, vb a4), (10, .op a5 a6 0), (8, .op a8 a7 0), (4, .fp v0), (3, v3), (2, v2), (1, vi x1)] h := by
 intro m
 induction m with
 | zero =>
  intro a4 a0 a1 a3 a2 e2 c1 h M0 hres
  rw [jv] at hres
  refine bq (ae (sR (mV rfl (mV rfl (ab (cd rfl (br r2 Tryz.underlying32 _)) (bN co rfl rfl (mV rfl ?_)))))))
  refine bv 3 (d := 21) (v := vb ((decide (a0 < (x2.length : Int))) && (decide (0 ≤ x1)))) ?_ ?_
  ·intro S Q r
   cases d1 : (decide (a0 < (x2.length : Int)))
   ·exact gN 2 rfl rfl rfl rfl rfl rfl
   ·intro k
    have b7 := d1
    try simp only [qa] at b7
    refine ai rfl rfl (am rfl) (ai rfl rfl (bd rfl rfl oa) ?_)
    exact gK rfl rfl rfl rfl rfl k
  refine mV rfl ?_
  refine bv 6 (d := 28) (v := vb (((decide (a0 < (x2.length : Int))) && (decide (0 ≤ x1))) && (decide (x1 < (x0.Tables.length : Int))))) ?_ ?_
  ·intro S Q r
   cases c0 : ((decide (a0 < (x2.length : Int))) && (decide (0 ≤ x1)))
   ·exact gN 5 rfl rfl rfl rfl rfl rfl
   ·intro k
    have b6 := c0
    try simp only [qa] at b6
    refine ai rfl rfl (am rfl) ?_
    obtain ⟨e6, d3, b2⟩ := aa.g_Tables r0
    refine ai rfl rfl (bc rfl d3) (ai rfl rfl (ba rfl (TR.cnt (tSl ax.t) b2) (TR.agg (tSl ax.t) b2)) (ai rfl rfl (cd rfl (br b2 Tryz.underlying26 _)) (ai rfl rfl (bd rfl rfl co) ?_)))
    exact gK rfl rfl rfl rfl rfl k
  refine nS ?_
  refine bg rfl ?_ ?_ <;> intro c <;> try simp only [qa] at c
  ·omega
  refine dm (dx (cy ?_))
  exact wP (e1 a2 (Mem.sub M0 (.cons_cons _ (.cons_cons _ .slnil))) hres) rfl
 | succ m ih =>
  intro a4 a0 a1 a3 a2 e2 c1 h M0 hres
  rw [jv] at hres
  refine bq (ae (sR (mV rfl (mV rfl (ab (cd rfl (br r2 Tryz.underlying32 _)) (bN co rfl rfl (mV rfl ?_)))))))
  refine bv 3 (d := 21) (v := vb ((decide (a0 < (x2.length : Int))) && (decide (0 ≤ x1)))) ?_ ?_
  ·intro S Q r
   cases d0 : (decide (a0 < (x2.length : Int)))
   ·exact gN 2 rfl rfl rfl rfl rfl rfl
   ·intro k
    have b8 := d0
    try simp only [qa] at b8
    refine ai rfl rfl (am rfl) (ai rfl rfl (bd rfl rfl oa) ?_)
    exact gK rfl rfl rfl rfl rfl k
  refine mV rfl ?_
  refine bv 6 (d := 28) (v := vb (((decide (a0 < (x2.length : Int))) && (decide (0 ≤ x1))) && (decide (x1 < (x0.Tables.length : Int))))) ?_ ?_
  ·intro S Q r
   cases c7 : ((decide (a0 < (x2.length : Int))) && (decide (0 ≤ x1)))
   ·exact gN 5 rfl rfl rfl rfl rfl rfl
   ·intro k
    have b9 := c7
    try simp only [qa] at b9
    refine ai rfl rfl (am rfl) ?_
    obtain ⟨e5, d8, b0⟩ := aa.g_Tables r0
    refine ai rfl rfl (bc rfl d8) (ai rfl rfl (ba rfl (TR.cnt (tSl ax.t) b0) (TR.agg (tSl ax.t) b0)) (ai rfl rfl (cd rfl (br b0 Tryz.underlying26 _)) (ai rfl rfl (bd rfl rfl co) ?_)))
    exact gK rfl rfl rfl rfl rfl k
  refine nS ?_
  refine cq hres rfl ?_ ?_ <;> clear hres <;> intro c hres <;> try simp only [qa] at c
  ·refine az (af (ae (bf (sR (mV rfl (mV rfl ?_))))))
   obtain ⟨e4, d4, d5⟩ := cx (i := a0) r2 (by first | omega | (have hk := bb (by assumption) (by assumption); omega) | (have hk := tck (by assumption) (by assumption); omega) | (have hk := rtck (by assumption) (by assumption); omega) | (have hk := eck (by assumption) (by assumption) (by assumption); omega) | (have hk := tv (by assumption) (by assumption); omega) | (have hk := rtv (by assumption) (by assumption); omega)) (by first | omega | (have hk := bb (by assumption) (by assumption); omega) | (have hk := tck (by assumption) (by assumption); omega) | (have hk := rtck (by assumption) (by assumption); omega) | (have hk := eck (by assumption) (by assumption) (by assumption); omega) | (have hk := tv (by assumption) (by assumption); omega) | (have hk := rtv (by assumption) (by assumption); omega))
   refine ab (bn rfl rfl d4) (gL (aj.g_Entry d5) rfl rfl rfl fun e3 c9 => (mV rfl ?_))
   obtain ⟨c4, c8, hres⟩ := dc hres
   have d2 := df7  c9 r3 
   rw [c8] at d2
   refine cL d2 rfl rfl (aq (TR.clo au.t c9) (aq (TR.clo (tSl ko) r3) bm)) (mV rfl ?_)
   refine bv 13 (d := 51) (v := vb (c4 && ((!a4) || (kb x0 x1 (ix x2 a0) a1)))) ?_ ?_
   ·intro S Q r
    cases c6 : c4
    ·exact gN 12 rfl rfl rfl rfl rfl rfl
    ·intro k
     have b1 := c6
     try simp only [qa] at b1
     refine ai rfl rfl (am rfl) (ai rfl rfl (gc rfl) (ai rfl rfl (am rfl) ?_))
     refine bv 9 (d := 50) (v := vb ((!a4) || (kb x0 x1 (ix x2 a0) a1))) ?_ ?_
     ·intro S Q r
      cases c3 : (!a4)
      ·intro k
       have b5 := c3
       try simp only [qa] at b5
       refine ai rfl rfl (ba rfl (TR.cnt aa.t r0) (TR.agg aa.t r0)) (ai rfl rfl (am rfl) (ai rfl rfl (am rfl) (ai rfl rfl (am rfl) ?_)))
       obtain ⟨e7, d6, a9⟩ := cx (i := a0) r2 (by first | omega | (have hk := bb (by assumption) (by assumption); omega) | (have hk := tck (by assumption) (by assumption); omega) | (have hk := rtck (by assumption) (by assumption); omega) | (have hk := eck (by assumption) (by assumption) (by assumption); omega) | (have hk := tv (by assumption) (by assumption); omega) | (have hk := rtv (by assumption) (by assumption); omega)) (by first | omega | (have hk := bb (by assumption) (by assumption); omega) | (have hk := tck (by assumption) (by assumption); omega) | (have hk := rtck (by assumption) (by assumption); omega) | (have hk := eck (by assumption) (by assumption) (by assumption); omega) | (have hk := tv (by assumption) (by assumption); omega) | (have hk := rtv (by assumption) (by assumption); omega))
       refine ai rfl rfl (bn rfl rfl d6) (ai rfl rfl (ba rfl (TR.cnt aj.t a9) (TR.agg aj.t a9)) (ai rfl rfl (gq (k := 0) M0 rfl rfl (TR.agg aj.t a2)) ?_))
       have d9 := db2 (x1 := x1) r0 a9 a2 
       refine fu rfl rfl (mb rfl rfl (aq (TR.clo aa.t r0) (aq rfl (aq (TR.clo aj.t a9) (aq (TR.clo aj.t a2) bm)))) d9) (ai (v := vb (kb x0 x1 (ix x2 a0) a1)) rfl rfl (lz rfl rfl rfl rfl) ?_)
       exact wD k rfl
      ·intro k
       refine mn rfl rfl (mn rfl rfl (mn rfl rfl (mn rfl rfl (mn rfl rfl (mn rfl rfl (mn rfl rfl (mn rfl rfl (ai (v := vb true) rfl rfl (lz rfl rfl rfl rfl) ?_))))))))
       exact wD k rfl
     exact gK rfl rfl rfl rfl rfl k
   refine nS ?_
   refine cq hres rfl ?_ ?_ <;> clear hres <;> intro c hres <;> try simp only [qa] at c
   ·refine sR (mV rfl (mV rfl ?_))
    obtain ⟨c5, e0, b4⟩ := cx (i := a0) r2 (by first | omega | (have hk := bb (by assumption) (by assumption); omega) | (have hk := tck (by assumption) (by assumption); omega) | (have hk := rtck (by assumption) (by assumption); omega) | (have hk := eck (by assumption) (by assumption) (by assumption); omega) | (have hk := tv (by assumption) (by assumption); omega) | (have hk := rtv (by assumption) (by assumption); omega)) (by first | omega | (have hk := bb (by assumption) (by assumption); omega) | (have hk := tck (by assumption) (by assumption); omega) | (have hk := rtck (by assumption) (by assumption); omega) | (have hk := eck (by assumption) (by assumption) (by assumption); omega) | (have hk := tv (by assumption) (by assumption); omega) | (have hk := rtv (by assumption) (by assumption); omega))
    refine ab (bn rfl rfl e0) (lD b4 rfl rfl rfl ?_)
    refine de (k := 0) (v := c5) M0 rfl rfl rfl (TR.cnt aj.t b4) (fun d7 b3 => ?_)
    replace b3 : Mem d7 [⟨.op a5 a6 0, 44, 5, [c5]⟩, ⟨.op a8 a7 0, 44, 5, [.agg [vi 0, nilS, vi 0, vi 0, nilS]]⟩] := b3
    refine nS (ah (mB rfl (aw (dg (af (ah (mV rfl (bN eg rfl rfl ?_))))))))
    refine mV rfl (aw (ct ?_))
    have hbd := du r2
    have hinc : wr (a0 + 1) = a0 + 1 := dw (by omega) (by omega)
    erw [hinc]
    exact wC (ih  b4 (by omega) (by omega) (Mem.sub b3 (.cons_cons _ (.cons_cons _ .slnil))) hres) rfl
   ·refine az (dg (af (ah (mV rfl (bN eg rfl rfl (mV rfl (aw (ct ?_))))))))
    have hbd := du r2
    have hinc : wr (a0 + 1) = a0 + 1 := dw (by omega) (by omega)
    erw [hinc]
    exact wC (ih  a2 (by omega) (by omega) (Mem.sub M0 (.cons_cons _ (.cons_cons _ .slnil))) hres) rfl
  ·refine dm (dx (cy ?_))
   exact wP (e1 a2 (Mem.sub M0 (.cons_cons _ (.cons_cons _ .slnil))) hres) rfl

theorem eg7 {x0 : aa} {x1 : Int} {x2 : List aj} {x3 : List (BitVec 32)} {v0 v2 v3 : PV} (r0 : aa.t.R x0 v0) (r2 : (tSl aj.t).R x2 v2) (r3 : (tSl ko).R x3 v3) : ∃ c0, FnR Tryz.prog 13 [v0, vi x1, v2, v3] (.tup [c0, vb ((iv x0 x1 x2 x3).2)]) ∧ aj.t.R (iv x0 x1 x2 x3).1 c0 := by
 obtain ⟨res, hres⟩ : ∃ res, iv x0 x1 x2 x3 = res := ⟨_, rfl⟩
 suffices H : RC Tryz.prog de2 [] (QR Tryz.prog [(8, some (5, true)), (9, none)] (RF13 res)) (argE 0 [v0, vi x1, v2, v3]) ⟨0, []⟩ by
  rw [hres]
  obtain ⟨r, h1, c0, rfl, b9⟩ := fnE dc8 (by simp) H
  exact ⟨c0, h1, b9⟩
 unfold iv at hres
 refine sR (ab (dh rfl (TR.cnt aa.t r0)) ?_)
 refine dt (x := .agg [vi 0, nilS, vi 0, vi 0, nilS]) (Mem.nil ⟨0, []⟩) rfl rfl (fun a9 a7 b5 b4 => ?_)
 refine mB rfl (nR (ab (v := .agg [vi 0, nilS, vi 0, vi 0, nilS]) (nm (cs := [vi 0, nilS, vi 0, vi 0, nilS]) rfl rfl) ?_))
 refine dt (x := .agg [vi 0, nilS, vi 0, vi 0, nilS]) b4 rfl rfl (fun a5 a6 b7 b2 => ?_)
 refine de (k := 0) (v := .agg [vi 0, nilS, vi 0, vi 0, nilS]) b2 rfl rfl rfl rfl (fun b1 a2 => ?_)
 replace a2 : Mem b1 [⟨.op a5 a6 0, 44, 5, [.agg [vi 0, nilS, vi 0, vi 0, nilS]]⟩, ⟨.op a9 a7 0, 44, 5, [.agg [vi 0, nilS, vi 0, vi 0, nilS]]⟩] := a2
 refine nR (mB rfl (nS (ae (sR (mI rfl (nS (bf ?_)))))))
 have b8 : aj.t.R ({ ID := 0, Entry := ({ Keys := ([] : List ay), Priority := 0, Call := ({ Action := 0, Args := ([] : List (BitVec 32)) } : av) } : au) } : aj) (.agg [vi 0, nilS, vi 0, vi 0, nilS]) := ⟨nilS, nilS, rfl, ib, ib⟩
 refine wC (zf r0 r2 r3 ?_  (show aj.t.R ({ ID := 0, Entry := ({ Keys := ([] : List ay), Priority := 0, Call := ({ Action := 0, Args := ([] : List (BitVec 32)) } : av) } : au) } : aj) (.agg [vi 0, nilS, vi 0, vi 0, nilS]) from ⟨nilS, nilS, rfl, ib, ib⟩) rfl (by omega) (Mem.sub a2 (.cons_cons _ (.cons_cons _ .slnil))) hres) rfl
 ·intro b0 a4 a1 a0 b6 a8 hres
  refine fd (af (sR (ab (gq (k := 0) a8 rfl rfl (TR.agg aj.t a0)) (mV rfl ?_))))
  refine de (k := 1) (v := a1) a8 rfl rfl rfl (TR.cnt aj.t a0) (fun b3 a3 => ?_)
  replace a3 : Mem b3 [⟨.op a5 a6 0, 44, 5, [a1]⟩, ⟨.op a9 a7 0, 44, 5, [a1]⟩] := a3
  refine mV rfl (nS ?_)
  subst hres
  exact fg (.cell rfl (gh (k := 1) a3 rfl (TR.agg aj.t a0)) (.tmp rfl .nil)) (cm (show closed (.tup _) = true from (aq (TR.clo aj.t a0) (aq rfl bm)))) ⟨a1, rfl, a0⟩

def RF49 (res : Bool) (r : PV) : Prop := r = vb res
theorem wd {S : List Fr} {res : Bool} {x0 : au} {x1 : au} {v0 v1 : PV} (r0 : au.t.R x0 v0) (r1 : au.t.R x1 v1) (a6 : ((!decide ((x0.Keys.length : Int) = (x1.Keys.length : Int))) || (!decide (x0.Priority = x1.Priority))) = false) {K0 : Unit → Bool}
  (b7 : K0 () = res → PX Tryz.prog 0 S (QR Tryz.prog [(4, none)] (RF49 res)) [] ⟨0, []⟩) :
  ∀ {m : Nat} {a0 : Int} (b5 : m = Int.toNat ((x0.Keys.length : Int) - a0)) (a4 : 0 ≤ a0), ga x0 x1 K0 m a0 = res → RC Tryz.prog (.loop cg8) S (QR Tryz.prog [(4, none)] (RF49 res)) [(5, vi a0), (3, .fp v1), (2, .fp v0)] ⟨0, []⟩ := by
 have a1 := a6
 try simp only [qa] at a1
 intro m
 induction m with
 | zero =>
  intro a0 b5 a4 hres
  rw [ga] at hres
  refine bq (ae (sR (mV rfl ?_)))
  obtain ⟨b9, b3, a5⟩ := au.g_Keys r0
  refine fA rfl b3 (lD a5 rfl rfl rfl (ab (cd rfl (br a5 Tryz.underlying38 _)) (bN co rfl rfl (nS ?_))))
  refine bg rfl ?_ ?_ <;> intro c <;> try simp only [qa] at c
  ·omega
  refine dm (dx (cy ?_))
  exact wP (b7  hres) rfl
 | succ m ih =>
  intro a0 b5 a4 hres
  rw [ga] at hres
  refine bq (ae (sR (mV rfl ?_)))
  obtain ⟨c3, b1, a2⟩ := au.g_Keys r0
  refine fA rfl b1 (lD a2 rfl rfl rfl (ab (cd rfl (br a2 Tryz.underlying38 _)) (bN co rfl rfl (nS ?_))))
  refine bg rfl ?_ ?_ <;> intro c <;> try simp only [qa] at c
  rotate_left
  ·omega
  refine az (af (ae (bf (sR ?_))))
  obtain ⟨c1, a9, a3⟩ := au.g_Keys r0
  refine fA rfl a9 (lD a3 rfl rfl rfl (mV rfl ?_))
  obtain ⟨c0, b2, a8⟩ := cx (i := a0) a3 (by first | omega | (have hk := bb (by assumption) (by assumption); omega) | (have hk := tck (by assumption) (by assumption); omega) | (have hk := rtck (by assumption) (by assumption); omega) | (have hk := eck (by assumption) (by assumption) (by assumption); omega) | (have hk := tv (by assumption) (by assumption); omega) | (have hk := rtv (by assumption) (by assumption); omega)) (by first | omega | (have hk := bb (by assumption) (by assumption); omega) | (have hk := tck (by assumption) (by assumption); omega) | (have hk := rtck (by assumption) (by assumption); omega) | (have hk := eck (by assumption) (by assumption) (by assumption); omega) | (have hk := tv (by assumption) (by assumption); omega) | (have hk := rtv (by assumption) (by assumption); omega))
  refine ab (bn rfl rfl b2) (lD a8 rfl rfl rfl (gL (au.g_Keys r1) rfl rfl rfl fun b6 b4 => (mV rfl ?_)))
  obtain ⟨b8, b0, a7⟩ := cx (i := a0) b4 (by first | omega | (have hk := bb (by assumption) (by assumption); omega) | (have hk := tck (by assumption) (by assumption); omega) | (have hk := rtck (by assumption) (by assumption); omega) | (have hk := eck (by assumption) (by assumption) (by assumption); omega) | (have hk := tv (by assumption) (by assumption); omega) | (have hk := rtv (by assumption) (by assumption); omega)) (by first | omega | (have hk := bb (by assumption) (by assumption); omega) | (have hk := tck (by assumption) (by assumption); omega) | (have hk := rtck (by assumption) (by assumption); omega) | (have hk := eck (by assumption) (by assumption) (by assumption); omega) | (have hk := tv (by assumption) (by assumption); omega) | (have hk := rtv (by assumption) (by assumption); omega))
  refine ab (bn rfl rfl b0) (lD a7 rfl rfl rfl (bN (ay.neq_127 a8 a7) rfl rfl (nS ?_)))
  refine cq hres rfl ?_ ?_ <;> clear hres <;> intro c hres <;> try simp only [qa] at c
  ·refine sR (mB rfl (nS ?_))
   exact rR hres rfl rfl rfl
  ·refine az (dg (af (ah (mV rfl (bN eg rfl rfl (mV rfl (aw (ct ?_))))))))
   have hbd := du a2
   have hinc : wr (a0 + 1) = a0 + 1 := dw (by omega) (by omega)
   erw [hinc]
   exact wC (ih   (by omega) (by omega) hres) rfl

theorem bt3 {x0 : au} {x1 : au} {v0 v1 : PV} (r0 : au.t.R x0 v0) (r1 : au.t.R x1 v1) : FnR Tryz.prog 49 [v0, v1] (vb (gb x0 x1)) := by
 refine fnS (R := RF49) dk8 (fun _ h => h) rfl fun res hres => ?_
 unfold gb at hres
 refine sR (ab (dh rfl (TR.cnt au.t r0)) (ab (dh rfl (TR.cnt au.t r1)) (mB rfl (nS (ae (sR (gL (au.g_Keys r0) rfl rfl rfl fun a7 a5 => (ab (cd rfl (br a5 Tryz.underlying38 _)) ?_))))))))
 obtain ⟨a8, a6, a3⟩ := au.g_Keys r1
 refine fA rfl a6 (lD a3 rfl rfl rfl (ab (cd rfl (br a3 Tryz.underlying38 _)) (bN jk rfl rfl (mV rfl ?_))))
 refine bv 6 (d := 19) (v := vb ((!decide ((x0.Keys.length : Int) = (x1.Keys.length : Int))) || (!decide (x0.Priority = x1.Priority)))) ?_ ?_
 ·intro S Q r
  cases a4 : (!decide ((x0.Keys.length : Int) = (x1.Keys.length : Int)))
  ·intro k
   have a2 := a4
   try simp only [qa] at a2
   refine ai rfl rfl (bc rfl (au.g_Priority r0)) (ai rfl rfl (ba rfl rfl rfl) (ai rfl rfl (bc rfl (au.g_Priority r1)) (ai rfl rfl (ba rfl rfl rfl) (ai rfl rfl (bd rfl rfl jk) ?_))))
   exact gK rfl rfl rfl rfl rfl k
  ·exact gN 5 rfl rfl rfl rfl rfl rfl
 refine nS ?_
 refine cq hres rfl ?_ ?_ <;> clear hres <;> intro a0 hres <;> have a1 := a0 <;> try simp only [qa] at a1
 ·refine sR (mB rfl (nS ?_))
  exact rR hres rfl rfl rfl
 ·refine az (af (ae (sR (mI rfl (nS (bf ?_))))))
  refine wC (wd r0 r1 a0 ?_  rfl (by omega) hres) rfl
  ·intro  hres
   refine fd (af (sR (mB rfl (nS ?_))))
   exact rR hres rfl rfl rfl

def RF72 (res : Bool) (r : PV) : Prop := r = vb res
theorem td {S : List Fr} {res : Bool} {x0 : av} {x1 : av} {v0 v1 : PV} (r0 : av.t.R x0 v0) (r1 : av.t.R x1 v1) (a3 : ((!decide (x0.Action = x1.Action)) || (!decide ((x0.Args.length : Int) = (x1.Args.length : Int)))) = false) {K0 : Unit → Bool}
  (a9 : K0 () = res → PX Tryz.prog 0 S (QR Tryz.prog [(4, none)] (RF72 res)) [] ⟨0, []⟩) :
  ∀ {m : Nat} {a0 : Int} (a8 : m = Int.toNat ((x0.Args.length : Int) - a0)) (a2 : 0 ≤ a0), im x0 x1 K0 m a0 = res → RC Tryz.prog (.loop cj9) S (QR Tryz.prog [(4, none)] (RF72 res)) [(5, vi a0), (3, .fp v1), (2, .fp v0)] ⟨0, []⟩ := by
 have a1 := a3
 try simp only [qa] at a1
 intro m
 induction m with
 | zero =>
  intro a0 a8 a2 hres
  rw [im] at hres
  refine bq (ae (sR (mV rfl (gL (av.g_Args r0) rfl rfl rfl fun b0 a6 => (ab (cd rfl (br a6 Tryz.underlying33 _)) (bN co rfl rfl (nS ?_)))))))
  refine bg rfl ?_ ?_ <;> intro c <;> try simp only [qa] at c
  ·omega
  refine dm (dx (cy ?_))
  exact wP (a9  hres) rfl
 | succ m ih =>
  intro a0 a8 a2 hres
  rw [im] at hres
  refine bq (ae (sR (mV rfl (gL (av.g_Args r0) rfl rfl rfl fun b3 a4 => (ab (cd rfl (br a4 Tryz.underlying33 _)) (bN co rfl rfl (nS ?_)))))))
  refine bg rfl ?_ ?_ <;> intro c <;> try simp only [qa] at c
  rotate_left
  ·omega
  refine az (af (ae (bf (sR (gL (av.g_Args r0) rfl rfl rfl fun b2 a5 => (mV rfl (ab (bn rfl rfl (zw a5 (by first | omega | (have hk := bb (by assumption) (by assumption); omega) | (have hk := tck (by assumption) (by assumption); omega) | (have hk := rtck (by assumption) (by assumption); omega) | (have hk := eck (by assumption) (by assumption) (by assumption); omega) | (have hk := tv (by assumption) (by assumption); omega) | (have hk := rtv (by assumption) (by assumption); omega)) (by first | omega | (have hk := bb (by assumption) (by assumption); omega) | (have hk := tck (by assumption) (by assumption); omega) | (have hk := rtck (by assumption) (by assumption); omega) | (have hk := eck (by assumption) (by assumption) (by assumption); omega) | (have hk := tv (by assumption) (by assumption); omega) | (have hk := rtv (by assumption) (by assumption); omega)))) (lR rfl rfl rfl ?_))))))))
  refine gL (av.g_Args r1) rfl rfl rfl fun b1 a7 => (mV rfl (ab (bn rfl rfl (zw a7 (by first | omega | (have hk := bb (by assumption) (by assumption); omega) | (have hk := tck (by assumption) (by assumption); omega) | (have hk := rtck (by assumption) (by assumption); omega) | (have hk := eck (by assumption) (by assumption) (by assumption); omega) | (have hk := tv (by assumption) (by assumption); omega) | (have hk := rtv (by assumption) (by assumption); omega)) (by first | omega | (have hk := bb (by assumption) (by assumption); omega) | (have hk := tck (by assumption) (by assumption); omega) | (have hk := rtck (by assumption) (by assumption); omega) | (have hk := eck (by assumption) (by assumption) (by assumption); omega) | (have hk := tv (by assumption) (by assumption); omega) | (have hk := rtv (by assumption) (by assumption); omega)))) (lR rfl rfl rfl (ab (bd (a := df (ix x0.Args a0)) (b := df (ix x1.Args a0)) rfl rfl ad7) (nS ?_)))))
  refine cq hres rfl ?_ ?_ <;> clear hres <;> intro c hres <;> try simp only [qa] at c
  ·refine sR (mB rfl (nS ?_))
   exact rR hres rfl rfl rfl
  ·refine az (dg (af (ah (mV rfl (bN eg rfl rfl (mV rfl (aw (ct ?_))))))))
   have hbd := du a4
   have hinc : wr (a0 + 1) = a0 + 1 := dw (by omega) (by omega)
   erw [hinc]
   exact wC (ih   (by omega) (by omega) hres) rfl

theorem dd8 {x0 : av} {x1 : av} {v0 v1 : PV} (r0 : av.t.R x0 v0) (r1 : av.t.R x1 v1) : FnR Tryz.prog 72 [v0, v1] (vb (mf x0 x1)) := by
 refine fnS (R := RF72) db6 (fun _ h => h) rfl fun res hres => ?_
 unfold mf at hres
 refine sR (ab (dh rfl (TR.cnt av.t r0)) (ab (dh rfl (TR.cnt av.t r1)) (mB rfl (nS (ae (sR (fL rfl (av.g_Action r0) rfl rfl (fL rfl (av.g_Action r1) rfl rfl ?_))))))))
 refine bN jk rfl rfl (mV rfl ?_)
 refine bv 8 (d := 19) (v := vb ((!decide (x0.Action = x1.Action)) || (!decide ((x0.Args.length : Int) = (x1.Args.length : Int))))) ?_ ?_
 ·intro S Q r
  cases a5 : (!decide (x0.Action = x1.Action))
  ·intro k
   have a4 := a5
   try simp only [qa] at a4
   obtain ⟨a8, a7, a3⟩ := av.g_Args r0
   refine ai rfl rfl (bc rfl a7) (ai rfl rfl (ba rfl (TR.cnt (tSl ko) a3) (TR.agg (tSl ko) a3)) (ai rfl rfl (cd rfl (br a3 Tryz.underlying33 _)) ?_))
   obtain ⟨a9, a6, a1⟩ := av.g_Args r1
   refine ai rfl rfl (bc rfl a6) (ai rfl rfl (ba rfl (TR.cnt (tSl ko) a1) (TR.agg (tSl ko) a1)) (ai rfl rfl (cd rfl (br a1 Tryz.underlying33 _)) (ai rfl rfl (bd rfl rfl jk) ?_)))
   exact gK rfl rfl rfl rfl rfl k
  ·exact gN 7 rfl rfl rfl rfl rfl rfl
 refine nS ?_
 refine cq hres rfl ?_ ?_ <;> clear hres <;> intro a0 hres <;> have a2 := a0 <;> try simp only [qa] at a2
 ·refine sR (mB rfl (nS ?_))
  exact rR hres rfl rfl rfl
 ·refine az (af (ae (sR (mI rfl (nS (bf ?_))))))
  refine wC (td r0 r1 a0 ?_  rfl (by omega) hres) rfl
  ·intro  hres
   refine fd (af (sR (mB rfl (nS ?_))))
   exact rR hres rfl rfl rfl

def RF38 (res : Bool) (r : PV) : Prop := r = vb res
theorem dj7 {x0 : au} {x1 : au} {v0 v1 : PV} (r0 : au.t.R x0 v0) (r1 : au.t.R x1 v1) : FnR Tryz.prog 38 [v0, v1] (vb (pw x0 x1)) := by
 refine fnS (R := RF38) cy8 (fun _ h => h) rfl fun res hres => ?_
 unfold pw at hres
 refine sR (ab (dh rfl (TR.cnt au.t r0)) (ab (dh rfl (TR.cnt au.t r1)) (mB rfl (nR (lD r0 rfl rfl rfl (lD r1 rfl rfl rfl ?_))))))
 obtain ⟨a5, a4, hres⟩ := dc hres
 have a6 := bt3  r0 r1 
 rw [a4] at a6
 refine cL a6 rfl rfl (aq (TR.clo au.t r0) (aq (TR.clo au.t r1) bm)) (mV rfl ?_)
 refine bv 6 (d := 14) (v := vb (a5 && (mf x0.Call x1.Call))) ?_ ?_
 ·intro S Q r
  cases a3 : a5
  ·exact gN 5 rfl rfl rfl rfl rfl rfl
  ·intro k
   have a2 := a3
   try simp only [qa] at a2
   obtain ⟨b1, a8, a0⟩ := au.g_Call r0
   refine ai rfl rfl (bc rfl a8) (ai rfl rfl (ba rfl (TR.cnt av.t a0) (TR.agg av.t a0)) ?_)
   obtain ⟨b0, a7, a1⟩ := au.g_Call r1
   refine ai rfl rfl (bc rfl a7) (ai rfl rfl (ba rfl (TR.cnt av.t a1) (TR.agg av.t a1)) ?_)
   have a9 := dd8  a0 a1 
   refine fu rfl rfl (mb rfl rfl (aq (TR.clo av.t a0) (aq (TR.clo av.t a1) bm)) a9) ?_
   exact gK rfl rfl rfl rfl rfl k
 refine mV rfl (nS ?_)
 exact rR hres rfl rfl rfl

def RF14 (res : Bool) (r : PV) : Prop := r = vb res
theorem cz2 {x0 : aj} {x1 : aj} {v0 v1 : PV} (r0 : aj.t.R x0 v0) (r1 : aj.t.R x1 v1) : FnR Tryz.prog 14 [v0, v1] (vb (ri x0 x1)) := by
 refine fnS (R := RF14) de0 (fun _ h => h) rfl fun res hres => ?_
 unfold ri at hres
 refine sR (ab (dh rfl (TR.cnt aj.t r0)) (ab (dh rfl (TR.cnt aj.t r1)) (mB rfl (nR (fL rfl (aj.g_ID r0) rfl rfl (fL rfl (aj.g_ID r1) rfl rfl (bN lh rfl rfl (mV rfl ?_))))))))
 refine bv 6 (d := 16) (v := vb ((decide (x0.ID = x1.ID)) && (pw x0.Entry x1.Entry))) ?_ ?_
 ·intro S Q r
  cases a3 : (decide (x0.ID = x1.ID))
  ·exact gN 5 rfl rfl rfl rfl rfl rfl
  ·intro k
   have a2 := a3
   try simp only [qa] at a2
   obtain ⟨a7, a5, a1⟩ := aj.g_Entry r0
   refine ai rfl rfl (bc rfl a5) (ai rfl rfl (ba rfl (TR.cnt au.t a1) (TR.agg au.t a1)) ?_)
   obtain ⟨a8, a4, a0⟩ := aj.g_Entry r1
   refine ai rfl rfl (bc rfl a4) (ai rfl rfl (ba rfl (TR.cnt au.t a0) (TR.agg au.t a0)) ?_)
   have a6 := dj7  a1 a0 
   refine fu rfl rfl (mb rfl rfl (aq (TR.clo au.t a1) (aq (TR.clo au.t a0) bm)) a6) ?_
   exact gK rfl rfl rfl rfl rfl k
 refine mV rfl (nS ?_)
 exact rR hres rfl rfl rfl

def RF118 (res : Bool) (r : PV) : Prop := r = vb res
theorem bf5 {x0 : UInt8} : FnR Tryz.prog 118 [vu8 x0] (vb (ly x0)) := by
 refine fnS (R := RF118) ce6 (fun _ h => h) rfl fun res hres => ?_
 unfold ly at hres
 refine sR (mB rfl (nR (mV rfl (ab (bd (a := vu8 x0) (b := vu8 (97 : UInt8)) rfl rfl ak5) (mV rfl ?_)))))
 refine bv 3 (d := 8) (v := vb ((decide ((97 : UInt8) ≤ x0)) && (decide (x0 ≤ (122 : UInt8))))) ?_ ?_
 ·intro S Q r
  cases a3 : (decide ((97 : UInt8) ≤ x0))
  ·exact gN 2 rfl rfl rfl rfl rfl rfl
  ·intro k
   have a0 := a3
   try simp only [qa] at a0
   refine ai rfl rfl (am rfl) (ai rfl rfl (bd (a := vu8 x0) (b := vu8 (122 : UInt8)) rfl rfl al3) ?_)
   exact gK rfl rfl rfl rfl rfl k
 refine mV rfl ?_
 refine bv 7 (d := 16) (v := vb (((decide ((97 : UInt8) ≤ x0)) && (decide (x0 ≤ (122 : UInt8)))) || ((decide ((65 : UInt8) ≤ x0)) && (decide (x0 ≤ (90 : UInt8)))))) ?_ ?_
 ·intro S Q r
  cases a4 : ((decide ((97 : UInt8) ≤ x0)) && (decide (x0 ≤ (122 : UInt8))))
  ·intro k
   have a2 := a4
   try simp only [qa] at a2
   refine ai rfl rfl (am rfl) (ai rfl rfl (bd (a := vu8 x0) (b := vu8 (65 : UInt8)) rfl rfl ak5) (ai rfl rfl (am rfl) ?_))
   refine bv 3 (d := 15) (v := vb ((decide ((65 : UInt8) ≤ x0)) && (decide (x0 ≤ (90 : UInt8))))) ?_ ?_
   ·intro S Q r
    cases a5 : (decide ((65 : UInt8) ≤ x0))
    ·intro k
     refine mn rfl rfl (mn rfl rfl (ai (v := vb false) rfl rfl (lz rfl rfl rfl rfl) ?_))
     exact wD k rfl
    ·intro k
     have a1 := a5
     try simp only [qa] at a1
     refine ai rfl rfl (am rfl) (ai rfl rfl (bd (a := vu8 x0) (b := vu8 (90 : UInt8)) rfl rfl al3) (ai (v := vb (decide (x0 ≤ (90 : UInt8)))) rfl rfl (lz rfl rfl rfl rfl) ?_))
     exact wD k rfl
   exact gK rfl rfl rfl rfl rfl k
  ·exact gN 6 rfl rfl rfl rfl rfl rfl
 refine mV rfl (nS ?_)
 exact rR hres rfl rfl rfl

def RF119 (res : Bool) (r : PV) : Prop := r = vb res
theorem cg2 {x0 : UInt8} : FnR Tryz.prog 119 [vu8 x0] (vb (nr x0)) := by
 refine fnS (R := RF119) ch0 (fun _ h => h) rfl fun res hres => ?_
 unfold nr at hres
 refine sR (mB rfl (nR (mV rfl (ab (bd (a := vu8 x0) (b := vu8 (48 : UInt8)) rfl rfl ak5) (mV rfl ?_)))))
 refine bv 3 (d := 8) (v := vb ((decide ((48 : UInt8) ≤ x0)) && (decide (x0 ≤ (57 : UInt8))))) ?_ ?_
 ·intro S Q r
  cases a1 : (decide ((48 : UInt8) ≤ x0))
  ·exact gN 2 rfl rfl rfl rfl rfl rfl
  ·intro k
   have a0 := a1
   try simp only [qa] at a0
   refine ai rfl rfl (am rfl) (ai rfl rfl (bd (a := vu8 x0) (b := vu8 (57 : UInt8)) rfl rfl al3) ?_)
   exact gK rfl rfl rfl rfl rfl k
 refine mV rfl (nS ?_)
 exact rR hres rfl rfl rfl

def RF88 (res : Bool) (r : PV) : Prop := r = vb res
theorem sf {S : List Fr} {res : Bool} {x0 : List UInt8} (a8 : (((decide (x0 = ([] : List UInt8))) || (decide (16 < (x0.length : Int)))) || (!(ly (ix x0 0)))) = false) {K0 : Unit → Bool}
  (b3 : K0 () = res → PX Tryz.prog 0 S (QR Tryz.prog [(2, none)] (RF88 res)) [] ⟨0, []⟩) :
  ∀ {m : Nat} {a0 : Int} (b2 : m = Int.toNat ((x0.length : Int) - a0)) (a7 : 0 ≤ a0), gm x0 K0 m a0 = res → RC Tryz.prog (.loop cm2) S (QR Tryz.prog [(2, none)] (RF88 res)) [(3, vi a0), (0, vs x0)] ⟨0, []⟩ := by
 have a2 := a8
 try simp only [qa] at a2
 intro m
 induction m with
 | zero =>
  intro a0 b2 a7 hres
  rw [gm] at hres
  refine bq (ae (sR (mV rfl (mV rfl (ab (cd rfl (nb Tryz.underlying9)) (bN co rfl rfl (nS ?_)))))))
  refine bg rfl ?_ ?_ <;> intro c <;> try simp only [qa] at c
  ·omega
  refine dm (dx (cy ?_))
  exact wP (b3  hres) rfl
 | succ m ih =>
  intro a0 b2 a7 hres
  rw [gm] at hres
  refine bq (ae (sR (mV rfl (mV rfl (ab (cd rfl (nb Tryz.underlying9)) (bN co rfl rfl (nS ?_)))))))
  refine bg rfl ?_ ?_ <;> intro c <;> try simp only [qa] at c
  rotate_left
  ·omega
  refine az (af (ae (bf (sR (mV rfl (mV rfl (ab (pj rfl rfl (th Tryz.underlying9 (by first | omega | (have hp := List.length_pos_iff.2 (And.left (by assumption : ¬x0 = [] ∧ _)); omega)) (by first | omega | (have hp := List.length_pos_iff.2 (And.left (by assumption : ¬x0 = [] ∧ _)); omega)))) ?_)))))))
  obtain ⟨a1, b0, hres⟩ := dc hres
  have a5 := bf5 (x0 := (ix x0 a0))  
  rw [b0] at a5
  refine cL a5 rfl rfl (aq rfl bm) (ab (gc rfl) (mV rfl ?_))
  refine bv 6 (d := 34) (v := vb ((!a1) && (!(nr (ix x0 a0))))) ?_ ?_
  ·intro S Q r
   cases a6 : (!a1)
   ·exact gN 5 rfl rfl rfl rfl rfl rfl
   ·intro k
    have a4 := a6
    try simp only [qa] at a4
    refine ai rfl rfl (am rfl) (ai rfl rfl (am rfl) (ai rfl rfl (pj rfl rfl (th Tryz.underlying9 (by first | omega | (have hp := List.length_pos_iff.2 (And.left (by assumption : ¬x0 = [] ∧ _)); omega)) (by first | omega | (have hp := List.length_pos_iff.2 (And.left (by assumption : ¬x0 = [] ∧ _)); omega)))) ?_))
    have b1 := cg2 (x0 := (ix x0 a0))  
    refine fu rfl rfl (mb rfl rfl (aq rfl bm) b1) (ai rfl rfl (gc rfl) ?_)
    exact gK rfl rfl rfl rfl rfl k
  refine mV rfl ?_
  refine bv 5 (d := 40) (v := vb (((!a1) && (!(nr (ix x0 a0)))) && (!decide ((ix x0 a0) = (95 : UInt8))))) ?_ ?_
  ·intro S Q r
   cases a9 : ((!a1) && (!(nr (ix x0 a0))))
   ·exact gN 4 rfl rfl rfl rfl rfl rfl
   ·intro k
    have a3 := a9
    try simp only [qa] at a3
    refine ai rfl rfl (am rfl) (ai rfl rfl (am rfl) (ai rfl rfl (pj rfl rfl (th Tryz.underlying9 (by first | omega | (have hp := List.length_pos_iff.2 (And.left (by assumption : ¬x0 = [] ∧ _)); omega)) (by first | omega | (have hp := List.length_pos_iff.2 (And.left (by assumption : ¬x0 = [] ∧ _)); omega)))) (ai rfl rfl (bd (a := vu8 (ix x0 a0)) (b := vu8 (95 : UInt8)) rfl rfl dz9) ?_)))
    exact gK rfl rfl rfl rfl rfl k
  refine nS ?_
  refine cq hres rfl ?_ ?_ <;> clear hres <;> intro c hres <;> try simp only [qa] at c
  ·refine sR (mB rfl (nS ?_))
   exact rR hres rfl rfl rfl
  ·refine az (dg (af (ah (mV rfl (bN eg rfl rfl (mV rfl (aw (ct ?_))))))))
   have hinc : wr (a0 + 1) = a0 + 1 := dw (by omega) (by omega)
   erw [hinc]
   exact wC (ih   (by omega) (by omega) hres) rfl

theorem di0 {x0 : List UInt8} : FnR Tryz.prog 88 [vs x0] (vb (kw x0)) := by
 refine fnS (R := RF88) da4 (fun _ h => h) rfl fun res hres => ?_
 unfold kw at hres
 refine sR (mB rfl (nS (ae (sR (mV rfl (ab (bd (a := vs x0) (b := vs ([] : List UInt8)) rfl rfl cf2) (mV rfl ?_)))))))
 refine bv 4 (d := 10) (v := vb ((decide (x0 = ([] : List UInt8))) || (decide (16 < (x0.length : Int))))) ?_ ?_
 ·intro S Q r
  cases a5 : (decide (x0 = ([] : List UInt8)))
  ·intro k
   have a3 := a5
   try simp only [qa] at a3
   refine ai rfl rfl (am rfl) (ai rfl rfl (cd rfl (nb Tryz.underlying9)) (ai rfl rfl (bd rfl rfl gi) ?_))
   exact gK rfl rfl rfl rfl rfl k
  ·exact gN 3 rfl rfl rfl rfl rfl rfl
 refine mV rfl ?_
 refine bv 5 (d := 16) (v := vb (((decide (x0 = ([] : List UInt8))) || (decide (16 < (x0.length : Int)))) || (!(ly (ix x0 0))))) ?_ ?_
 ·intro S Q r
  cases a4 : ((decide (x0 = ([] : List UInt8))) || (decide (16 < (x0.length : Int))))
  ·intro k
   have a2 := a4
   try simp only [qa] at a2
   refine ai rfl rfl (am rfl) (ai rfl rfl (pj rfl rfl (th (i := 0) Tryz.underlying9 (by first | omega | (have hp := List.length_pos_iff.2 (And.left (by assumption : ¬x0 = [] ∧ _)); omega)) (by first | omega | (have hp := List.length_pos_iff.2 (And.left (by assumption : ¬x0 = [] ∧ _)); omega)))) ?_)
   have a6 := bf5 (x0 := (ix x0 0))  
   refine fu rfl rfl (mb rfl rfl (aq rfl bm) a6) (ai rfl rfl (gc rfl) ?_)
   exact gK rfl rfl rfl rfl rfl k
  ·exact gN 4 rfl rfl rfl rfl rfl rfl
 refine nS ?_
 refine cq hres rfl ?_ ?_ <;> clear hres <;> intro a0 hres <;> have a1 := a0 <;> try simp only [qa] at a1
 ·refine sR (mB rfl (nS ?_))
  exact rR hres rfl rfl rfl
 ·refine az (af (ae (sR (mI rfl (nS (bf ?_))))))
  refine wC (sf a0 ?_  rfl (by omega) hres) rfl
  ·intro  hres
   refine fd (af (sR (mB rfl (nS ?_))))
   exact rR hres rfl rfl rfl

def RF62 (res : Int) (r : PV) : Prop := r = vi res
theorem bs9 {x0 : aa} {x1 : cf} {v0 v1 : PV} (r0 : aa.t.R x0 v0) (r1 : cf.t.R x1 v1) : FnR Tryz.prog 62 [v0, v1] (vi (jx x0 x1)) := by
 refine fnS (R := RF62) da1 (fun _ h => h) rfl fun res hres => ?_
 unfold jx at hres
 refine sR (ab (dh rfl (TR.cnt aa.t r0)) (ab (dh rfl (TR.cnt cf.t r1)) (mI rfl (nR ?_))))
 obtain ⟨d0, b3, a8⟩ := aa.g_Metadata r0
 refine fA rfl b3 (lD a8 rfl rfl rfl (mV rfl (nS (ae (sR (fL rfl (cf.g_Header r1) rfl rfl (bN oa rfl rfl (nS ?_))))))))
 obtain ⟨c5, a7, hres⟩ := dc hres
 refine yy (F := fun b S Q => ∀ (a0 : List bw) (a2 : PV) (a1 : (tSl bw.t).R a0 a2), c5 a0 = res → RC Tryz.prog b S Q [(5, a2), (3, .fp v1)] ⟨0, []⟩) ?_ ?_
 ·intro a0 a2 a1  hres
  rw [← a7] at hres
  refine ae (sR (fL rfl (cf.g_Header r1) rfl rfl (bN (co (b := -1)) rfl rfl (mV rfl ?_))))
  refine bv 4 (d := 31) (v := vb ((decide (x1.Header < (-1))) || (decide (x1.Field < 0)))) ?_ ?_
  ·intro S Q r
   cases a9 : (decide (x1.Header < (-1)))
   ·intro k
    have a4 := a9
    try simp only [qa] at a4
    refine ai rfl rfl (bc rfl (cf.g_Field r1)) (ai rfl rfl (ba rfl rfl rfl) (ai rfl rfl (bd rfl rfl co) ?_))
    exact gK rfl rfl rfl rfl rfl k
   ·exact gN 3 rfl rfl rfl rfl rfl rfl
  refine mV rfl ?_
  refine bv 6 (d := 38) (v := vb (((decide (x1.Header < (-1))) || (decide (x1.Field < 0))) || (decide ((a0.length : Int) ≤ x1.Field)))) ?_ ?_
  ·intro S Q r
   cases b1 : ((decide (x1.Header < (-1))) || (decide (x1.Field < 0)))
   ·intro k
    have a5 := b1
    try simp only [qa] at a5
    refine ai rfl rfl (bc rfl (cf.g_Field r1)) (ai rfl rfl (ba rfl rfl rfl) (ai rfl rfl (am rfl) (ai rfl rfl (cd rfl (br a1 Tryz.underlying23 _)) (ai rfl rfl (bd rfl rfl oa) ?_))))
    exact gK rfl rfl rfl rfl rfl k
   ·exact gN 5 rfl rfl rfl rfl rfl rfl
  refine mV rfl ?_
  refine bv 8 (d := 47) (v := vb ((((decide (x1.Header < (-1))) || (decide (x1.Field < 0))) || (decide ((a0.length : Int) ≤ x1.Field))) || (decide (((ix a0 x1.Field).Width) < 1)))) ?_ ?_
  ·intro S Q r
   cases b0 : (((decide (x1.Header < (-1))) || (decide (x1.Field < 0))) || (decide ((a0.length : Int) ≤ x1.Field)))
   ·intro k
    have a6 := b0
    try simp only [qa] at a6
    refine ai rfl rfl (am rfl) (ai rfl rfl (bc rfl (cf.g_Field r1)) (ai rfl rfl (ba rfl rfl rfl) ?_))
    obtain ⟨d2, b5, c0⟩ := cx (i := x1.Field) a1 (by first | omega | (have hk := bb (by assumption) (by assumption); omega) | (have hk := tck (by assumption) (by assumption); omega) | (have hk := rtck (by assumption) (by assumption); omega) | (have hk := eck (by assumption) (by assumption) (by assumption); omega) | (have hk := tv (by assumption) (by assumption); omega) | (have hk := rtv (by assumption) (by assumption); omega)) (by first | omega | (have hk := bb (by assumption) (by assumption); omega) | (have hk := tck (by assumption) (by assumption); omega) | (have hk := rtck (by assumption) (by assumption); omega) | (have hk := eck (by assumption) (by assumption) (by assumption); omega) | (have hk := tv (by assumption) (by assumption); omega) | (have hk := rtv (by assumption) (by assumption); omega))
    refine ai rfl rfl (bn rfl rfl b5) (ai rfl rfl (bc rfl (bw.g_Width c0)) (ai rfl rfl (ba rfl rfl rfl) (ai rfl rfl (bd rfl rfl co) ?_)))
    exact gK rfl rfl rfl rfl rfl k
   ·exact gN 7 rfl rfl rfl rfl rfl rfl
  refine mV rfl ?_
  refine bv 8 (d := 56) (v := vb (((((decide (x1.Header < (-1))) || (decide (x1.Field < 0))) || (decide ((a0.length : Int) ≤ x1.Field))) || (decide (((ix a0 x1.Field).Width) < 1))) || (decide (32 < ((ix a0 x1.Field).Width))))) ?_ ?_
  ·intro S Q r
   cases b2 : ((((decide (x1.Header < (-1))) || (decide (x1.Field < 0))) || (decide ((a0.length : Int) ≤ x1.Field))) || (decide (((ix a0 x1.Field).Width) < 1)))
   ·intro k
    have a3 := b2
    try simp only [qa] at a3
    refine ai rfl rfl (am rfl) (ai rfl rfl (bc rfl (cf.g_Field r1)) (ai rfl rfl (ba rfl rfl rfl) ?_))
    obtain ⟨c8, c1, b4⟩ := cx (i := x1.Field) a1 (by first | omega | (have hk := bb (by assumption) (by assumption); omega) | (have hk := tck (by assumption) (by assumption); omega) | (have hk := rtck (by assumption) (by assumption); omega) | (have hk := eck (by assumption) (by assumption) (by assumption); omega) | (have hk := tv (by assumption) (by assumption); omega) | (have hk := rtv (by assumption) (by assumption); omega)) (by first | omega | (have hk := bb (by assumption) (by assumption); omega) | (have hk := tck (by assumption) (by assumption); omega) | (have hk := rtck (by assumption) (by assumption); omega) | (have hk := eck (by assumption) (by assumption) (by assumption); omega) | (have hk := tv (by assumption) (by assumption); omega) | (have hk := rtv (by assumption) (by assumption); omega))
    refine ai rfl rfl (bn rfl rfl c1) (ai rfl rfl (bc rfl (bw.g_Width b4)) (ai rfl rfl (ba rfl rfl rfl) (ai rfl rfl (bd rfl rfl gi) ?_)))
    exact gK rfl rfl rfl rfl rfl k
   ·exact gN 7 rfl rfl rfl rfl rfl rfl
  refine nS ?_
  refine cq hres rfl ?_ ?_ <;> clear hres <;> intro c hres <;> try simp only [qa] at c
  ·refine sR (mI rfl (nS ?_))
   exact rR hres rfl rfl rfl
  ·refine az (af (sR (mV rfl (fL rfl (cf.g_Field r1) rfl rfl ?_))))
   obtain ⟨c9, b9, c3⟩ := cx (i := x1.Field) a1 (by first | omega | (have hk := bb (by assumption) (by assumption); omega) | (have hk := tck (by assumption) (by assumption); omega) | (have hk := rtck (by assumption) (by assumption); omega) | (have hk := eck (by assumption) (by assumption) (by assumption); omega) | (have hk := tv (by assumption) (by assumption); omega) | (have hk := rtv (by assumption) (by assumption); omega)) (by first | omega | (have hk := bb (by assumption) (by assumption); omega) | (have hk := tck (by assumption) (by assumption); omega) | (have hk := rtck (by assumption) (by assumption); omega) | (have hk := eck (by assumption) (by assumption) (by assumption); omega) | (have hk := tv (by assumption) (by assumption); omega) | (have hk := rtv (by assumption) (by assumption); omega))
   refine ab (bn rfl rfl b9) (fL rfl (bw.g_Width c3) rfl rfl (mV rfl (nS ?_)))
   exact rR hres rfl rfl rfl
 ·intro J
  refine cq hres rfl ?_ ?_ <;> clear hres <;> intro c hres <;> try simp only [qa] at c
  ·refine ae (sR (fL rfl (cf.g_Header r1) rfl rfl (gL (aa.g_Headers r0) rfl rfl rfl fun c7 b8 => (ab (cd rfl (br b8 Tryz.underlying22 _)) (bN oa rfl rfl (nS ?_))))))
   refine cq hres rfl ?_ ?_ <;> clear hres <;> intro c hres <;> try simp only [qa] at c
   ·refine sR (mI rfl (nS ?_))
    exact rR hres rfl rfl rfl
   ·refine az (af (ah (gL (aa.g_Headers r0) rfl rfl rfl fun d3 b6 => (fL rfl (cf.g_Header r1) rfl rfl ?_))))
    obtain ⟨d4, c6, b7⟩ := cx (i := x1.Header) b6 (by first | omega | (have hk := bb (by assumption) (by assumption); omega) | (have hk := tck (by assumption) (by assumption); omega) | (have hk := rtck (by assumption) (by assumption); omega) | (have hk := eck (by assumption) (by assumption) (by assumption); omega) | (have hk := tv (by assumption) (by assumption); omega) | (have hk := rtv (by assumption) (by assumption); omega)) (by first | omega | (have hk := bb (by assumption) (by assumption); omega) | (have hk := tck (by assumption) (by assumption); omega) | (have hk := rtck (by assumption) (by assumption); omega) | (have hk := eck (by assumption) (by assumption) (by assumption); omega) | (have hk := tv (by assumption) (by assumption); omega) | (have hk := rtv (by assumption) (by assumption); omega))
    refine ab (bn rfl rfl c6) (gL (cj.g_Fields b7) rfl rfl rfl fun d1 c4 => (mV rfl (aw ?_)))
    refine af (wC (J _ _ c4  hres) rfl)
  ·refine az ?_
   refine af (wC (J _ _ a8  hres) rfl)

def RF89 (res : Int × Int) (r : PV) : Prop := r = .tup [vi res.1, vi res.2]
theorem zm {S : List Fr} {res : Int × Int} {x0 : aa} {x1 : ax} {v0 v1 : PV} (r0 : aa.t.R x0 v0) (r1 : ax.t.R x1 v1) {K0 : Int → Int → (Int × Int)}
  (c3 : ∀ {a2 a3 : Int}, K0 a2 a3 = res → PX Tryz.prog 0 S (QR Tryz.prog [(4, none), (5, none)] (RF89 res)) [(6, vi a2), (7, vi a3)] ⟨0, []⟩) :
  ∀ {m : Nat} {a2 a3 a0 : Int} (b9 : m = Int.toNat ((x1.Keys.length : Int) - a0)) (a6 : 0 ≤ a0), ie x0 x1 K0 m a2 a3 a0 = res → RC Tryz.prog (.loop cf4) S (QR Tryz.prog [(4, none), (5, none)] (RF89 res)) [(8, vi a0), (7, vi a3), (6, vi a2), (3, .fp v1), (2, .fp v0)] ⟨0, []⟩ := by
 intro m
 induction m with
 | zero =>
  intro a2 a3 a0 b9 a6 hres
  rw [ie] at hres
  refine bq (ae (sR (mV rfl (gL (ax.g_Keys r1) rfl rfl rfl fun c1 b5 => (ab (cd rfl (br b5 Tryz.underlying85 _)) (bN co rfl rfl (nS ?_)))))))
  refine bg rfl ?_ ?_ <;> intro c <;> try simp only [qa] at c
  ·omega
  refine dm (dx (cy ?_))
  exact wP (c3  hres) rfl
 | succ m ih =>
  intro a2 a3 a0 b9 a6 hres
  rw [ie] at hres
  refine bq (ae (sR (mV rfl (gL (ax.g_Keys r1) rfl rfl rfl fun c9 a1 => (ab (cd rfl (br a1 Tryz.underlying85 _)) (bN co rfl rfl (nS ?_)))))))
  refine bg rfl ?_ ?_ <;> intro c <;> try simp only [qa] at c
  rotate_left
  ·omega
  refine az (af (ae (bf (sR (lD r0 rfl rfl rfl (gL (ax.g_Keys r1) rfl rfl rfl fun c4 b4 => (mV rfl ?_)))))))
  obtain ⟨c6, b2, b6⟩ := cx (i := a0) b4 (by first | omega | (have hk := bb (by assumption) (by assumption); omega) | (have hk := tck (by assumption) (by assumption); omega) | (have hk := rtck (by assumption) (by assumption); omega) | (have hk := eck (by assumption) (by assumption) (by assumption); omega) | (have hk := tv (by assumption) (by assumption); omega) | (have hk := rtv (by assumption) (by assumption); omega)) (by first | omega | (have hk := bb (by assumption) (by assumption); omega) | (have hk := tck (by assumption) (by assumption); omega) | (have hk := rtck (by assumption) (by assumption); omega) | (have hk := eck (by assumption) (by assumption) (by assumption); omega) | (have hk := tv (by assumption) (by assumption); omega) | (have hk := rtv (by assumption) (by assumption); omega))
  refine ab (bn rfl rfl b2) (gL (bh.g_Field b6) rfl rfl rfl fun c8 b0 => ?_)
  obtain ⟨c0, a7, hres⟩ := dc hres
  have a9 := bs9  r0 b0 
  rw [a7] at a9
  refine cL a9 rfl rfl (aq (TR.clo aa.t r0) (aq (TR.clo cf.t b0) bm)) (mV rfl (nR (gL (ax.g_Keys r1) rfl rfl rfl fun c7 b3 => (mV rfl ?_))))
  obtain ⟨c5, b7, b8⟩ := cx (i := a0) b3 (by first | omega | (have hk := bb (by assumption) (by assumption); omega) | (have hk := tck (by assumption) (by assumption); omega) | (have hk := rtck (by assumption) (by assumption); omega) | (have hk := eck (by assumption) (by assumption) (by assumption); omega) | (have hk := tv (by assumption) (by assumption); omega) | (have hk := rtv (by assumption) (by assumption); omega)) (by first | omega | (have hk := bb (by assumption) (by assumption); omega) | (have hk := tck (by assumption) (by assumption); omega) | (have hk := rtck (by assumption) (by assumption); omega) | (have hk := eck (by assumption) (by assumption) (by assumption); omega) | (have hk := tv (by assumption) (by assumption); omega) | (have hk := rtv (by assumption) (by assumption); omega))
  refine ab (bn rfl rfl b7) (fL rfl (bh.g_Kind b8) rfl rfl (mV rfl (nS (ae (bf (sR (mV rfl (bN lh rfl rfl ?_))))))))
  refine mV rfl (nS ?_)
  refine cq hres rfl ?_ ?_ <;> clear hres <;> intro c hres <;> try simp only [qa] at c
  ·refine sR (mV rfl (mV rfl (mI rfl (nS ?_))))
   exact rT hres rfl rfl rfl rfl rfl
  ·refine sR (mV rfl (bN jk rfl rfl (mV rfl ?_)))
   refine bv 3 (d := 42) (v := vb ((!decide (((ix x1.Keys a0).Kind) = 1)) && (!decide (((ix x1.Keys a0).Kind) = 2)))) ?_ ?_
   ·intro S Q r
    cases a8 : (!decide (((ix x1.Keys a0).Kind) = 1))
    ·exact gN 2 rfl rfl rfl rfl rfl rfl
    ·intro k
     have a5 := a8
     try simp only [qa] at a5
     refine ai rfl rfl (am rfl) (ai rfl rfl (bd rfl rfl jk) ?_)
     exact gK rfl rfl rfl rfl rfl k
   refine mV rfl ?_
   refine bv 3 (d := 46) (v := vb (((!decide (((ix x1.Keys a0).Kind) = 1)) && (!decide (((ix x1.Keys a0).Kind) = 2))) && (!decide (((ix x1.Keys a0).Kind) = 3)))) ?_ ?_
   ·intro S Q r
    cases b1 : ((!decide (((ix x1.Keys a0).Kind) = 1)) && (!decide (((ix x1.Keys a0).Kind) = 2)))
    ·exact gN 2 rfl rfl rfl rfl rfl rfl
    ·intro k
     have a4 := b1
     try simp only [qa] at a4
     refine ai rfl rfl (am rfl) (ai rfl rfl (bd rfl rfl jk) ?_)
     exact gK rfl rfl rfl rfl rfl k
   refine mV rfl (nS ?_)
   refine cq hres rfl ?_ ?_ <;> clear hres <;> intro c hres <;> try simp only [qa] at c
   ·refine sR (mV rfl (mV rfl (mI rfl (nS ?_))))
    exact rT hres rfl rfl rfl rfl rfl
   ·refine sR (mV rfl (bN lh rfl rfl (mV rfl (nS ?_))))
    refine cq hres rfl ?_ ?_ <;> clear hres <;> intro c hres <;> try simp only [qa] at c
    ·refine ah (mV rfl (bN eg rfl rfl (mV rfl (aw (dg (af (ah (mV rfl ?_))))))))
     refine mV rfl (bN eg rfl rfl (mV rfl (aw (dg (af (ah (mV rfl (bN eg rfl rfl ?_))))))))
     refine mV rfl (aw (ct ?_))
     have hbd := du a1
     have hinc : wr (a0 + 1) = a0 + 1 := dw (by omega) (by omega)
     erw [hinc]
     exact wC (ih   (by omega) (by omega) hres) rfl
    ·refine az (dg (af (ah (mV rfl (mV rfl (bN eg rfl rfl (mV rfl (aw ?_))))))))
     refine dg (af (ah (mV rfl (bN eg rfl rfl (mV rfl (aw (ct ?_)))))))
     have hbd := du a1
     have hinc : wr (a0 + 1) = a0 + 1 := dw (by omega) (by omega)
     erw [hinc]
     exact wC (ih   (by omega) (by omega) hres) rfl

theorem dm2 {x0 : aa} {x1 : ax} {v0 v1 : PV} (r0 : aa.t.R x0 v0) (r1 : ax.t.R x1 v1) : FnR Tryz.prog 89 [v0, v1] (.tup [vi ((nd x0 x1).1), vi ((nd x0 x1).2)]) := by
 refine fnS (R := RF89) dg2 (fun _ h => h) rfl fun res hres => ?_
 unfold nd at hres
 refine sR (ab (dh rfl (TR.cnt aa.t r0)) (ab (dh rfl (TR.cnt ax.t r1)) (mI rfl (mI rfl (nR (mI rfl (nR (mI rfl ?_))))))))
 refine nS (ae (sR (mI rfl (nS (bf ?_)))))
 refine wC (zm r0 r1 ?_  rfl (by omega) hres) rfl
 ·intro a0 a1 hres
  refine fd (af (ae (bf (sR (mV rfl (bN gi rfl rfl (mV rfl (nS ?_))))))))
  refine cq hres rfl ?_ ?_ <;> clear hres <;> intro c hres <;> try simp only [qa] at c
  ·refine sR (mI rfl (mI rfl (nS ?_)))
   exact rT hres rfl rfl rfl rfl rfl
  ·refine sR (mV rfl (bN gi rfl rfl (mV rfl (nS ?_))))
   refine cq hres rfl ?_ ?_ <;> clear hres <;> intro c hres <;> try simp only [qa] at c
   ·refine sR (mI rfl (mI rfl (nS ?_)))
    exact rT hres rfl rfl rfl rfl rfl
   ·refine az (dg (af (sR (mI rfl (mI rfl (nS ?_))))))
    exact rT hres rfl rfl rfl rfl rfl

end Go.Proofs.YthdnpgpnodgicaaGreat
