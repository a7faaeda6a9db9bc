/-
 The code of each function does what its plain program says.
-/
import Derived.Test.YthdnpgpnodgicaaGreatL4W1
set_option linter.unusedVariables false
set_option linter.unusedSimpArgs false
set_option maxRecDepth 100000
namespace Go.Proofs.YthdnpgpnodgicaaGreat
open Go Go.Pb Go.RowKit
def RF37 (res : Bool) (r : PV) : Prop := r = vb res
theorem da0 {x0 : aa} {x1 : Int} {x2 : am} {x3 : am} {v0 v2 v3 : PV} (r0 : aa.t.R x0 v0) (r2 : am.t.R x2 v2) (r3 : am.t.R x3 v3) : FnR Tryz.prog 37 [v0, vi x1, v2, v3] (vb (jt x0 x1 x2 x3)) := by
 refine fnS (R := RF37) dh5 (fun _ h => h) rfl fun res hres => ?_
 unfold jt at hres
 refine sR (ab (db rfl (TR.cnt aa.t r0)) (ab (db rfl (TR.cnt am.t r2)) (ab (db rfl (TR.cnt am.t r3)) (mB rfl (nR (lD r0 rfl rfl rfl (mV rfl (gL (am.g_Entry r2) rfl rfl rfl fun c0 a3 => ?_))))))))
 obtain ⟨b4, a5, hres⟩ := cy hres
 have a1 := bs4 (x1 := x1) r0 a3 
 rw [a5] at a1
 refine cL a1 rfl rfl (aq (TR.clo aa.t r0) (aq rfl (aq (TR.clo au.t a3) bg))) (lD r0 rfl rfl rfl (mV rfl (gL (am.g_Entry r3) rfl rfl rfl fun b5 a0 => ?_)))
 obtain ⟨b9, a4, hres⟩ := cy hres
 have a2 := bs4 (x1 := x1) r0 a0 
 rw [a4] at a2
 refine cL a2 rfl rfl (aq (TR.clo aa.t r0) (aq rfl (aq (TR.clo au.t a0) bg))) (mV rfl (mV rfl (nS (ae (bh (sR ?_))))))
 obtain ⟨b7, a7, a8⟩ := am.g_Entry r2
 refine fA rfl a7 (fL rfl (au.g_Priority a8) rfl rfl ?_)
 obtain ⟨c1, a9, b1⟩ := am.g_Entry r3
 refine fA rfl a9 (fL rfl (au.g_Priority b1) rfl rfl (bN jc rfl rfl (mV rfl (nS ?_))))
 refine co hres rfl ?_ ?_ <;> clear hres <;> intro c hres <;> try simp only [qa] at c
 ·refine sR ?_
  obtain ⟨b8, b2, b3⟩ := am.g_Entry r2
  refine fA rfl b2 (fL rfl (au.g_Priority b3) rfl rfl ?_)
  obtain ⟨b6, a6, b0⟩ := am.g_Entry r3
  refine fA rfl a6 (fL rfl (au.g_Priority b0) rfl rfl (bN gb rfl rfl (mV rfl (nS ?_))))
  exact rR hres rfl rfl rfl
 ·refine sR (mV rfl (mV rfl (bN jc rfl rfl (mV rfl (nS ?_)))))
  refine co hres rfl ?_ ?_ <;> clear hres <;> intro c hres <;> try simp only [qa] at c
  ·refine sR (mV rfl (mV rfl (bN gb rfl rfl (mV rfl (nS ?_)))))
   exact rR hres rfl rfl rfl
  ·refine az (dc (ah (sR (fL rfl (am.g_ID r2) rfl rfl (fL rfl (am.g_ID r3) rfl rfl (bN ck rfl rfl (mV rfl (nS ?_))))))))
   exact rR hres rfl rfl rfl

def RF13 (res : am × Bool) (r : PV) : Prop := ∃ c0, r = .tup [c0, vb res.2] ∧ am.t.R res.1 c0
theorem yx {S : List Fr} {res : am × Bool} {x0 : aa} {x1 : Int} {x2 : List am} {x3 : List (BitVec 32)} {v0 v2 v3 : PV} {a6 a8 a7 a5 : Nat} (r0 : aa.t.R x0 v0) (r2 : (tSl am.t).R x2 v2) (r3 : (tSl kg).R x3 v3) {K0 : Bool → am → (am × Bool)}
  (e1 : ∀ {a4 : Bool} {a1 : am} {a3 : PV} (a2 : am.t.R a1 a3) {h : Heap} (M0 : Mem h [⟨.op a7 a5 0, 44, 5, [a3]⟩, ⟨.op a6 a8 0, 44, 5, [.agg [vi 0, nilS, vi 0, vi 0, nilS]]⟩]), K0 a4 a1 = res → PX Tryz.prog 0 S (QR Tryz.prog [(8, some (5, true)), (9, none)] (RF13 res)) [(8, .op a6 a8 0), (10, .op a7 a5 0), (11, vb a4)] h) :
  ∀ {m : Nat} {a4 : Bool} {a0 : Int} {a1 : am} {a3 : PV} (a2 : am.t.R a1 a3) (e2 : m = Int.toNat ((x2.length : Int) - a0)) (c9 : 0 ≤ a0) {h : Heap} (M0 : Mem h [⟨.op a7 a5 0, 44, 5, [a3]⟩, ⟨.op a6 a8 0, 44, 5, [.agg [vi 0, nilS, vi 0, vi 0, nilS]]⟩]), jr x0 x1 x2 x3 K0 m a4 a0 a1 = res → RC Tryz.prog (.loop cg4) S (QR Tryz.prog [(8, some (5, true)), (9, none)] (RF13 res)) [(12, vi a0), (11, vb a4), (10, .op a7 a5 0), (8, .op a6 a8 0), (4, .fp v0), (3, v3), (2, v2), (1, vi x1)] h := by
 intro m
 induction m with
 | zero =>
  intro a4 a0 a1 a3 a2 e2 c9 h M0 hres
  rw [jr] at hres
  refine br (ae (sR (mV rfl (mV rfl (ab (ca rfl (bq r2 Tryz.underlying32 _)) (bN ck rfl rfl (mV rfl ?_)))))))
  refine bt 3 (d := 21) (v := vb ((decide (a0 < (x2.length : Int))) && (decide (0 ≤ x1)))) ?_ ?_
  ·intro S Q r
   cases c3 : (decide (a0 < (x2.length : Int)))
   ·exact gN 2 rfl rfl rfl rfl rfl rfl
   ·intro k
    have b5 := c3
    try simp only [qa] at b5
    refine af rfl rfl (ak rfl) (af rfl rfl (bd rfl rfl od) ?_)
    exact gK rfl rfl rfl rfl rfl k
  refine mV rfl ?_
  refine bt 6 (d := 28) (v := vb (((decide (a0 < (x2.length : Int))) && (decide (0 ≤ x1))) && (decide (x1 < (x0.Tables.length : Int))))) ?_ ?_
  ·intro S Q r
   cases c5 : ((decide (a0 < (x2.length : Int))) && (decide (0 ≤ x1)))
   ·exact gN 5 rfl rfl rfl rfl rfl rfl
   ·intro k
    have b0 := c5
    try simp only [qa] at b0
    refine af rfl rfl (ak rfl) ?_
    obtain ⟨e4, d8, b6⟩ := aa.g_Tables r0
    refine af rfl rfl (bb rfl d8) (af rfl rfl (ba rfl (TR.cnt (tSl ax.t) b6) (TR.agg (tSl ax.t) b6)) (af rfl rfl (ca rfl (bq b6 Tryz.underlying26 _)) (af rfl rfl (bd rfl rfl ck) ?_)))
    exact gK rfl rfl rfl rfl rfl k
  refine nS ?_
  refine bf rfl ?_ ?_ <;> intro c <;> try simp only [qa] at c
  ·omega
  refine di (dv (ct ?_))
  exact wP (e1 a2 (Mem.sub M0 (.cons_cons _ (.cons_cons _ .slnil))) hres) rfl
 | succ m ih =>
  intro a4 a0 a1 a3 a2 e2 c9 h M0 hres
  rw [jr] at hres
  refine br (ae (sR (mV rfl (mV rfl (ab (ca rfl (bq r2 Tryz.underlying32 _)) (bN ck rfl rfl (mV rfl ?_)))))))
  refine bt 3 (d := 21) (v := vb ((decide (a0 < (x2.length : Int))) && (decide (0 ≤ x1)))) ?_ ?_
  ·intro S Q r
   cases c4 : (decide (a0 < (x2.length : Int)))
   ·exact gN 2 rfl rfl rfl rfl rfl rfl
   ·intro k
    have b7 := c4
    try simp only [qa] at b7
    refine af rfl rfl (ak rfl) (af rfl rfl (bd rfl rfl od) ?_)
    exact gK rfl rfl rfl rfl rfl k
  refine mV rfl ?_
  refine bt 6 (d := 28) (v := vb (((decide (a0 < (x2.length : Int))) && (decide (0 ≤ x1))) && (decide (x1 < (x0.Tables.length : Int))))) ?_ ?_
  ·intro S Q r
   cases d1 : ((decide (a0 < (x2.length : Int))) && (decide (0 ≤ x1)))
   ·exact gN 5 rfl rfl rfl rfl rfl rfl
   ·intro k
    have b3 := d1
    try simp only [qa] at b3
    refine af rfl rfl (ak rfl) ?_
    obtain ⟨e3, d4, b2⟩ := aa.g_Tables r0
    refine af rfl rfl (bb rfl d4) (af rfl rfl (ba rfl (TR.cnt (tSl ax.t) b2) (TR.agg (tSl ax.t) b2)) (af rfl rfl (ca rfl (bq b2 Tryz.underlying26 _)) (af rfl rfl (bd rfl rfl ck) ?_)))
    exact gK rfl rfl rfl rfl rfl k
  refine nS ?_
  refine co hres rfl ?_ ?_ <;> clear hres <;> intro c hres <;> try simp only [qa] at c
  ·refine az (ah (ae (bh (sR (mV rfl (mV rfl ?_))))))
   obtain ⟨e7, d7, e0⟩ := cr (i := a0) r2 (by first | omega | (have hk := bc (by assumption) (by assumption); omega) | (have hk := tck (by assumption) (by assumption); omega) | (have hk := rtck (by assumption) (by assumption); omega) | (have hk := eck (by assumption) (by assumption) (by assumption); omega) | (have hk := tv (by assumption) (by assumption); omega) | (have hk := rtv (by assumption) (by assumption); omega)) (by first | omega | (have hk := bc (by assumption) (by assumption); omega) | (have hk := tck (by assumption) (by assumption); omega) | (have hk := rtck (by assumption) (by assumption); omega) | (have hk := eck (by assumption) (by assumption) (by assumption); omega) | (have hk := tv (by assumption) (by assumption); omega) | (have hk := rtv (by assumption) (by assumption); omega))
   refine ab (bn rfl rfl d7) (gL (am.g_Entry e0) rfl rfl rfl fun e5 c1 => (mV rfl ?_))
   obtain ⟨c0, d0, hres⟩ := cy hres
   have c6 := dd7  c1 r3 
   rw [d0] at c6
   refine cL c6 rfl rfl (aq (TR.clo au.t c1) (aq (TR.clo (tSl kg) r3) bg)) (mV rfl ?_)
   refine bt 13 (d := 51) (v := vb (c0 && ((!a4) || (jt x0 x1 (ix x2 a0) a1)))) ?_ ?_
   ·intro S Q r
    cases d2 : c0
    ·exact gN 12 rfl rfl rfl rfl rfl rfl
    ·intro k
     have b1 := d2
     try simp only [qa] at b1
     refine af rfl rfl (ak rfl) (af rfl rfl (ft rfl) (af rfl rfl (ak rfl) ?_))
     refine bt 9 (d := 50) (v := vb ((!a4) || (jt x0 x1 (ix x2 a0) a1))) ?_ ?_
     ·intro S Q r
      cases c8 : (!a4)
      ·intro k
       have b4 := c8
       try simp only [qa] at b4
       refine af rfl rfl (ba rfl (TR.cnt aa.t r0) (TR.agg aa.t r0)) (af rfl rfl (ak rfl) (af rfl rfl (ak rfl) (af rfl rfl (ak rfl) ?_)))
       obtain ⟨e6, d5, a9⟩ := cr (i := a0) r2 (by first | omega | (have hk := bc (by assumption) (by assumption); omega) | (have hk := tck (by assumption) (by assumption); omega) | (have hk := rtck (by assumption) (by assumption); omega) | (have hk := eck (by assumption) (by assumption) (by assumption); omega) | (have hk := tv (by assumption) (by assumption); omega) | (have hk := rtv (by assumption) (by assumption); omega)) (by first | omega | (have hk := bc (by assumption) (by assumption); omega) | (have hk := tck (by assumption) (by assumption); omega) | (have hk := rtck (by assumption) (by assumption); omega) | (have hk := eck (by assumption) (by assumption) (by assumption); omega) | (have hk := tv (by assumption) (by assumption); omega) | (have hk := rtv (by assumption) (by assumption); omega))
       refine af rfl rfl (bn rfl rfl d5) (af rfl rfl (ba rfl (TR.cnt am.t a9) (TR.agg am.t a9)) (af rfl rfl (gi (k := 0) M0 rfl rfl (TR.agg am.t a2)) ?_))
       have d6 := da0 (x1 := x1) r0 a9 a2 
       refine fw rfl rfl (mc rfl rfl (aq (TR.clo aa.t r0) (aq rfl (aq (TR.clo am.t a9) (aq (TR.clo am.t a2) bg)))) d6) (af (v := vb (jt x0 x1 (ix x2 a0) a1)) rfl rfl (lr rfl rfl rfl rfl) ?_)
       exact wD k rfl
      ·intro k
       refine mh rfl rfl (mh rfl rfl (mh rfl rfl (mh rfl rfl (mh rfl rfl (mh rfl rfl (mh rfl rfl (mh rfl rfl (af (v := vb true) rfl rfl (lr rfl rfl rfl rfl) ?_))))))))
       exact wD k rfl
     exact gK rfl rfl rfl rfl rfl k
   refine nS ?_
   refine co hres rfl ?_ ?_ <;> clear hres <;> intro c hres <;> try simp only [qa] at c
   ·refine sR (mV rfl (mV rfl ?_))
    obtain ⟨c7, d9, b8⟩ := cr (i := a0) r2 (by first | omega | (have hk := bc (by assumption) (by assumption); omega) | (have hk := tck (by assumption) (by assumption); omega) | (have hk := rtck (by assumption) (by assumption); omega) | (have hk := eck (by assumption) (by assumption) (by assumption); omega) | (have hk := tv (by assumption) (by assumption); omega) | (have hk := rtv (by assumption) (by assumption); omega)) (by first | omega | (have hk := bc (by assumption) (by assumption); omega) | (have hk := tck (by assumption) (by assumption); omega) | (have hk := rtck (by assumption) (by assumption); omega) | (have hk := eck (by assumption) (by assumption) (by assumption); omega) | (have hk := tv (by assumption) (by assumption); omega) | (have hk := rtv (by assumption) (by assumption); omega))
    refine ab (bn rfl rfl d9) (lD b8 rfl rfl rfl ?_)
    refine cz (k := 0) (v := c7) M0 rfl rfl rfl (TR.cnt am.t b8) (fun d3 b9 => ?_)
    replace b9 : Mem d3 [⟨.op a7 a5 0, 44, 5, [c7]⟩, ⟨.op a6 a8 0, 44, 5, [.agg [vi 0, nilS, vi 0, vi 0, nilS]]⟩] := b9
    refine nS (ai (mB rfl (aw (dc (ah (ai (mV rfl (bN dz rfl rfl ?_))))))))
    refine mV rfl (aw (cq ?_))
    have hbd := dm r2
    have hinc : wr (a0 + 1) = a0 + 1 := dt (by omega) (by omega)
    erw [hinc]
    exact wC (ih  b8 (by omega) (by omega) (Mem.sub b9 (.cons_cons _ (.cons_cons _ .slnil))) hres) rfl
   ·refine az (dc (ah (ai (mV rfl (bN dz rfl rfl (mV rfl (aw (cq ?_))))))))
    have hbd := dm r2
    have hinc : wr (a0 + 1) = a0 + 1 := dt (by omega) (by omega)
    erw [hinc]
    exact wC (ih  a2 (by omega) (by omega) (Mem.sub M0 (.cons_cons _ (.cons_cons _ .slnil))) hres) rfl
  ·refine di (dv (ct ?_))
   exact wP (e1 a2 (Mem.sub M0 (.cons_cons _ (.cons_cons _ .slnil))) hres) rfl

theorem da7 {x0 : aa} {x1 : Int} {x2 : List am} {x3 : List (BitVec 32)} {v0 v2 v3 : PV} (r0 : aa.t.R x0 v0) (r2 : (tSl am.t).R x2 v2) (r3 : (tSl kg).R x3 v3) : ∃ c0, FnR Tryz.prog 13 [v0, vi x1, v2, v3] (.tup [c0, vb ((kb x0 x1 x2 x3).2)]) ∧ am.t.R (kb x0 x1 x2 x3).1 c0 := by
 obtain ⟨res, hres⟩ : ∃ res, kb x0 x1 x2 x3 = res := ⟨_, rfl⟩
 suffices H : RC Tryz.prog de5 [] (QR Tryz.prog [(8, some (5, true)), (9, none)] (RF13 res)) (argE 0 [v0, vi x1, v2, v3]) ⟨0, []⟩ by
  rw [hres]
  obtain ⟨r, h1, c0, rfl, b5⟩ := fnE cy0 (by simp) H
  exact ⟨c0, h1, b5⟩
 unfold kb at hres
 refine sR (ab (db rfl (TR.cnt aa.t r0)) ?_)
 refine dk (x := .agg [vi 0, nilS, vi 0, vi 0, nilS]) (Mem.nil ⟨0, []⟩) rfl rfl (fun a6 a9 b8 b4 => ?_)
 refine mB rfl (nR (ab (v := .agg [vi 0, nilS, vi 0, vi 0, nilS]) (nj (cs := [vi 0, nilS, vi 0, vi 0, nilS]) rfl rfl) ?_))
 refine dk (x := .agg [vi 0, nilS, vi 0, vi 0, nilS]) b4 rfl rfl (fun a7 a5 b9 b1 => ?_)
 refine cz (k := 0) (v := .agg [vi 0, nilS, vi 0, vi 0, nilS]) b1 rfl rfl rfl rfl (fun b3 a2 => ?_)
 replace a2 : Mem b3 [⟨.op a7 a5 0, 44, 5, [.agg [vi 0, nilS, vi 0, vi 0, nilS]]⟩, ⟨.op a6 a9 0, 44, 5, [.agg [vi 0, nilS, vi 0, vi 0, nilS]]⟩] := a2
 refine nR (mB rfl (nS (ae (sR (mI rfl (nS (bh ?_)))))))
 have b7 : am.t.R ({ ID := 0, Entry := ({ Keys := ([] : List ay), Priority := 0, Call := ({ Action := 0, Args := ([] : List (BitVec 32)) } : av) } : au) } : am) (.agg [vi 0, nilS, vi 0, vi 0, nilS]) := ⟨nilS, nilS, rfl, gq, gq⟩
 refine wC (yx r0 r2 r3 ?_  (show am.t.R ({ ID := 0, Entry := ({ Keys := ([] : List ay), Priority := 0, Call := ({ Action := 0, Args := ([] : List (BitVec 32)) } : av) } : au) } : am) (.agg [vi 0, nilS, vi 0, vi 0, nilS]) from ⟨nilS, nilS, rfl, gq, gq⟩) rfl (by omega) (Mem.sub a2 (.cons_cons _ (.cons_cons _ .slnil))) hres) rfl
 ·intro b0 a4 a1 a0 b6 a8 hres
  refine fa (ah (sR (ab (gi (k := 0) a8 rfl rfl (TR.agg am.t a0)) (mV rfl ?_))))
  refine cz (k := 1) (v := a1) a8 rfl rfl rfl (TR.cnt am.t a0) (fun b2 a3 => ?_)
  replace a3 : Mem b2 [⟨.op a7 a5 0, 44, 5, [a1]⟩, ⟨.op a6 a9 0, 44, 5, [a1]⟩] := a3
  refine mV rfl (nS ?_)
  subst hres
  exact fc (.cell rfl (ga (k := 1) a3 rfl (TR.agg am.t a0)) (.tmp rfl .nil)) (cj (show closed (.tup _) = true from (aq (TR.clo am.t a0) (aq rfl bg)))) ⟨a1, rfl, a0⟩

def RF49 (res : Bool) (r : PV) : Prop := r = vb res
theorem vq {S : List Fr} {res : Bool} {x0 : au} {x1 : au} {v0 v1 : PV} (r0 : au.t.R x0 v0) (r1 : au.t.R x1 v1) (a3 : ((!decide ((x0.Keys.length : Int) = (x1.Keys.length : Int))) || (!decide (x0.Priority = x1.Priority))) = false) {K0 : Unit → Bool}
  (c3 : K0 () = res → PX Tryz.prog 0 S (QR Tryz.prog [(4, none)] (RF49 res)) [] ⟨0, []⟩) :
  ∀ {m : Nat} {a0 : Int} (b5 : m = Int.toNat ((x0.Keys.length : Int) - a0)) (a8 : 0 ≤ a0), fu x0 x1 K0 m a0 = res → RC Tryz.prog (.loop cm8) S (QR Tryz.prog [(4, none)] (RF49 res)) [(5, vi a0), (3, .fp v1), (2, .fp v0)] ⟨0, []⟩ := by
 have a1 := a3
 try simp only [qa] at a1
 intro m
 induction m with
 | zero =>
  intro a0 b5 a8 hres
  rw [fu] at hres
  refine br (ae (sR (mV rfl ?_)))
  obtain ⟨b9, b2, a5⟩ := au.g_Keys r0
  refine fA rfl b2 (lD a5 rfl rfl rfl (ab (ca rfl (bq a5 Tryz.underlying38 _)) (bN ck rfl rfl (nS ?_))))
  refine bf rfl ?_ ?_ <;> intro c <;> try simp only [qa] at c
  ·omega
  refine di (dv (ct ?_))
  exact wP (c3  hres) rfl
 | succ m ih =>
  intro a0 b5 a8 hres
  rw [fu] at hres
  refine br (ae (sR (mV rfl ?_)))
  obtain ⟨b6, b3, a2⟩ := au.g_Keys r0
  refine fA rfl b3 (lD a2 rfl rfl rfl (ab (ca rfl (bq a2 Tryz.underlying38 _)) (bN ck rfl rfl (nS ?_))))
  refine bf rfl ?_ ?_ <;> intro c <;> try simp only [qa] at c
  rotate_left
  ·omega
  refine az (ah (ae (bh (sR ?_))))
  obtain ⟨b8, b1, a7⟩ := au.g_Keys r0
  refine fA rfl b1 (lD a7 rfl rfl rfl (mV rfl ?_))
  obtain ⟨b7, b0, a4⟩ := cr (i := a0) a7 (by first | omega | (have hk := bc (by assumption) (by assumption); omega) | (have hk := tck (by assumption) (by assumption); omega) | (have hk := rtck (by assumption) (by assumption); omega) | (have hk := eck (by assumption) (by assumption) (by assumption); omega) | (have hk := tv (by assumption) (by assumption); omega) | (have hk := rtv (by assumption) (by assumption); omega)) (by first | omega | (have hk := bc (by assumption) (by assumption); omega) | (have hk := tck (by assumption) (by assumption); omega) | (have hk := rtck (by assumption) (by assumption); omega) | (have hk := eck (by assumption) (by assumption) (by assumption); omega) | (have hk := tv (by assumption) (by assumption); omega) | (have hk := rtv (by assumption) (by assumption); omega))
  refine ab (bn rfl rfl b0) (lD a4 rfl rfl rfl (gL (au.g_Keys r1) rfl rfl rfl fun c1 b4 => (mV rfl ?_)))
  obtain ⟨c0, a9, a6⟩ := cr (i := a0) b4 (by first | omega | (have hk := bc (by assumption) (by assumption); omega) | (have hk := tck (by assumption) (by assumption); omega) | (have hk := rtck (by assumption) (by assumption); omega) | (have hk := eck (by assumption) (by assumption) (by assumption); omega) | (have hk := tv (by assumption) (by assumption); omega) | (have hk := rtv (by assumption) (by assumption); omega)) (by first | omega | (have hk := bc (by assumption) (by assumption); omega) | (have hk := tck (by assumption) (by assumption); omega) | (have hk := rtck (by assumption) (by assumption); omega) | (have hk := eck (by assumption) (by assumption) (by assumption); omega) | (have hk := tv (by assumption) (by assumption); omega) | (have hk := rtv (by assumption) (by assumption); omega))
  refine ab (bn rfl rfl a9) (lD a6 rfl rfl rfl (bN (ay.neq_127 a4 a6) rfl rfl (nS ?_)))
  refine co hres rfl ?_ ?_ <;> clear hres <;> intro c hres <;> try simp only [qa] at c
  ·refine sR (mB rfl (nS ?_))
   exact rR hres rfl rfl rfl
  ·refine az (dc (ah (ai (mV rfl (bN dz rfl rfl (mV rfl (aw (cq ?_))))))))
   have hbd := dm a2
   have hinc : wr (a0 + 1) = a0 + 1 := dt (by omega) (by omega)
   erw [hinc]
   exact wC (ih   (by omega) (by omega) hres) rfl

theorem bw5 {x0 : au} {x1 : au} {v0 v1 : PV} (r0 : au.t.R x0 v0) (r1 : au.t.R x1 v1) : FnR Tryz.prog 49 [v0, v1] (vb (gx x0 x1)) := by
 refine fnS (R := RF49) dg2 (fun _ h => h) rfl fun res hres => ?_
 unfold gx at hres
 refine sR (ab (db rfl (TR.cnt au.t r0)) (ab (db rfl (TR.cnt au.t r1)) (mB rfl (nS (ae (sR (gL (au.g_Keys r0) rfl rfl rfl fun a7 a6 => (ab (ca rfl (bq a6 Tryz.underlying38 _)) ?_))))))))
 obtain ⟨a8, a5, a3⟩ := au.g_Keys r1
 refine fA rfl a5 (lD a3 rfl rfl rfl (ab (ca rfl (bq a3 Tryz.underlying38 _)) (bN jc rfl rfl (mV rfl ?_))))
 refine bt 6 (d := 19) (v := vb ((!decide ((x0.Keys.length : Int) = (x1.Keys.length : Int))) || (!decide (x0.Priority = x1.Priority)))) ?_ ?_
 ·intro S Q r
  cases a4 : (!decide ((x0.Keys.length : Int) = (x1.Keys.length : Int)))
  ·intro k
   have a1 := a4
   try simp only [qa] at a1
   refine af rfl rfl (bb rfl (au.g_Priority r0)) (af rfl rfl (ba rfl rfl rfl) (af rfl rfl (bb rfl (au.g_Priority r1)) (af rfl rfl (ba rfl rfl rfl) (af rfl rfl (bd rfl rfl jc) ?_))))
   exact gK rfl rfl rfl rfl rfl k
  ·exact gN 5 rfl rfl rfl rfl rfl rfl
 refine nS ?_
 refine co hres rfl ?_ ?_ <;> clear hres <;> intro a0 hres <;> have a2 := a0 <;> try simp only [qa] at a2
 ·refine sR (mB rfl (nS ?_))
  exact rR hres rfl rfl rfl
 ·refine az (ah (ae (sR (mI rfl (nS (bh ?_))))))
  refine wC (vq r0 r1 a0 ?_  rfl (by omega) hres) rfl
  ·intro  hres
   refine fa (ah (sR (mB rfl (nS ?_))))
   exact rR hres rfl rfl rfl

def RF72 (res : Bool) (r : PV) : Prop := r = vb res
theorem sy {S : List Fr} {res : Bool} {x0 : av} {x1 : av} {v0 v1 : PV} (r0 : av.t.R x0 v0) (r1 : av.t.R x1 v1) (a2 : ((!decide (x0.Action = x1.Action)) || (!decide ((x0.Args.length : Int) = (x1.Args.length : Int)))) = false) {K0 : Unit → Bool}
  (b3 : K0 () = res → PX Tryz.prog 0 S (QR Tryz.prog [(4, none)] (RF72 res)) [] ⟨0, []⟩) :
  ∀ {m : Nat} {a0 : Int} (a8 : m = Int.toNat ((x0.Args.length : Int) - a0)) (a3 : 0 ≤ a0), ij x0 x1 K0 m a0 = res → RC Tryz.prog (.loop cq4) S (QR Tryz.prog [(4, none)] (RF72 res)) [(5, vi a0), (3, .fp v1), (2, .fp v0)] ⟨0, []⟩ := by
 have a1 := a2
 try simp only [qa] at a1
 intro m
 induction m with
 | zero =>
  intro a0 a8 a3 hres
  rw [ij] at hres
  refine br (ae (sR (mV rfl (gL (av.g_Args r0) rfl rfl rfl fun b2 a6 => (ab (ca rfl (bq a6 Tryz.underlying33 _)) (bN ck rfl rfl (nS ?_)))))))
  refine bf rfl ?_ ?_ <;> intro c <;> try simp only [qa] at c
  ·omega
  refine di (dv (ct ?_))
  exact wP (b3  hres) rfl
 | succ m ih =>
  intro a0 a8 a3 hres
  rw [ij] at hres
  refine br (ae (sR (mV rfl (gL (av.g_Args r0) rfl rfl rfl fun a9 a4 => (ab (ca rfl (bq a4 Tryz.underlying33 _)) (bN ck rfl rfl (nS ?_)))))))
  refine bf rfl ?_ ?_ <;> intro c <;> try simp only [qa] at c
  rotate_left
  ·omega
  refine az (ah (ae (bh (sR (gL (av.g_Args r0) rfl rfl rfl fun b1 a7 => (mV rfl (ab (bn rfl rfl (zr a7 (by first | omega | (have hk := bc (by assumption) (by assumption); omega) | (have hk := tck (by assumption) (by assumption); omega) | (have hk := rtck (by assumption) (by assumption); omega) | (have hk := eck (by assumption) (by assumption) (by assumption); omega) | (have hk := tv (by assumption) (by assumption); omega) | (have hk := rtv (by assumption) (by assumption); omega)) (by first | omega | (have hk := bc (by assumption) (by assumption); omega) | (have hk := tck (by assumption) (by assumption); omega) | (have hk := rtck (by assumption) (by assumption); omega) | (have hk := eck (by assumption) (by assumption) (by assumption); omega) | (have hk := tv (by assumption) (by assumption); omega) | (have hk := rtv (by assumption) (by assumption); omega)))) (lR rfl rfl rfl ?_))))))))
  refine gL (av.g_Args r1) rfl rfl rfl fun b0 a5 => (mV rfl (ab (bn rfl rfl (zr a5 (by first | omega | (have hk := bc (by assumption) (by assumption); omega) | (have hk := tck (by assumption) (by assumption); omega) | (have hk := rtck (by assumption) (by assumption); omega) | (have hk := eck (by assumption) (by assumption) (by assumption); omega) | (have hk := tv (by assumption) (by assumption); omega) | (have hk := rtv (by assumption) (by assumption); omega)) (by first | omega | (have hk := bc (by assumption) (by assumption); omega) | (have hk := tck (by assumption) (by assumption); omega) | (have hk := rtck (by assumption) (by assumption); omega) | (have hk := eck (by assumption) (by assumption) (by assumption); omega) | (have hk := tv (by assumption) (by assumption); omega) | (have hk := rtv (by assumption) (by assumption); omega)))) (lR rfl rfl rfl (ab (bd (a := da (ix x0.Args a0)) (b := da (ix x1.Args a0)) rfl rfl af7) (nS ?_)))))
  refine co hres rfl ?_ ?_ <;> clear hres <;> intro c hres <;> try simp only [qa] at c
  ·refine sR (mB rfl (nS ?_))
   exact rR hres rfl rfl rfl
  ·refine az (dc (ah (ai (mV rfl (bN dz rfl rfl (mV rfl (aw (cq ?_))))))))
   have hbd := dm a4
   have hinc : wr (a0 + 1) = a0 + 1 := dt (by omega) (by omega)
   erw [hinc]
   exact wC (ih   (by omega) (by omega) hres) rfl

theorem di6 {x0 : av} {x1 : av} {v0 v1 : PV} (r0 : av.t.R x0 v0) (r1 : av.t.R x1 v1) : FnR Tryz.prog 72 [v0, v1] (vb (ma x0 x1)) := by
 refine fnS (R := RF72) df2 (fun _ h => h) rfl fun res hres => ?_
 unfold ma at hres
 refine sR (ab (db rfl (TR.cnt av.t r0)) (ab (db rfl (TR.cnt av.t r1)) (mB rfl (nS (ae (sR (fL rfl (av.g_Action r0) rfl rfl (fL rfl (av.g_Action r1) rfl rfl ?_))))))))
 refine bN jc rfl rfl (mV rfl ?_)
 refine bt 8 (d := 19) (v := vb ((!decide (x0.Action = x1.Action)) || (!decide ((x0.Args.length : Int) = (x1.Args.length : Int))))) ?_ ?_
 ·intro S Q r
  cases a5 : (!decide (x0.Action = x1.Action))
  ·intro k
   have a2 := a5
   try simp only [qa] at a2
   obtain ⟨a9, a6, a3⟩ := av.g_Args r0
   refine af rfl rfl (bb rfl a6) (af rfl rfl (ba rfl (TR.cnt (tSl kg) a3) (TR.agg (tSl kg) a3)) (af rfl rfl (ca rfl (bq a3 Tryz.underlying33 _)) ?_))
   obtain ⟨a8, a7, a1⟩ := av.g_Args r1
   refine af rfl rfl (bb rfl a7) (af rfl rfl (ba rfl (TR.cnt (tSl kg) a1) (TR.agg (tSl kg) a1)) (af rfl rfl (ca rfl (bq a1 Tryz.underlying33 _)) (af rfl rfl (bd rfl rfl jc) ?_)))
   exact gK rfl rfl rfl rfl rfl k
  ·exact gN 7 rfl rfl rfl rfl rfl rfl
 refine nS ?_
 refine co hres rfl ?_ ?_ <;> clear hres <;> intro a0 hres <;> have a4 := a0 <;> try simp only [qa] at a4
 ·refine sR (mB rfl (nS ?_))
  exact rR hres rfl rfl rfl
 ·refine az (ah (ae (sR (mI rfl (nS (bh ?_))))))
  refine wC (sy r0 r1 a0 ?_  rfl (by omega) hres) rfl
  ·intro  hres
   refine fa (ah (sR (mB rfl (nS ?_))))
   exact rR hres rfl rfl rfl

def RF38 (res : Bool) (r : PV) : Prop := r = vb res
theorem de8 {x0 : au} {x1 : au} {v0 v1 : PV} (r0 : au.t.R x0 v0) (r1 : au.t.R x1 v1) : FnR Tryz.prog 38 [v0, v1] (vb (pu x0 x1)) := by
 refine fnS (R := RF38) dl2 (fun _ h => h) rfl fun res hres => ?_
 unfold pu at hres
 refine sR (ab (db rfl (TR.cnt au.t r0)) (ab (db rfl (TR.cnt au.t r1)) (mB rfl (nR (lD r0 rfl rfl rfl (lD r1 rfl rfl rfl ?_))))))
 obtain ⟨a6, a5, hres⟩ := cy hres
 have a4 := bw5  r0 r1 
 rw [a5] at a4
 refine cL a4 rfl rfl (aq (TR.clo au.t r0) (aq (TR.clo au.t r1) bg)) (mV rfl ?_)
 refine bt 6 (d := 14) (v := vb (a6 && (ma x0.Call x1.Call))) ?_ ?_
 ·intro S Q r
  cases a3 : a6
  ·exact gN 5 rfl rfl rfl rfl rfl rfl
  ·intro k
   have a2 := a3
   try simp only [qa] at a2
   obtain ⟨b0, a8, a0⟩ := au.g_Call r0
   refine af rfl rfl (bb rfl a8) (af rfl rfl (ba rfl (TR.cnt av.t a0) (TR.agg av.t a0)) ?_)
   obtain ⟨b1, a9, a1⟩ := au.g_Call r1
   refine af rfl rfl (bb rfl a9) (af rfl rfl (ba rfl (TR.cnt av.t a1) (TR.agg av.t a1)) ?_)
   have a7 := di6  a0 a1 
   refine fw rfl rfl (mc rfl rfl (aq (TR.clo av.t a0) (aq (TR.clo av.t a1) bg)) a7) ?_
   exact gK rfl rfl rfl rfl rfl k
 refine mV rfl (nS ?_)
 exact rR hres rfl rfl rfl

def RF14 (res : Bool) (r : PV) : Prop := r = vb res
theorem db1 {x0 : am} {x1 : am} {v0 v1 : PV} (r0 : am.t.R x0 v0) (r1 : am.t.R x1 v1) : FnR Tryz.prog 14 [v0, v1] (vb (qv x0 x1)) := by
 refine fnS (R := RF14) dg7 (fun _ h => h) rfl fun res hres => ?_
 unfold qv at hres
 refine sR (ab (db rfl (TR.cnt am.t r0)) (ab (db rfl (TR.cnt am.t r1)) (mB rfl (nR (fL rfl (am.g_ID r0) rfl rfl (fL rfl (am.g_ID r1) rfl rfl (bN ld rfl rfl (mV rfl ?_))))))))
 refine bt 6 (d := 16) (v := vb ((decide (x0.ID = x1.ID)) && (pu x0.Entry x1.Entry))) ?_ ?_
 ·intro S Q r
  cases a3 : (decide (x0.ID = x1.ID))
  ·exact gN 5 rfl rfl rfl rfl rfl rfl
  ·intro k
   have a2 := a3
   try simp only [qa] at a2
   obtain ⟨a8, a4, a1⟩ := am.g_Entry r0
   refine af rfl rfl (bb rfl a4) (af rfl rfl (ba rfl (TR.cnt au.t a1) (TR.agg au.t a1)) ?_)
   obtain ⟨a7, a6, a0⟩ := am.g_Entry r1
   refine af rfl rfl (bb rfl a6) (af rfl rfl (ba rfl (TR.cnt au.t a0) (TR.agg au.t a0)) ?_)
   have a5 := de8  a1 a0 
   refine fw rfl rfl (mc rfl rfl (aq (TR.clo au.t a1) (aq (TR.clo au.t a0) bg)) a5) ?_
   exact gK rfl rfl rfl rfl rfl k
 refine mV rfl (nS ?_)
 exact rR hres rfl rfl rfl

def RF118 (res : Bool) (r : PV) : Prop := r = vb res
theorem bi3 {x0 : UInt8} : FnR Tryz.prog 118 [vu8 x0] (vb (lm x0)) := by
 refine fnS (R := RF118) cd0 (fun _ h => h) rfl fun res hres => ?_
 unfold lm at hres
 refine sR (mB rfl (nR (mV rfl (ab (bd (a := vu8 x0) (b := vu8 (97 : UInt8)) rfl rfl al1) (mV rfl ?_)))))
 refine bt 3 (d := 8) (v := vb ((decide ((97 : UInt8) ≤ x0)) && (decide (x0 ≤ (122 : UInt8))))) ?_ ?_
 ·intro S Q r
  cases a5 : (decide ((97 : UInt8) ≤ x0))
  ·exact gN 2 rfl rfl rfl rfl rfl rfl
  ·intro k
   have a2 := a5
   try simp only [qa] at a2
   refine af rfl rfl (ak rfl) (af rfl rfl (bd (a := vu8 x0) (b := vu8 (122 : UInt8)) rfl rfl ai0) ?_)
   exact gK rfl rfl rfl rfl rfl k
 refine mV rfl ?_
 refine bt 7 (d := 16) (v := vb (((decide ((97 : UInt8) ≤ x0)) && (decide (x0 ≤ (122 : UInt8)))) || ((decide ((65 : UInt8) ≤ x0)) && (decide (x0 ≤ (90 : UInt8)))))) ?_ ?_
 ·intro S Q r
  cases a3 : ((decide ((97 : UInt8) ≤ x0)) && (decide (x0 ≤ (122 : UInt8))))
  ·intro k
   have a1 := a3
   try simp only [qa] at a1
   refine af rfl rfl (ak rfl) (af rfl rfl (bd (a := vu8 x0) (b := vu8 (65 : UInt8)) rfl rfl al1) (af rfl rfl (ak rfl) ?_))
   refine bt 3 (d := 15) (v := vb ((decide ((65 : UInt8) ≤ x0)) && (decide (x0 ≤ (90 : UInt8))))) ?_ ?_
   ·intro S Q r
    cases a4 : (decide ((65 : UInt8) ≤ x0))
    ·intro k
     refine mh rfl rfl (mh rfl rfl (af (v := vb false) rfl rfl (lr rfl rfl rfl rfl) ?_))
     exact wD k rfl
    ·intro k
     have a0 := a4
     try simp only [qa] at a0
     refine af rfl rfl (ak rfl) (af rfl rfl (bd (a := vu8 x0) (b := vu8 (90 : UInt8)) rfl rfl ai0) (af (v := vb (decide (x0 ≤ (90 : UInt8)))) rfl rfl (lr rfl rfl rfl rfl) ?_))
     exact wD k rfl
   exact gK rfl rfl rfl rfl rfl k
  ·exact gN 6 rfl rfl rfl rfl rfl rfl
 refine mV rfl (nS ?_)
 exact rR hres rfl rfl rfl

def RF119 (res : Bool) (r : PV) : Prop := r = vb res
theorem cr1 {x0 : UInt8} : FnR Tryz.prog 119 [vu8 x0] (vb (nk x0)) := by
 refine fnS (R := RF119) cr0 (fun _ h => h) rfl fun res hres => ?_
 unfold nk at hres
 refine sR (mB rfl (nR (mV rfl (ab (bd (a := vu8 x0) (b := vu8 (48 : UInt8)) rfl rfl al1) (mV rfl ?_)))))
 refine bt 3 (d := 8) (v := vb ((decide ((48 : UInt8) ≤ x0)) && (decide (x0 ≤ (57 : UInt8))))) ?_ ?_
 ·intro S Q r
  cases a1 : (decide ((48 : UInt8) ≤ x0))
  ·exact gN 2 rfl rfl rfl rfl rfl rfl
  ·intro k
   have a0 := a1
   try simp only [qa] at a0
   refine af rfl rfl (ak rfl) (af rfl rfl (bd (a := vu8 x0) (b := vu8 (57 : UInt8)) rfl rfl ai0) ?_)
   exact gK rfl rfl rfl rfl rfl k
 refine mV rfl (nS ?_)
 exact rR hres rfl rfl rfl

def RF88 (res : Bool) (r : PV) : Prop := r = vb res
theorem ro {S : List Fr} {res : Bool} {x0 : List UInt8} (a9 : (((decide (x0 = ([] : List UInt8))) || (decide (16 < (x0.length : Int)))) || (!(lm (ix x0 0)))) = false) {K0 : Unit → Bool}
  (b3 : K0 () = res → PX Tryz.prog 0 S (QR Tryz.prog [(2, none)] (RF88 res)) [] ⟨0, []⟩) :
  ∀ {m : Nat} {a0 : Int} (b2 : m = Int.toNat ((x0.length : Int) - a0)) (b0 : 0 ≤ a0), gg x0 K0 m a0 = res → RC Tryz.prog (.loop cd7) S (QR Tryz.prog [(2, none)] (RF88 res)) [(3, vi a0), (0, vs x0)] ⟨0, []⟩ := by
 have a4 := a9
 try simp only [qa] at a4
 intro m
 induction m with
 | zero =>
  intro a0 b2 b0 hres
  rw [gg] at hres
  refine br (ae (sR (mV rfl (mV rfl (ab (ca rfl (mu Tryz.underlying9)) (bN ck rfl rfl (nS ?_)))))))
  refine bf rfl ?_ ?_ <;> intro c <;> try simp only [qa] at c
  ·omega
  refine di (dv (ct ?_))
  exact wP (b3  hres) rfl
 | succ m ih =>
  intro a0 b2 b0 hres
  rw [gg] at hres
  refine br (ae (sR (mV rfl (mV rfl (ab (ca rfl (mu Tryz.underlying9)) (bN ck rfl rfl (nS ?_)))))))
  refine bf rfl ?_ ?_ <;> intro c <;> try simp only [qa] at c
  rotate_left
  ·omega
  refine az (ah (ae (bh (sR (mV rfl (mV rfl (ab (pn rfl rfl (td Tryz.underlying9 (by first | omega | (have hp := List.length_pos_iff.2 (And.left (by assumption : ¬x0 = [] ∧ _)); omega)) (by first | omega | (have hp := List.length_pos_iff.2 (And.left (by assumption : ¬x0 = [] ∧ _)); omega)))) ?_)))))))
  obtain ⟨a1, a6, hres⟩ := cy hres
  have a5 := bi3 (x0 := (ix x0 a0))  
  rw [a6] at a5
  refine cL a5 rfl rfl (aq rfl bg) (ab (ft rfl) (mV rfl ?_))
  refine bt 6 (d := 34) (v := vb ((!a1) && (!(nk (ix x0 a0))))) ?_ ?_
  ·intro S Q r
   cases a8 : (!a1)
   ·exact gN 5 rfl rfl rfl rfl rfl rfl
   ·intro k
    have a2 := a8
    try simp only [qa] at a2
    refine af rfl rfl (ak rfl) (af rfl rfl (ak rfl) (af rfl rfl (pn rfl rfl (td Tryz.underlying9 (by first | omega | (have hp := List.length_pos_iff.2 (And.left (by assumption : ¬x0 = [] ∧ _)); omega)) (by first | omega | (have hp := List.length_pos_iff.2 (And.left (by assumption : ¬x0 = [] ∧ _)); omega)))) ?_))
    have b1 := cr1 (x0 := (ix x0 a0))  
    refine fw rfl rfl (mc rfl rfl (aq rfl bg) b1) (af rfl rfl (ft rfl) ?_)
    exact gK rfl rfl rfl rfl rfl k
  refine mV rfl ?_
  refine bt 5 (d := 40) (v := vb (((!a1) && (!(nk (ix x0 a0)))) && (!decide ((ix x0 a0) = (95 : UInt8))))) ?_ ?_
  ·intro S Q r
   cases a7 : ((!a1) && (!(nk (ix x0 a0))))
   ·exact gN 4 rfl rfl rfl rfl rfl rfl
   ·intro k
    have a3 := a7
    try simp only [qa] at a3
    refine af rfl rfl (ak rfl) (af rfl rfl (ak rfl) (af rfl rfl (pn rfl rfl (td Tryz.underlying9 (by first | omega | (have hp := List.length_pos_iff.2 (And.left (by assumption : ¬x0 = [] ∧ _)); omega)) (by first | omega | (have hp := List.length_pos_iff.2 (And.left (by assumption : ¬x0 = [] ∧ _)); omega)))) (af rfl rfl (bd (a := vu8 (ix x0 a0)) (b := vu8 (95 : UInt8)) rfl rfl dn6) ?_)))
    exact gK rfl rfl rfl rfl rfl k
  refine nS ?_
  refine co hres rfl ?_ ?_ <;> clear hres <;> intro c hres <;> try simp only [qa] at c
  ·refine sR (mB rfl (nS ?_))
   exact rR hres rfl rfl rfl
  ·refine az (dc (ah (ai (mV rfl (bN dz rfl rfl (mV rfl (aw (cq ?_))))))))
   have hinc : wr (a0 + 1) = a0 + 1 := dt (by omega) (by omega)
   erw [hinc]
   exact wC (ih   (by omega) (by omega) hres) rfl

theorem dk4 {x0 : List UInt8} : FnR Tryz.prog 88 [vs x0] (vb (kt x0)) := by
 refine fnS (R := RF88) db3 (fun _ h => h) rfl fun res hres => ?_
 unfold kt at hres
 refine sR (mB rfl (nS (ae (sR (mV rfl (ab (bd (a := vs x0) (b := vs ([] : List UInt8)) rfl rfl cl1) (mV rfl ?_)))))))
 refine bt 4 (d := 10) (v := vb ((decide (x0 = ([] : List UInt8))) || (decide (16 < (x0.length : Int))))) ?_ ?_
 ·intro S Q r
  cases a5 : (decide (x0 = ([] : List UInt8)))
  ·intro k
   have a2 := a5
   try simp only [qa] at a2
   refine af rfl rfl (ak rfl) (af rfl rfl (ca rfl (mu Tryz.underlying9)) (af rfl rfl (bd rfl rfl gb) ?_))
   exact gK rfl rfl rfl rfl rfl k
  ·exact gN 3 rfl rfl rfl rfl rfl rfl
 refine mV rfl ?_
 refine bt 5 (d := 16) (v := vb (((decide (x0 = ([] : List UInt8))) || (decide (16 < (x0.length : Int)))) || (!(lm (ix x0 0))))) ?_ ?_
 ·intro S Q r
  cases a4 : ((decide (x0 = ([] : List UInt8))) || (decide (16 < (x0.length : Int))))
  ·intro k
   have a1 := a4
   try simp only [qa] at a1
   refine af rfl rfl (ak rfl) (af rfl rfl (pn rfl rfl (td (i := 0) Tryz.underlying9 (by first | omega | (have hp := List.length_pos_iff.2 (And.left (by assumption : ¬x0 = [] ∧ _)); omega)) (by first | omega | (have hp := List.length_pos_iff.2 (And.left (by assumption : ¬x0 = [] ∧ _)); omega)))) ?_)
   have a6 := bi3 (x0 := (ix x0 0))  
   refine fw rfl rfl (mc rfl rfl (aq rfl bg) a6) (af rfl rfl (ft rfl) ?_)
   exact gK rfl rfl rfl rfl rfl k
  ·exact gN 4 rfl rfl rfl rfl rfl rfl
 refine nS ?_
 refine co hres rfl ?_ ?_ <;> clear hres <;> intro a0 hres <;> have a3 := a0 <;> try simp only [qa] at a3
 ·refine sR (mB rfl (nS ?_))
  exact rR hres rfl rfl rfl
 ·refine az (ah (ae (sR (mI rfl (nS (bh ?_))))))
  refine wC (ro a0 ?_  rfl (by omega) hres) rfl
  ·intro  hres
   refine fa (ah (sR (mB rfl (nS ?_))))
   exact rR hres rfl rfl rfl

def RF62 (res : Int) (r : PV) : Prop := r = vi res
theorem cb6 {x0 : aa} {x1 : cd} {v0 v1 : PV} (r0 : aa.t.R x0 v0) (r1 : cd.t.R x1 v1) : FnR Tryz.prog 62 [v0, v1] (vi (ka x0 x1)) := by
 refine fnS (R := RF62) di0 (fun _ h => h) rfl fun res hres => ?_
 unfold ka at hres
 refine sR (ab (db rfl (TR.cnt aa.t r0)) (ab (db rfl (TR.cnt cd.t r1)) (mI rfl (nR ?_))))
 obtain ⟨d2, c1, b0⟩ := aa.g_Metadata r0
 refine fA rfl c1 (lD b0 rfl rfl rfl (mV rfl (nS (ae (sR (fL rfl (cd.g_Header r1) rfl rfl (bN od rfl rfl (nS ?_))))))))
 obtain ⟨c6, a7, hres⟩ := cy hres
 refine xm (F := fun b S Q => ∀ (a0 : List bw) (a2 : PV) (a1 : (tSl bw.t).R a0 a2), c6 a0 = res → RC Tryz.prog b S Q [(5, a2), (3, .fp v1)] ⟨0, []⟩) ?_ ?_
 ·intro a0 a2 a1  hres
  rw [← a7] at hres
  refine ae (sR (fL rfl (cd.g_Header r1) rfl rfl (bN (ck (b := -1)) rfl rfl (mV rfl ?_))))
  refine bt 4 (d := 31) (v := vb ((decide (x1.Header < (-1))) || (decide (x1.Field < 0)))) ?_ ?_
  ·intro S Q r
   cases b1 : (decide (x1.Header < (-1)))
   ·intro k
    have a3 := b1
    try simp only [qa] at a3
    refine af rfl rfl (bb rfl (cd.g_Field r1)) (af rfl rfl (ba rfl rfl rfl) (af rfl rfl (bd rfl rfl ck) ?_))
    exact gK rfl rfl rfl rfl rfl k
   ·exact gN 3 rfl rfl rfl rfl rfl rfl
  refine mV rfl ?_
  refine bt 6 (d := 38) (v := vb (((decide (x1.Header < (-1))) || (decide (x1.Field < 0))) || (decide ((a0.length : Int) ≤ x1.Field)))) ?_ ?_
  ·intro S Q r
   cases a8 : ((decide (x1.Header < (-1))) || (decide (x1.Field < 0)))
   ·intro k
    have a5 := a8
    try simp only [qa] at a5
    refine af rfl rfl (bb rfl (cd.g_Field r1)) (af rfl rfl (ba rfl rfl rfl) (af rfl rfl (ak rfl) (af rfl rfl (ca rfl (bq a1 Tryz.underlying23 _)) (af rfl rfl (bd rfl rfl od) ?_))))
    exact gK rfl rfl rfl rfl rfl k
   ·exact gN 5 rfl rfl rfl rfl rfl rfl
  refine mV rfl ?_
  refine bt 8 (d := 47) (v := vb ((((decide (x1.Header < (-1))) || (decide (x1.Field < 0))) || (decide ((a0.length : Int) ≤ x1.Field))) || (decide (((ix a0 x1.Field).Width) < 1)))) ?_ ?_
  ·intro S Q r
   cases a9 : (((decide (x1.Header < (-1))) || (decide (x1.Field < 0))) || (decide ((a0.length : Int) ≤ x1.Field)))
   ·intro k
    have a6 := a9
    try simp only [qa] at a6
    refine af rfl rfl (ak rfl) (af rfl rfl (bb rfl (cd.g_Field r1)) (af rfl rfl (ba rfl rfl rfl) ?_))
    obtain ⟨d1, b3, c3⟩ := cr (i := x1.Field) a1 (by first | omega | (have hk := bc (by assumption) (by assumption); omega) | (have hk := tck (by assumption) (by assumption); omega) | (have hk := rtck (by assumption) (by assumption); omega) | (have hk := eck (by assumption) (by assumption) (by assumption); omega) | (have hk := tv (by assumption) (by assumption); omega) | (have hk := rtv (by assumption) (by assumption); omega)) (by first | omega | (have hk := bc (by assumption) (by assumption); omega) | (have hk := tck (by assumption) (by assumption); omega) | (have hk := rtck (by assumption) (by assumption); omega) | (have hk := eck (by assumption) (by assumption) (by assumption); omega) | (have hk := tv (by assumption) (by assumption); omega) | (have hk := rtv (by assumption) (by assumption); omega))
    refine af rfl rfl (bn rfl rfl b3) (af rfl rfl (bb rfl (bw.g_Width c3)) (af rfl rfl (ba rfl rfl rfl) (af rfl rfl (bd rfl rfl ck) ?_)))
    exact gK rfl rfl rfl rfl rfl k
   ·exact gN 7 rfl rfl rfl rfl rfl rfl
  refine mV rfl ?_
  refine bt 8 (d := 56) (v := vb (((((decide (x1.Header < (-1))) || (decide (x1.Field < 0))) || (decide ((a0.length : Int) ≤ x1.Field))) || (decide (((ix a0 x1.Field).Width) < 1))) || (decide (32 < ((ix a0 x1.Field).Width))))) ?_ ?_
  ·intro S Q r
   cases b2 : ((((decide (x1.Header < (-1))) || (decide (x1.Field < 0))) || (decide ((a0.length : Int) ≤ x1.Field))) || (decide (((ix a0 x1.Field).Width) < 1)))
   ·intro k
    have a4 := b2
    try simp only [qa] at a4
    refine af rfl rfl (ak rfl) (af rfl rfl (bb rfl (cd.g_Field r1)) (af rfl rfl (ba rfl rfl rfl) ?_))
    obtain ⟨d4, c5, b6⟩ := cr (i := x1.Field) a1 (by first | omega | (have hk := bc (by assumption) (by assumption); omega) | (have hk := tck (by assumption) (by assumption); omega) | (have hk := rtck (by assumption) (by assumption); omega) | (have hk := eck (by assumption) (by assumption) (by assumption); omega) | (have hk := tv (by assumption) (by assumption); omega) | (have hk := rtv (by assumption) (by assumption); omega)) (by first | omega | (have hk := bc (by assumption) (by assumption); omega) | (have hk := tck (by assumption) (by assumption); omega) | (have hk := rtck (by assumption) (by assumption); omega) | (have hk := eck (by assumption) (by assumption) (by assumption); omega) | (have hk := tv (by assumption) (by assumption); omega) | (have hk := rtv (by assumption) (by assumption); omega))
    refine af rfl rfl (bn rfl rfl c5) (af rfl rfl (bb rfl (bw.g_Width b6)) (af rfl rfl (ba rfl rfl rfl) (af rfl rfl (bd rfl rfl gb) ?_)))
    exact gK rfl rfl rfl rfl rfl k
   ·exact gN 7 rfl rfl rfl rfl rfl rfl
  refine nS ?_
  refine co hres rfl ?_ ?_ <;> clear hres <;> intro c hres <;> try simp only [qa] at c
  ·refine sR (mI rfl (nS ?_))
   exact rR hres rfl rfl rfl
  ·refine az (ah (sR (mV rfl (fL rfl (cd.g_Field r1) rfl rfl ?_))))
   obtain ⟨c9, b7, b5⟩ := cr (i := x1.Field) a1 (by first | omega | (have hk := bc (by assumption) (by assumption); omega) | (have hk := tck (by assumption) (by assumption); omega) | (have hk := rtck (by assumption) (by assumption); omega) | (have hk := eck (by assumption) (by assumption) (by assumption); omega) | (have hk := tv (by assumption) (by assumption); omega) | (have hk := rtv (by assumption) (by assumption); omega)) (by first | omega | (have hk := bc (by assumption) (by assumption); omega) | (have hk := tck (by assumption) (by assumption); omega) | (have hk := rtck (by assumption) (by assumption); omega) | (have hk := eck (by assumption) (by assumption) (by assumption); omega) | (have hk := tv (by assumption) (by assumption); omega) | (have hk := rtv (by assumption) (by assumption); omega))
   refine ab (bn rfl rfl b7) (fL rfl (bw.g_Width b5) rfl rfl (mV rfl (nS ?_)))
   exact rR hres rfl rfl rfl
 ·intro J
  refine co hres rfl ?_ ?_ <;> clear hres <;> intro c hres <;> try simp only [qa] at c
  ·refine ae (sR (fL rfl (cd.g_Header r1) rfl rfl (gL (aa.g_Headers r0) rfl rfl rfl fun d3 c0 => (ab (ca rfl (bq c0 Tryz.underlying22 _)) (bN od rfl rfl (nS ?_))))))
   refine co hres rfl ?_ ?_ <;> clear hres <;> intro c hres <;> try simp only [qa] at c
   ·refine sR (mI rfl (nS ?_))
    exact rR hres rfl rfl rfl
   ·refine az (ah (ai (gL (aa.g_Headers r0) rfl rfl rfl fun d0 b4 => (fL rfl (cd.g_Header r1) rfl rfl ?_))))
    obtain ⟨c8, c4, b9⟩ := cr (i := x1.Header) b4 (by first | omega | (have hk := bc (by assumption) (by assumption); omega) | (have hk := tck (by assumption) (by assumption); omega) | (have hk := rtck (by assumption) (by assumption); omega) | (have hk := eck (by assumption) (by assumption) (by assumption); omega) | (have hk := tv (by assumption) (by assumption); omega) | (have hk := rtv (by assumption) (by assumption); omega)) (by first | omega | (have hk := bc (by assumption) (by assumption); omega) | (have hk := tck (by assumption) (by assumption); omega) | (have hk := rtck (by assumption) (by assumption); omega) | (have hk := eck (by assumption) (by assumption) (by assumption); omega) | (have hk := tv (by assumption) (by assumption); omega) | (have hk := rtv (by assumption) (by assumption); omega))
    refine ab (bn rfl rfl c4) (gL (cg.g_Fields b9) rfl rfl rfl fun c7 b8 => (mV rfl (aw ?_)))
    refine ah (wC (J _ _ b8  hres) rfl)
  ·refine az ?_
   refine ah (wC (J _ _ b0  hres) rfl)

def RF89 (res : Int × Int) (r : PV) : Prop := r = .tup [vi res.1, vi res.2]
theorem yw {S : List Fr} {res : Int × Int} {x0 : aa} {x1 : ax} {v0 v1 : PV} (r0 : aa.t.R x0 v0) (r1 : ax.t.R x1 v1) {K0 : Int → Int → (Int × Int)}
  (c7 : ∀ {a1 a5 : Int}, K0 a1 a5 = res → PX Tryz.prog 0 S (QR Tryz.prog [(4, none), (5, none)] (RF89 res)) [(6, vi a1), (7, vi a5)] ⟨0, []⟩) :
  ∀ {m : Nat} {a1 a5 a0 : Int} (b9 : m = Int.toNat ((x1.Keys.length : Int) - a0)) (a8 : 0 ≤ a0), gy x0 x1 K0 m a1 a5 a0 = res → RC Tryz.prog (.loop co7) S (QR Tryz.prog [(4, none), (5, none)] (RF89 res)) [(8, vi a0), (7, vi a5), (6, vi a1), (3, .fp v1), (2, .fp v0)] ⟨0, []⟩ := by
 intro m
 induction m with
 | zero =>
  intro a1 a5 a0 b9 a8 hres
  rw [gy] at hres
  refine br (ae (sR (mV rfl (gL (ax.g_Keys r1) rfl rfl rfl fun c6 b6 => (ab (ca rfl (bq b6 Tryz.underlying85 _)) (bN ck rfl rfl (nS ?_)))))))
  refine bf rfl ?_ ?_ <;> intro c <;> try simp only [qa] at c
  ·omega
  refine di (dv (ct ?_))
  exact wP (c7  hres) rfl
 | succ m ih =>
  intro a1 a5 a0 b9 a8 hres
  rw [gy] at hres
  refine br (ae (sR (mV rfl (gL (ax.g_Keys r1) rfl rfl rfl fun c3 a2 => (ab (ca rfl (bq a2 Tryz.underlying85 _)) (bN ck rfl rfl (nS ?_)))))))
  refine bf rfl ?_ ?_ <;> intro c <;> try simp only [qa] at c
  rotate_left
  ·omega
  refine az (ah (ae (bh (sR (lD r0 rfl rfl rfl (gL (ax.g_Keys r1) rfl rfl rfl fun c5 b4 => (mV rfl ?_)))))))
  obtain ⟨c8, b5, b8⟩ := cr (i := a0) b4 (by first | omega | (have hk := bc (by assumption) (by assumption); omega) | (have hk := tck (by assumption) (by assumption); omega) | (have hk := rtck (by assumption) (by assumption); omega) | (have hk := eck (by assumption) (by assumption) (by assumption); omega) | (have hk := tv (by assumption) (by assumption); omega) | (have hk := rtv (by assumption) (by assumption); omega)) (by first | omega | (have hk := bc (by assumption) (by assumption); omega) | (have hk := tck (by assumption) (by assumption); omega) | (have hk := rtck (by assumption) (by assumption); omega) | (have hk := eck (by assumption) (by assumption) (by assumption); omega) | (have hk := tv (by assumption) (by assumption); omega) | (have hk := rtv (by assumption) (by assumption); omega))
  refine ab (bn rfl rfl b5) (gL (bm.g_Field b8) rfl rfl rfl fun c0 a9 => ?_)
  obtain ⟨c9, a7, hres⟩ := cy hres
  have a6 := cb6  r0 a9 
  rw [a7] at a6
  refine cL a6 rfl rfl (aq (TR.clo aa.t r0) (aq (TR.clo cd.t a9) bg)) (mV rfl (nR (gL (ax.g_Keys r1) rfl rfl rfl fun c4 b7 => (mV rfl ?_))))
  obtain ⟨c1, b2, b3⟩ := cr (i := a0) b7 (by first | omega | (have hk := bc (by assumption) (by assumption); omega) | (have hk := tck (by assumption) (by assumption); omega) | (have hk := rtck (by assumption) (by assumption); omega) | (have hk := eck (by assumption) (by assumption) (by assumption); omega) | (have hk := tv (by assumption) (by assumption); omega) | (have hk := rtv (by assumption) (by assumption); omega)) (by first | omega | (have hk := bc (by assumption) (by assumption); omega) | (have hk := tck (by assumption) (by assumption); omega) | (have hk := rtck (by assumption) (by assumption); omega) | (have hk := eck (by assumption) (by assumption) (by assumption); omega) | (have hk := tv (by assumption) (by assumption); omega) | (have hk := rtv (by assumption) (by assumption); omega))
  refine ab (bn rfl rfl b2) (fL rfl (bm.g_Kind b3) rfl rfl (mV rfl (nS (ae (bh (sR (mV rfl (bN ld rfl rfl ?_))))))))
  refine mV rfl (nS ?_)
  refine co hres rfl ?_ ?_ <;> clear hres <;> intro c hres <;> try simp only [qa] at c
  ·refine sR (mV rfl (mV rfl (mI rfl (nS ?_))))
   exact rT hres rfl rfl rfl rfl rfl
  ·refine sR (mV rfl (bN jc rfl rfl (mV rfl ?_)))
   refine bt 3 (d := 42) (v := vb ((!decide (((ix x1.Keys a0).Kind) = 1)) && (!decide (((ix x1.Keys a0).Kind) = 2)))) ?_ ?_
   ·intro S Q r
    cases b1 : (!decide (((ix x1.Keys a0).Kind) = 1))
    ·exact gN 2 rfl rfl rfl rfl rfl rfl
    ·intro k
     have a4 := b1
     try simp only [qa] at a4
     refine af rfl rfl (ak rfl) (af rfl rfl (bd rfl rfl jc) ?_)
     exact gK rfl rfl rfl rfl rfl k
   refine mV rfl ?_
   refine bt 3 (d := 46) (v := vb (((!decide (((ix x1.Keys a0).Kind) = 1)) && (!decide (((ix x1.Keys a0).Kind) = 2))) && (!decide (((ix x1.Keys a0).Kind) = 3)))) ?_ ?_
   ·intro S Q r
    cases b0 : ((!decide (((ix x1.Keys a0).Kind) = 1)) && (!decide (((ix x1.Keys a0).Kind) = 2)))
    ·exact gN 2 rfl rfl rfl rfl rfl rfl
    ·intro k
     have a3 := b0
     try simp only [qa] at a3
     refine af rfl rfl (ak rfl) (af rfl rfl (bd rfl rfl jc) ?_)
     exact gK rfl rfl rfl rfl rfl k
   refine mV rfl (nS ?_)
   refine co hres rfl ?_ ?_ <;> clear hres <;> intro c hres <;> try simp only [qa] at c
   ·refine sR (mV rfl (mV rfl (mI rfl (nS ?_))))
    exact rT hres rfl rfl rfl rfl rfl
   ·refine sR (mV rfl (bN ld rfl rfl (mV rfl (nS ?_))))
    refine co hres rfl ?_ ?_ <;> clear hres <;> intro c hres <;> try simp only [qa] at c
    ·refine ai (mV rfl (bN dz rfl rfl (mV rfl (aw (dc (ah (ai (mV rfl ?_))))))))
     refine mV rfl (bN dz rfl rfl (mV rfl (aw (dc (ah (ai (mV rfl (bN dz rfl rfl ?_))))))))
     refine mV rfl (aw (cq ?_))
     have hbd := dm a2
     have hinc : wr (a0 + 1) = a0 + 1 := dt (by omega) (by omega)
     erw [hinc]
     exact wC (ih   (by omega) (by omega) hres) rfl
    ·refine az (dc (ah (ai (mV rfl (mV rfl (bN dz rfl rfl (mV rfl (aw ?_))))))))
     refine dc (ah (ai (mV rfl (bN dz rfl rfl (mV rfl (aw (cq ?_)))))))
     have hbd := dm a2
     have hinc : wr (a0 + 1) = a0 + 1 := dt (by omega) (by omega)
     erw [hinc]
     exact wC (ih   (by omega) (by omega) hres) rfl

theorem dl0 {x0 : aa} {x1 : ax} {v0 v1 : PV} (r0 : aa.t.R x0 v0) (r1 : ax.t.R x1 v1) : FnR Tryz.prog 89 [v0, v1] (.tup [vi ((nh x0 x1).1), vi ((nh x0 x1).2)]) := by
 refine fnS (R := RF89) dg5 (fun _ h => h) rfl fun res hres => ?_
 unfold nh at hres
 refine sR (ab (db rfl (TR.cnt aa.t r0)) (ab (db rfl (TR.cnt ax.t r1)) (mI rfl (mI rfl (nR (mI rfl (nR (mI rfl ?_))))))))
 refine nS (ae (sR (mI rfl (nS (bh ?_)))))
 refine wC (yw r0 r1 ?_  rfl (by omega) hres) rfl
 ·intro a0 a1 hres
  refine fa (ah (ae (bh (sR (mV rfl (bN gb rfl rfl (mV rfl (nS ?_))))))))
  refine co hres rfl ?_ ?_ <;> clear hres <;> intro c hres <;> try simp only [qa] at c
  ·refine sR (mI rfl (mI rfl (nS ?_)))
   exact rT hres rfl rfl rfl rfl rfl
  ·refine sR (mV rfl (bN gb rfl rfl (mV rfl (nS ?_))))
   refine co hres rfl ?_ ?_ <;> clear hres <;> intro c hres <;> try simp only [qa] at c
   ·refine sR (mI rfl (mI rfl (nS ?_)))
    exact rT hres rfl rfl rfl rfl rfl
   ·refine az (dc (ah (sR (mI rfl (mI rfl (nS ?_))))))
    exact rT hres rfl rfl rfl rfl rfl

end Go.Proofs.YthdnpgpnodgicaaGreat
