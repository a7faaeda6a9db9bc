/-
 The code of each function does what its plain program says.
-/
import Derived.Test.YthdnpgpnodgicaaGreatL4W0
set_option linter.unusedVariables false
set_option linter.unusedSimpArgs false
set_option maxRecDepth 100000
namespace Go.Proofs.YthdnpgpnodgicaaGreat
open Go Go.Pb Go.RowKit
def RF10 (res : Bool) (r : PV) : Prop := r = vb res
theorem uk {S : List Fr} {res : Bool} {x0 : cb} {a6 : Bool} {v0 : PV} (r0 : cb.t.R x0 v0) (c6 : lv x0.Program = a6) (a5 : ((a6 || (decide (30 < (x0.Rows.length : Int)))) || (decide (20 < (x0.Key.length : Int)))) = false) {K0 : Unit → Bool}
  (d8 : K0 () = res → PX Tryz.prog 0 S (QR Tryz.prog [(2, none)] (RF10 res)) [] ⟨0, []⟩) :
  ∀ {m : Nat} {a0 : Int} (c7 : m = Int.toNat ((x0.Rows.length : Int) - a0)) (a9 : 0 ≤ a0), jb x0 K0 m a0 = res → RC Tryz.prog (.loop cl9) S (QR Tryz.prog [(2, none)] (RF10 res)) [(3, vi a0), (1, .fp v0)] ⟨0, []⟩ := by
 have a3 := a5
 try simp only [qa] at a3
 intro m
 induction m with
 | zero =>
  intro a0 c7 a9 hres
  rw [jb] at hres
  refine br (ae (sR (mV rfl (gL (cb.g_Rows r0) rfl rfl rfl fun d3 c5 => (ab (ca rfl (bq c5 Tryz.underlying32 _)) (bN ck rfl rfl (nS ?_)))))))
  refine bf rfl ?_ ?_ <;> intro c <;> try simp only [qa] at c
  ·omega
  refine di (dv (ct ?_))
  exact wP (d8  hres) rfl
 | succ m ih =>
  intro a0 c7 a9 hres
  rw [jb] at hres
  refine br (ae (sR (mV rfl (gL (cb.g_Rows r0) rfl rfl rfl fun d1 a8 => (ab (ca rfl (bq a8 Tryz.underlying32 _)) (bN ck rfl rfl (nS ?_)))))))
  refine bf rfl ?_ ?_ <;> intro c <;> try simp only [qa] at c
  rotate_left
  ·omega
  refine az (ah (ae (bh (sR (gL (cb.g_Rows r0) rfl rfl rfl fun d5 b9 => (mV rfl ?_))))))
  obtain ⟨c8, b3, b6⟩ := cr (i := a0) b9 (by first | omega | (have hk := bc (by assumption) (by assumption); omega) | (have hk := tck (by assumption) (by assumption); omega) | (have hk := rtck (by assumption) (by assumption); omega) | (have hk := eck (by assumption) (by assumption) (by assumption); omega) | (have hk := tv (by assumption) (by assumption); omega) | (have hk := rtv (by assumption) (by assumption); omega)) (by first | omega | (have hk := bc (by assumption) (by assumption); omega) | (have hk := tck (by assumption) (by assumption); omega) | (have hk := rtck (by assumption) (by assumption); omega) | (have hk := eck (by assumption) (by assumption) (by assumption); omega) | (have hk := tv (by assumption) (by assumption); omega) | (have hk := rtv (by assumption) (by assumption); omega))
  refine ab (bn rfl rfl b3) ?_
  obtain ⟨d9, c4, b1⟩ := am.g_Entry b6
  refine fA rfl c4 (gL (au.g_Keys b1) rfl rfl rfl fun d6 b2 => (ab (ca rfl (bq b2 Tryz.underlying38 _)) (bN gb rfl rfl (mV rfl ?_))))
  refine bt 11 (d := 46) (v := vb ((decide (20 < ((((ix x0.Rows a0).Entry).Keys).length : Int))) || (decide (20 < (((((ix x0.Rows a0).Entry).Call).Args).length : Int))))) ?_ ?_
  ·intro S Q r
   cases a7 : (decide (20 < ((((ix x0.Rows a0).Entry).Keys).length : Int)))
   ·intro k
    have a2 := a7
    try simp only [qa] at a2
    obtain ⟨c9, c0, a4⟩ := cb.g_Rows r0
    refine af rfl rfl (bb rfl c0) (af rfl rfl (ba rfl (TR.cnt (tSl am.t) a4) (TR.agg (tSl am.t) a4)) (af rfl rfl (ak rfl) ?_))
    obtain ⟨d7, c3, b8⟩ := cr (i := a0) a4 (by first | omega | (have hk := bc (by assumption) (by assumption); omega) | (have hk := tck (by assumption) (by assumption); omega) | (have hk := rtck (by assumption) (by assumption); omega) | (have hk := eck (by assumption) (by assumption) (by assumption); omega) | (have hk := tv (by assumption) (by assumption); omega) | (have hk := rtv (by assumption) (by assumption); omega)) (by first | omega | (have hk := bc (by assumption) (by assumption); omega) | (have hk := tck (by assumption) (by assumption); omega) | (have hk := rtck (by assumption) (by assumption); omega) | (have hk := eck (by assumption) (by assumption) (by assumption); omega) | (have hk := tv (by assumption) (by assumption); omega) | (have hk := rtv (by assumption) (by assumption); omega))
    refine af rfl rfl (bn rfl rfl c3) ?_
    obtain ⟨d0, b7, b4⟩ := am.g_Entry b8
    refine af rfl rfl (bb rfl b7) ?_
    obtain ⟨d4, b5, b0⟩ := au.g_Call b4
    refine af rfl rfl (bb rfl b5) ?_
    obtain ⟨d2, c1, a1⟩ := av.g_Args b0
    refine af rfl rfl (bb rfl c1) (af rfl rfl (ba rfl (TR.cnt (tSl kg) a1) (TR.agg (tSl kg) a1)) (af rfl rfl (ca rfl (bq a1 Tryz.underlying33 _)) (af rfl rfl (bd rfl rfl gb) ?_)))
    exact gK rfl rfl rfl rfl rfl k
   ·exact gN 10 rfl rfl rfl rfl rfl rfl
  refine nS ?_
  refine co hres rfl ?_ ?_ <;> clear hres <;> intro c hres <;> try simp only [qa] at c
  ·refine sR (mB rfl (nS ?_))
   exact rR hres rfl rfl rfl
  ·refine az (dc (ah (ai (mV rfl (bN dz rfl rfl (mV rfl (aw (cq ?_))))))))
   have hbd := dm a8
   have hinc : wr (a0 + 1) = a0 + 1 := dt (by omega) (by omega)
   erw [hinc]
   exact wC (ih   (by omega) (by omega) hres) rfl

theorem cy8 {x0 : cb} {v0 : PV} (r0 : cb.t.R x0 v0) : FnR Tryz.prog 10 [v0] (vb (jy x0)) := by
 refine fnS (R := RF10) dk0 (fun _ h => h) rfl fun res hres => ?_
 unfold jy at hres
 refine sR (ab (db rfl (TR.cnt cb.t r0)) (mB rfl (nS (ae (sR ?_)))))
 obtain ⟨b5, b2, a6⟩ := cb.g_Program r0
 refine fA rfl b2 (lD a6 rfl rfl rfl ?_)
 obtain ⟨a0, a2, hres⟩ := cy hres
 have b0 := cx7  a6 
 rw [a2] at b0
 refine cL b0 rfl rfl (aq (TR.clo aa.t a6) bg) (mV rfl ?_)
 refine bt 5 (d := 12) (v := vb (a0 || (decide (30 < (x0.Rows.length : Int))))) ?_ ?_
 ·intro S Q r
  cases b1 : a0
  ·intro k
   have a3 := b1
   try simp only [qa] at a3
   obtain ⟨b7, b4, a4⟩ := cb.g_Rows r0
   refine af rfl rfl (bb rfl b4) (af rfl rfl (ba rfl (TR.cnt (tSl am.t) a4) (TR.agg (tSl am.t) a4)) (af rfl rfl (ca rfl (bq a4 Tryz.underlying32 _)) (af rfl rfl (bd rfl rfl gb) ?_)))
   exact gK rfl rfl rfl rfl rfl k
  ·exact gN 4 rfl rfl rfl rfl rfl rfl
 refine mV rfl ?_
 refine bt 5 (d := 18) (v := vb ((a0 || (decide (30 < (x0.Rows.length : Int)))) || (decide (20 < (x0.Key.length : Int))))) ?_ ?_
 ·intro S Q r
  cases a9 : (a0 || (decide (30 < (x0.Rows.length : Int))))
  ·intro k
   have a5 := a9
   try simp only [qa] at a5
   obtain ⟨b6, b3, a7⟩ := cb.g_Key r0
   refine af rfl rfl (bb rfl b3) (af rfl rfl (ba rfl (TR.cnt (tSl kg) a7) (TR.agg (tSl kg) a7)) (af rfl rfl (ca rfl (bq a7 Tryz.underlying33 _)) (af rfl rfl (bd rfl rfl gb) ?_)))
   exact gK rfl rfl rfl rfl rfl k
  ·exact gN 4 rfl rfl rfl rfl rfl rfl
 refine nS ?_
 refine co hres rfl ?_ ?_ <;> clear hres <;> intro a1 hres <;> have a8 := a1 <;> try simp only [qa] at a8
 ·refine sR (mB rfl (nS ?_))
  exact rR hres rfl rfl rfl
 ·refine az (ah (ae (sR (mI rfl (nS (bh ?_))))))
  refine wC (uk r0 a2 a1 ?_  rfl (by omega) hres) rfl
  ·intro  hres
   refine fa (ah (sR (mB rfl (nS ?_))))
   exact rR hres rfl rfl rfl

theorem ea6 : FnR Tryz.prog 11 [] (vb au5) := bg6

def RF30 (res : Bool) (r : PV) : Prop := r = vb res
theorem vp {S : List Fr} {res : Bool} {x0 : au} {x1 : List (BitVec 32)} {v1 a6 : PV} (r1 : (tSl kg).R x1 v1) (a4 : (!decide ((x1.length : Int) = (x0.Keys.length : Int))) = false) (a5 : (tSl ay.t).R x0.Keys a6) {K0 : Unit → Bool}
  (b5 : ∀ {h : Heap} (M0 : Mem h []), K0 () = res → PX Tryz.prog 0 S (QR Tryz.prog [(4, none)] (RF30 res)) [] h) :
  ∀ {m : Nat} {a0 : Int} (b4 : m = Int.toNat ((x0.Keys.length : Int) - a0)) (a7 : 0 ≤ a0) {h : Heap} (M0 : Mem h []), ib x0 x1 K0 m a0 = res → RC Tryz.prog (.loop cm5) S (QR Tryz.prog [(4, none)] (RF30 res)) [(16, vi a0), (15, vi (x0.Keys.length : Int)), (14, a6), (1, v1)] h := by
 have a3 := a4
 try simp only [qa] at a3
 intro m
 induction m with
 | zero =>
  intro a0 b4 a7 h M0 hres
  rw [ib] at hres
  refine br (sR (bN ck rfl rfl (nS (ae ?_))))
  refine bf rfl ?_ ?_ <;> intro c <;> try simp only [qa] at c
  ·omega
  refine di (dv (ct ?_))
  exact wP (b5 (Mem.sub M0 .slnil) hres) rfl
 | succ m ih =>
  intro a0 b4 a7 h M0 hres
  rw [ib] at hres
  refine br (sR (bN ck rfl rfl (nS (ae ?_))))
  refine bf rfl ?_ ?_ <;> intro c <;> try simp only [qa] at c
  rotate_left
  ·omega
  refine az (ah (ae (bh (sR (mV rfl ?_)))))
  obtain ⟨a8, b2, a2⟩ := cr (i := a0) a5 (by first | omega | (have hk := bc (by assumption) (by assumption); omega) | (have hk := tck (by assumption) (by assumption); omega) | (have hk := rtck (by assumption) (by assumption); omega) | (have hk := eck (by assumption) (by assumption) (by assumption); omega) | (have hk := tv (by assumption) (by assumption); omega) | (have hk := rtv (by assumption) (by assumption); omega)) (by first | omega | (have hk := bc (by assumption) (by assumption); omega) | (have hk := tck (by assumption) (by assumption); omega) | (have hk := rtck (by assumption) (by assumption); omega) | (have hk := eck (by assumption) (by assumption) (by assumption); omega) | (have hk := tv (by assumption) (by assumption); omega) | (have hk := rtv (by assumption) (by assumption); omega))
  refine ab (bn rfl rfl b2) (lD a2 rfl rfl rfl ?_)
  refine dk (x := .agg [da 0#32, da 0#32]) M0 rfl rfl (fun a9 b3 b6 b1 => ?_)
  refine mV rfl ?_
  refine cz (k := 0) (v := a8) b1 rfl rfl rfl (TR.cnt ay.t a2) (fun b0 a1 => ?_)
  replace a1 : Mem b0 [⟨.op a9 b3 0, 127, 2, [a8]⟩] := a1
  refine nR (mV rfl (mV rfl (ab (bn rfl rfl (zr r1 (by first | omega | (have hk := bc (by assumption) (by assumption); omega) | (have hk := tck (by assumption) (by assumption); omega) | (have hk := rtck (by assumption) (by assumption); omega) | (have hk := eck (by assumption) (by assumption) (by assumption); omega) | (have hk := tv (by assumption) (by assumption); omega) | (have hk := rtv (by assumption) (by assumption); omega)) (by first | omega | (have hk := bc (by assumption) (by assumption); omega) | (have hk := tck (by assumption) (by assumption); omega) | (have hk := rtck (by assumption) (by assumption); omega) | (have hk := eck (by assumption) (by assumption) (by assumption); omega) | (have hk := tv (by assumption) (by assumption); omega) | (have hk := rtv (by assumption) (by assumption); omega)))) (lR rfl rfl rfl (ab (bz rfl) (ab (dg (k := 0) a1 rfl rfl (ay.g_Value a2)) (ab (bd (a := da (ix x1 a0)) (b := da ((ix x0.Keys a0).Value)) rfl rfl cu4) (ab (bz rfl) ?_))))))))
  refine ab (dg (k := 0) a1 rfl rfl (ay.g_Mask a2)) (ab (bd (a := da ((ix x1 a0) ^^^ ((ix x0.Keys a0).Value))) (b := da ((ix x0.Keys a0).Mask)) rfl rfl at8) (ab (bd (a := da (((ix x1 a0) ^^^ ((ix x0.Keys a0).Value)) &&& ((ix x0.Keys a0).Mask))) (b := da 0#32) rfl rfl af7) (nS ?_)))
  refine co hres rfl ?_ ?_ <;> clear hres <;> intro c hres <;> try simp only [qa] at c
  ·refine sR (mB rfl (nS ?_))
   exact rR hres rfl rfl rfl
  ·refine az (dc (ah (ai (bN dz rfl rfl (mV rfl (aw (cq ?_)))))))
   have hbd := dm a5
   have hinc : wr (a0 + 1) = a0 + 1 := dt (by omega) (by omega)
   erw [hinc]
   exact wC (ih   (by omega) (by omega) (Mem.sub a1 (.cons _ .slnil)) hres) rfl

theorem dc3 {x0 : au} {x1 : List (BitVec 32)} {v0 v1 : PV} (r0 : au.t.R x0 v0) (r1 : (tSl kg).R x1 v1) : FnR Tryz.prog 30 [v0, v1] (vb (cm x0 x1)) := by
 refine fnS (R := RF30) ca9 (fun _ h => h) rfl fun res hres => ?_
 unfold cm at hres
 refine sR (ab (db rfl (TR.cnt au.t r0)) (mB rfl (nS (ae (sR (mV rfl (ab (ca rfl (bq r1 Tryz.underlying33 _)) (gL (au.g_Keys r0) rfl rfl rfl fun a7 a3 => ?_))))))))
 refine ab (ca rfl (bq a3 Tryz.underlying38 _)) (bN jc rfl rfl (nS ?_))
 refine co hres rfl ?_ ?_ <;> clear hres <;> intro a0 hres <;> have a1 := a0 <;> try simp only [qa] at a1
 ·refine sR (mB rfl (nS ?_))
  exact rR hres rfl rfl rfl
 ·refine az (ah (ae (sR (gL (au.g_Keys r0) rfl rfl rfl fun a4 a2 => (ab (ca rfl (bq a2 Tryz.underlying38 _)) (mI rfl (nS (bh ?_))))))))
  refine wC (vp r1 a0 a2 ?_  rfl (by omega) (Mem.sub (Mem.nil ⟨0, []⟩) .slnil) hres) rfl
  ·intro a6 a5 hres
   refine fa (ah (sR (mB rfl (nS ?_))))
   exact rR hres rfl rfl rfl

def RF31 (res : am × Bool) (r : PV) : Prop := ∃ c0, r = .tup [c0, vb res.2] ∧ am.t.R res.1 c0
theorem qp {S : List Fr} {res : am × Bool} {x0 : List am} {x1 : am → Bool} {v0 v1 : PV} {a7 a8 : Nat} (r0 : (tSl am.t).R x0 v0) (r1 : (tFn Tryz.prog am.t tB).R x1 v1) {K0 : am → (am × Bool)}
  (c1 : ∀ {a1 : am} {a0 : PV} (a4 : am.t.R a1 a0) {h : Heap} (M0 : Mem h [⟨.op a7 a8 0, 44, 5, [a0]⟩]), K0 a1 = res → PX Tryz.prog 0 S (QR Tryz.prog [(4, some (5, true)), (5, none)] (RF31 res)) [(4, .op a7 a8 0)] h) :
  ∀ {m : Nat} {a2 : Int} {a1 : am} {a0 : PV} (a4 : am.t.R a1 a0) (b9 : m = Int.toNat ((x0.length : Int) - a2)) (b3 : 0 ≤ a2) {h : Heap} (M0 : Mem h [⟨.op a7 a8 0, 44, 5, [a0]⟩]), ee x0 x1 K0 m a2 a1 = res → RC Tryz.prog (.loop co4) S (QR Tryz.prog [(4, some (5, true)), (5, none)] (RF31 res)) [(11, vi a2), (10, vi (x0.length : Int)), (9, v0), (4, .op a7 a8 0), (1, v1)] h := by
 intro m
 induction m with
 | zero =>
  intro a2 a1 a0 a4 b9 b3 h M0 hres
  rw [ee] at hres
  refine br (sR (bN ck rfl rfl (nS (ae ?_))))
  refine bf rfl ?_ ?_ <;> intro c <;> try simp only [qa] at c
  ·omega
  refine di (dv (ct ?_))
  exact wP (c1 a4 (Mem.sub M0 (.cons_cons _ .slnil)) hres) rfl
 | succ m ih =>
  intro a2 a1 a0 a4 b9 b3 h M0 hres
  rw [ee] at hres
  refine br (sR (bN ck rfl rfl (nS (ae ?_))))
  refine bf rfl ?_ ?_ <;> intro c <;> try simp only [qa] at c
  rotate_left
  ·omega
  refine az (ah (ae (bh (sR ?_))))
  obtain ⟨a5, b6, a3⟩ := cr (i := a2) r0 (by first | omega | (have hk := bc (by assumption) (by assumption); omega) | (have hk := tck (by assumption) (by assumption); omega) | (have hk := rtck (by assumption) (by assumption); omega) | (have hk := eck (by assumption) (by assumption) (by assumption); omega) | (have hk := tv (by assumption) (by assumption); omega) | (have hk := rtv (by assumption) (by assumption); omega)) (by first | omega | (have hk := bc (by assumption) (by assumption); omega) | (have hk := tck (by assumption) (by assumption); omega) | (have hk := rtck (by assumption) (by assumption); omega) | (have hk := eck (by assumption) (by assumption) (by assumption); omega) | (have hk := tv (by assumption) (by assumption); omega) | (have hk := rtv (by assumption) (by assumption); omega))
  refine ab (bn rfl rfl b6) (lD a3 rfl rfl rfl ?_)
  refine dk (x := .agg [vi 0, nilS, vi 0, vi 0, nilS]) M0 rfl rfl (fun b1 b2 c0 b8 => ?_)
  refine cz (k := 0) (v := a5) b8 rfl rfl rfl (TR.cnt am.t a3) (fun b7 a6 => ?_)
  replace a6 : Mem b7 [⟨.op b1 b2 0, 44, 5, [a5]⟩, ⟨.op a7 a8 0, 44, 5, [a0]⟩] := a6
  refine nR (mV rfl (ab (gi (k := 0) a6 rfl rfl (TR.agg am.t a3)) ?_))
  refine as1 rfl r1 rfl (show am.t.R (ix x0 a2) a5 from a3) (fun b5 b0 => ?_)
  have b0 : b5 = vb (x1 (ix x0 a2)) := b0; subst b0
  refine nS ?_
  refine co hres rfl ?_ ?_ <;> clear hres <;> intro c hres <;> try simp only [qa] at c
  ·refine sR (ab (gi (k := 0) a6 rfl rfl (TR.agg am.t a3)) ?_)
   refine cz (k := 1) (v := a5) a6 rfl rfl rfl (TR.cnt am.t a3) (fun b4 a9 => ?_)
   replace a9 : Mem b4 [⟨.op b1 b2 0, 44, 5, [a5]⟩, ⟨.op a7 a8 0, 44, 5, [a5]⟩] := a9
   refine mB rfl (nS ?_)
   subst hres
   exact fc (.cell rfl (ga (k := 1) a9 rfl (TR.agg am.t a3)) (.tmp rfl .nil)) (cj (show closed (.tup _) = true from (aq (TR.clo am.t a3) (aq rfl bg)))) ⟨a5, rfl, a3⟩
  ·refine az (dc (ah (ai (bN dz rfl rfl (mV rfl (aw (cq ?_)))))))
   have hbd := dm r0
   have hinc : wr (a2 + 1) = a2 + 1 := dt (by omega) (by omega)
   erw [hinc]
   exact wC (ih  a4 (by omega) (by omega) (Mem.sub a6 (.cons _ (.cons_cons _ .slnil))) hres) rfl

theorem aw9 {x0 : List am} {x1 : am → Bool} {v0 v1 : PV} (r0 : (tSl am.t).R x0 v0) (r1 : (tFn Tryz.prog am.t tB).R x1 v1) : ∃ c0, FnR Tryz.prog 31 [v0, v1] (.tup [c0, vb ((cp x0 x1).2)]) ∧ am.t.R (cp x0 x1).1 c0 := by
 obtain ⟨res, hres⟩ : ∃ res, cp x0 x1 = res := ⟨_, rfl⟩
 suffices H : RC Tryz.prog dh4 [] (QR Tryz.prog [(4, some (5, true)), (5, none)] (RF31 res)) (argE 0 [v0, v1]) ⟨0, []⟩ by
  rw [hres]
  obtain ⟨r, h1, c0, rfl, a9⟩ := fnE bp0 (by simp) H
  exact ⟨c0, h1, a9⟩
 unfold cp at hres
 refine sR ?_
 refine dk (x := .agg [vi 0, nilS, vi 0, vi 0, nilS]) (Mem.nil ⟨0, []⟩) rfl rfl (fun a4 a6 b1 a7 => ?_)
 refine mB rfl (nS (ae (sR (mV rfl (ab (ca rfl (bq r0 Tryz.underlying32 _)) (mI rfl (nS (bh ?_))))))))
 refine wC (qp r0 r1 ?_  (show am.t.R ({ ID := 0, Entry := ({ Keys := ([] : List ay), Priority := 0, Call := ({ Action := 0, Args := ([] : List (BitVec 32)) } : av) } : au) } : am) (.agg [vi 0, nilS, vi 0, vi 0, nilS]) from ⟨nilS, nilS, rfl, gq, gq⟩) rfl (by omega) (Mem.sub a7 (.cons_cons _ .slnil)) hres) rfl
 ·intro a1 a3 a2 b0 a8 hres
  refine fa (ah (sR (ab (zj (x := .agg [vi 0, nilS, vi 0, vi 0, nilS]) rfl rfl) (nR (lR rfl rfl rfl ?_)))))
  refine cz (k := 0) (v := .agg [vi 0, nilS, vi 0, vi 0, nilS]) a8 rfl rfl rfl rfl (fun a5 a0 => ?_)
  replace a0 : Mem a5 [⟨.op a4 a6 0, 44, 5, [.agg [vi 0, nilS, vi 0, vi 0, nilS]]⟩] := a0
  refine mB rfl (nS ?_)
  subst hres
  exact fc (.cell rfl (ga (k := 0) a0 rfl rfl) (.tmp rfl .nil)) (cj (show closed (.tup _) = true from (aq (TR.clo am.t (show am.t.R ({ ID := 0, Entry := ({ Keys := ([] : List ay), Priority := 0, Call := ({ Action := 0, Args := ([] : List (BitVec 32)) } : av) } : au) } : am) (.agg [vi 0, nilS, vi 0, vi 0, nilS]) from ⟨nilS, nilS, rfl, gq, gq⟩)) (aq rfl bg)))) ⟨.agg [vi 0, nilS, vi 0, vi 0, nilS], rfl, ⟨nilS, nilS, rfl, gq, gq⟩⟩

def RF107 (res : Int) (r : PV) : Prop := r = vi res
theorem sk {S : List Fr} {res : Int} {x0 : BitVec 32} {K0 : Int → Int}
  (a4 : ∀ {a1 : Int}, K0 a1 = res → PX Tryz.prog 0 S (QR Tryz.prog [(2, none)] (RF107 res)) [(3, vi a1)] ⟨0, []⟩) :
  ∀ {m : Nat} {a1 a0 : Int} (a3 : m = Int.toNat (32 - a0)) (a2 : 0 ≤ a0), ie x0 K0 m a1 a0 = res → RC Tryz.prog (.loop bz8) S (QR Tryz.prog [(2, none)] (RF107 res)) [(5, vi a0), (3, vi a1), (0, da x0)] ⟨0, []⟩ := by
 intro m
 induction m with
 | zero =>
  intro a1 a0 a3 a2 hres
  rw [ie] at hres
  refine br (sR (bN ck rfl rfl (nS (ae ?_))))
  refine bf rfl ?_ ?_ <;> intro c <;> try simp only [qa] at c
  ·omega
  refine di (dv (ct ?_))
  exact wP (a4  hres) rfl
 | succ m ih =>
  intro a1 a0 a3 a2 hres
  rw [ie] at hres
  refine br (sR (bN ck rfl rfl (nS (ae ?_))))
  refine bf rfl ?_ ?_ <;> intro c <;> try simp only [qa] at c
  rotate_left
  ·omega
  refine az (ah (ae (bh (sR (mV rfl (mV rfl (nS (ai ?_))))))))
  refine mV rfl (mV rfl (mV rfl (ab (bd (a := da x0) (b := vi a0) rfl rfl (bf7 (by first | omega | (rw [dt (by omega) (by omega)]; omega)))) (ab (bd (a := da (x0 >>> a0.toNat)) (b := da 1#32) rfl rfl at8) (ab (ye (a := da ((x0 >>> a0.toNat) &&& 1#32)) rfl (c_wi Tryz.underlying64 Tryz.underlying3)) (bN dz rfl rfl (mV rfl (aw ?_))))))))
  refine dc (ah (ai (bN dz rfl rfl (mV rfl (aw (cq ?_))))))
  have hinc : wr (a0 + 1) = a0 + 1 := dt (by omega) (by omega)
  erw [hinc]
  exact wC (ih   (by omega) (by omega) hres) rfl

theorem co5 {x0 : BitVec 32} : FnR Tryz.prog 107 [da x0] (vi (iv x0)) := by
 refine fnS (R := RF107) bg2 (fun _ h => h) rfl fun res hres => ?_
 unfold iv at hres
 refine sR (mI rfl (nR (mI rfl (nS (ae (sR (mI rfl (nS ?_))))))))
 refine bh ?_
 refine wC (sk  ?_  rfl (by omega) hres) rfl
 ·intro a0 hres
  refine fa (ah (sR (mV rfl (mV rfl (nS ?_)))))
  exact rR hres rfl rfl rfl

def RF68 (res : Int) (r : PV) : Prop := r = vi res
theorem wj {S : List Fr} {res : Int} {x0 : aa} {x1 : Int} {x2 : au} {v2 a9 : PV} (r2 : au.t.R x2 v2) (a4 : ((decide (x1 < 0)) || (decide ((x0.Tables.length : Int) ≤ x1))) = false) (a8 : (tSl bm.t).R ((ix x0.Tables x1).Keys) a9) {K0 : Unit → Int}
  (c6 : ∀ {h : Heap} (M0 : Mem h []), K0 () = res → PX Tryz.prog 0 S (QR Tryz.prog [(6, none)] (RF68 res)) [] h) :
  ∀ {m : Nat} {a0 : Int} (c0 : m = Int.toNat ((((ix x0.Tables x1).Keys).length : Int) - a0)) (a7 : 0 ≤ a0) {h : Heap} (M0 : Mem h []), fg x0 x1 x2 K0 m a0 = res → RC Tryz.prog (.loop co8) S (QR Tryz.prog [(6, none)] (RF68 res)) [(25, vi a0), (24, vi (((ix x0.Tables x1).Keys).length : Int)), (23, a9), (5, .fp v2)] h := by
 have a2 := a4
 try simp only [qa] at a2
 intro m
 induction m with
 | zero =>
  intro a0 c0 a7 h M0 hres
  rw [fg] at hres
  refine br (sR (bN ck rfl rfl (nS (ae ?_))))
  refine bf rfl ?_ ?_ <;> intro c <;> try simp only [qa] at c
  ·omega
  refine di (dv (ct ?_))
  exact wP (c6 (Mem.sub M0 .slnil) hres) rfl
 | succ m ih =>
  intro a0 c0 a7 h M0 hres
  rw [fg] at hres
  refine br (sR (bN ck rfl rfl (nS (ae ?_))))
  refine bf rfl ?_ ?_ <;> intro c <;> try simp only [qa] at c
  rotate_left
  ·omega
  refine az (ah (ae (bh (sR (mV rfl ?_)))))
  obtain ⟨a5, b5, a3⟩ := cr (i := a0) a8 (by first | omega | (have hk := bc (by assumption) (by assumption); omega) | (have hk := tck (by assumption) (by assumption); omega) | (have hk := rtck (by assumption) (by assumption); omega) | (have hk := eck (by assumption) (by assumption) (by assumption); omega) | (have hk := tv (by assumption) (by assumption); omega) | (have hk := rtv (by assumption) (by assumption); omega)) (by first | omega | (have hk := bc (by assumption) (by assumption); omega) | (have hk := tck (by assumption) (by assumption); omega) | (have hk := rtck (by assumption) (by assumption); omega) | (have hk := eck (by assumption) (by assumption) (by assumption); omega) | (have hk := tv (by assumption) (by assumption); omega) | (have hk := rtv (by assumption) (by assumption); omega))
  refine ab (bn rfl rfl b5) (lD a3 rfl rfl rfl ?_)
  refine dk (x := .agg [vi 0, vi 0, vi 0]) M0 rfl rfl (fun b3 b8 c4 b1 => ?_)
  refine mV rfl ?_
  refine cz (k := 0) (v := a5) b1 rfl rfl rfl (TR.cnt bm.t a3) (fun b7 a1 => ?_)
  replace a1 : Mem b7 [⟨.op b3 b8 0, 112, 3, [a5]⟩] := a1
  refine nR (ab (bz rfl) (ab (dg (k := 0) a1 rfl rfl (bm.g_Kind a3)) (bN ld rfl rfl (nS ?_))))
  refine co hres rfl ?_ ?_ <;> clear hres <;> intro c hres <;> try simp only [qa] at c
  ·refine ae (sR (mV rfl (gL (au.g_Keys r2) rfl rfl rfl fun c7 b4 => (ab (ca rfl (bq b4 Tryz.underlying38 _)) (bN ck rfl rfl (nS ?_))))))
   refine co hres rfl ?_ ?_ <;> clear hres <;> intro c hres <;> try simp only [qa] at c
   ·refine sR (gL (au.g_Keys r2) rfl rfl rfl fun c5 b2 => (mV rfl ?_))
    obtain ⟨c1, b6, b9⟩ := cr (i := a0) b2 (by first | omega | (have hk := bc (by assumption) (by assumption); omega) | (have hk := tck (by assumption) (by assumption); omega) | (have hk := rtck (by assumption) (by assumption); omega) | (have hk := eck (by assumption) (by assumption) (by assumption); omega) | (have hk := tv (by assumption) (by assumption); omega) | (have hk := rtv (by assumption) (by assumption); omega)) (by first | omega | (have hk := bc (by assumption) (by assumption); omega) | (have hk := tck (by assumption) (by assumption); omega) | (have hk := rtck (by assumption) (by assumption); omega) | (have hk := eck (by assumption) (by assumption) (by assumption); omega) | (have hk := tv (by assumption) (by assumption); omega) | (have hk := rtv (by assumption) (by assumption); omega))
    refine ab (bn rfl rfl b6) (fL rfl (ay.g_Mask b9) rfl rfl ?_)
    obtain ⟨c3, a6, hres⟩ := cy hres
    have b0 := co5 (x0 := (ix x2.Keys a0).Mask)  
    rw [a6] at b0
    refine cL b0 rfl rfl (aq rfl bg) (mV rfl (nS ?_))
    exact rR hres rfl rfl rfl
   ·refine az (ah (sR (mI rfl (nS ?_))))
    exact rR hres rfl rfl rfl
  ·refine az (dc (ah (ai (bN dz rfl rfl (mV rfl (aw (cq ?_)))))))
   have hbd := dm a8
   have hinc : wr (a0 + 1) = a0 + 1 := dt (by omega) (by omega)
   erw [hinc]
   exact wC (ih   (by omega) (by omega) (Mem.sub a1 (.cons _ .slnil)) hres) rfl

theorem bw2 {x0 : aa} {x1 : Int} {x2 : au} {v0 v2 : PV} (r0 : aa.t.R x0 v0) (r2 : au.t.R x2 v2) : FnR Tryz.prog 68 [v0, vi x1, v2] (vi (fi x0 x1 x2)) := by
 refine fnS (R := RF68) cc3 (fun _ h => h) rfl fun res hres => ?_
 unfold fi at hres
 refine sR (ab (db rfl (TR.cnt aa.t r0)) (ab (db rfl (TR.cnt au.t r2)) (mI rfl (nS (ae (sR (mV rfl (bN ck rfl rfl ?_))))))))
 refine mV rfl ?_
 refine bt 6 (d := 17) (v := vb ((decide (x1 < 0)) || (decide ((x0.Tables.length : Int) ≤ x1)))) ?_ ?_
 ·intro S Q r
  cases a6 : (decide (x1 < 0))
  ·intro k
   have a1 := a6
   try simp only [qa] at a1
   refine af rfl rfl (ak rfl) ?_
   obtain ⟨b6, a7, a3⟩ := aa.g_Tables r0
   refine af rfl rfl (bb rfl a7) (af rfl rfl (ba rfl (TR.cnt (tSl ax.t) a3) (TR.agg (tSl ax.t) a3)) (af rfl rfl (ca rfl (bq a3 Tryz.underlying26 _)) (af rfl rfl (bd rfl rfl od) ?_)))
   exact gK rfl rfl rfl rfl rfl k
  ·exact gN 5 rfl rfl rfl rfl rfl rfl
 refine nS ?_
 refine co hres rfl ?_ ?_ <;> clear hres <;> intro a0 hres <;> have a2 := a0 <;> try simp only [qa] at a2
 ·refine sR (mI rfl (nS ?_))
  exact rR hres rfl rfl rfl
 ·refine az (ah (ae (sR ?_)))
  obtain ⟨b7, b1, a5⟩ := aa.g_Tables r0
  refine fA rfl b1 (lD a5 rfl rfl rfl (mV rfl ?_))
  obtain ⟨b4, a8, a9⟩ := cr (i := x1) a5 (by first | omega | (have hk := bc (by assumption) (by assumption); omega) | (have hk := tck (by assumption) (by assumption); omega) | (have hk := rtck (by assumption) (by assumption); omega) | (have hk := eck (by assumption) (by assumption) (by assumption); omega) | (have hk := tv (by assumption) (by assumption); omega) | (have hk := rtv (by assumption) (by assumption); omega)) (by first | omega | (have hk := bc (by assumption) (by assumption); omega) | (have hk := tck (by assumption) (by assumption); omega) | (have hk := rtck (by assumption) (by assumption); omega) | (have hk := eck (by assumption) (by assumption) (by assumption); omega) | (have hk := tv (by assumption) (by assumption); omega) | (have hk := rtv (by assumption) (by assumption); omega))
  refine ab (bn rfl rfl a8) ?_
  obtain ⟨b5, b0, a4⟩ := ax.g_Keys a9
  refine fA rfl b0 (lD a4 rfl rfl rfl (ab (ca rfl (bq a4 Tryz.underlying85 _)) (mI rfl (nS (bh ?_)))))
  refine wC (wj r2 a0 a4 ?_  rfl (by omega) (Mem.sub (Mem.nil ⟨0, []⟩) .slnil) hres) rfl
  ·intro b2 b3 hres
   refine fa (ah (sR (mI rfl (nS ?_))))
   exact rR hres rfl rfl rfl

def RF34 (res : Bool) (r : PV) : Prop := r = vb res
theorem cy9 {x0 : aa} {x1 : Int} {x2 : am} {x3 : am} {v0 v2 v3 : PV} (r0 : aa.t.R x0 v0) (r2 : am.t.R x2 v2) (r3 : am.t.R x3 v3) : FnR Tryz.prog 34 [v0, vi x1, v2, v3] (vb (de x0 x1 x2 x3)) := by
 refine fnS (R := RF34) bt3 (fun _ h => h) rfl fun res hres => ?_
 unfold de at hres
 refine sR (ab (db rfl (TR.cnt aa.t r0)) (ab (db rfl (TR.cnt am.t r2)) (ab (db rfl (TR.cnt am.t r3)) (mB rfl (nS (ae (sR ?_)))))))
 obtain ⟨b9, a8, b3⟩ := am.g_Entry r2
 refine fA rfl a8 (fL rfl (au.g_Priority b3) rfl rfl ?_)
 obtain ⟨c3, a6, a9⟩ := am.g_Entry r3
 refine fA rfl a6 (fL rfl (au.g_Priority a9) rfl rfl (bN jc rfl rfl (nS ?_)))
 refine co hres rfl ?_ ?_ <;> clear hres <;> intro c hres <;> try simp only [qa] at c
 ·refine sR ?_
  obtain ⟨c4, b4, a7⟩ := am.g_Entry r2
  refine fA rfl b4 (fL rfl (au.g_Priority a7) rfl rfl ?_)
  obtain ⟨b7, b0, b1⟩ := am.g_Entry r3
  refine fA rfl b0 (fL rfl (au.g_Priority b1) rfl rfl (bN gb rfl rfl (mV rfl (nS ?_))))
  exact rR hres rfl rfl rfl
 ·refine az (ah (ae (sR (lD r0 rfl rfl rfl (mV rfl ?_)))))
  obtain ⟨c1, b2, a0⟩ := am.g_Entry r2
  refine fA rfl b2 (lD a0 rfl rfl rfl ?_)
  obtain ⟨c0, a3, hres⟩ := cy hres
  have a2 := bw2 (x1 := x1) r0 a0 
  rw [a3] at a2
  refine cL a2 rfl rfl (aq (TR.clo aa.t r0) (aq rfl (aq (TR.clo au.t a0) bg))) (lD r0 rfl rfl rfl (mV rfl ?_))
  obtain ⟨b8, b5, a1⟩ := am.g_Entry r3
  refine fA rfl b5 (lD a1 rfl rfl rfl ?_)
  obtain ⟨b6, a4, hres⟩ := cy hres
  have a5 := bw2 (x1 := x1) r0 a1 
  rw [a4] at a5
  refine cL a5 rfl rfl (aq (TR.clo aa.t r0) (aq rfl (aq (TR.clo au.t a1) bg))) (mV rfl (mV rfl (nR (mV rfl (mV rfl (bN jc rfl rfl (nS ?_)))))))
  refine co hres rfl ?_ ?_ <;> clear hres <;> intro c hres <;> try simp only [qa] at c
  ·refine sR (mV rfl (mV rfl (bN gb rfl rfl (mV rfl (nS ?_)))))
   exact rR hres rfl rfl rfl
  ·refine az (ah (sR (fL rfl (am.g_ID r2) rfl rfl (fL rfl (am.g_ID r3) rfl rfl (bN ck rfl rfl (mV rfl (nS ?_)))))))
   exact rR hres rfl rfl rfl

theorem bq3 (ad : Option Addr) (ox oy : Operand) : ∃ b, binF Tryz.prog .eql 38 ox oy (.sc (.slice ad 0 0)) nilS = some (vb b) := by
 cases ad with
 | none => exact ⟨true, by kernel_rfl⟩
 | some a => exact ⟨false, by cases a; kernel_rfl⟩
theorem ck4 (tg : Bool) (es : List PV) (ox oy : Operand) : binF Tryz.prog .eql 38 ox oy (.fs tg es) nilS = some (vb false) := rfl
theorem bq1 {l : List ay} {v : PV} (r : (tSl ay.t).R l v) (ox oy : Operand) : ∃ b, binF Tryz.prog .eql 38 ox oy v nilS = some (vb b) ∧ (b = true → l = []) := by
 obtain ⟨⟨es, he, hl⟩, hb⟩ := r
 rcases he with ⟨ad, rfl, rfl⟩ | ⟨tg, rfl⟩
 ·obtain ⟨b, h⟩ := bq3 ad ox oy
  refine ⟨b, h, fun _ => ?_⟩
  cases l with
  | nil => rfl
  | cons _ _ => simp [All2] at hl
 ·exact ⟨false, ck4 tg es ox oy, fun h => by cases h⟩
theorem de3 {x0 : List ay} {v0 : PV} (r0 : (tSl ay.t).R x0 v0) (hb : x0.length ≤ 2000000) : ∃ r, FnR Tryz.prog 69 [v0] r ∧ (tSl ay.t).R x0 r := by
 refine fnE bz9 (by simp) ?_
 refine ae (ai (ab (v := nilS) (ak rfl) (aw (ah (ae (ae (ai (ab (ak rfl) ?_))))))))
 obtain ⟨b, e1, e2⟩ := bq1 r0 (.tmp 3) (.const (.slice none 0 0))
 refine ab (bd rfl rfl e1) (aw (ah (bf rfl (fun hc => ?_) fun hc => ?_)))
 ·have hx := e2 hc
  refine ae (ai (ab (v := nilS) (ak rfl) (aw (ah ?_))))
  exact fc (.tmp rfl .nil) (cj rfl) (by rw [hx]; exact gq)
 ·refine az (ah (ae (ai ?_)))
  refine ab (v := .fs true []) (ly rfl oh) (ab (ak rfl) ?_)
  have MA := su (sz := 2) (es := []) (Mem.nil ⟨0, []⟩) 127 (.inr rfl) (by simp)
  obtain ⟨nw, sr, ar⟩ := zg (t := ay.t) (h := ⟨0, []⟩) r0
  have ff : fits (([] : List PV).length + nw.length) 8 = true := by rw [All2.length_eq ar]; (try simp only [List.length_cons, List.length_nil]); exact qs (by omega) (by omega)
  refine sx (k := 0) (es := ([] : List PV)) (news := nw) MA rfl rfl rfl rfl (.inl rfl) sr ff (fun a h n wr M => ?_)
  refine ab (ak rfl) (aw (ah ?_))
  obtain ⟨v1, d1, r1⟩ := zd (P := Tryz.prog) (k := 0) (t := ay.t) M rfl n ar (Nat.le_trans (show x0.length ≤ 4611686018427387904 by omega) (by decide))
  exact fc (.tmp rfl .nil) d1 r1
theorem bz1 (ad : Option Addr) (ox oy : Operand) : ∃ b, binF Tryz.prog .eql 33 ox oy (.sc (.slice ad 0 0)) nilS = some (vb b) := by
 cases ad with
 | none => exact ⟨true, by kernel_rfl⟩
 | some a => exact ⟨false, by cases a; kernel_rfl⟩
theorem ch1 (tg : Bool) (es : List PV) (ox oy : Operand) : binF Tryz.prog .eql 33 ox oy (.fs tg es) nilS = some (vb false) := rfl
theorem bt0 {l : List (BitVec 32)} {v : PV} (r : (tSl kg).R l v) (ox oy : Operand) : ∃ b, binF Tryz.prog .eql 33 ox oy v nilS = some (vb b) ∧ (b = true → l = []) := by
 obtain ⟨⟨es, he, hl⟩, hb⟩ := r
 rcases he with ⟨ad, rfl, rfl⟩ | ⟨tg, rfl⟩
 ·obtain ⟨b, h⟩ := bz1 ad ox oy
  refine ⟨b, h, fun _ => ?_⟩
  cases l with
  | nil => rfl
  | cons _ _ => simp [All2] at hl
 ·exact ⟨false, ch1 tg es ox oy, fun h => by cases h⟩
theorem cw9 {x0 : List (BitVec 32)} {v0 : PV} (r0 : (tSl kg).R x0 v0) (hb : x0.length ≤ 2000000) : ∃ r, FnR Tryz.prog 70 [v0] r ∧ (tSl kg).R x0 r := by
 refine fnE bu3 (by simp) ?_
 refine ae (ai (ab (v := nilS) (ak rfl) (aw (ah (ae (ae (ai (ab (ak rfl) ?_))))))))
 obtain ⟨b, e1, e2⟩ := bt0 r0 (.tmp 3) (.const (.slice none 0 0))
 refine ab (bd rfl rfl e1) (aw (ah (bf rfl (fun hc => ?_) fun hc => ?_)))
 ·have hx := e2 hc
  refine ae (ai (ab (v := nilS) (ak rfl) (aw (ah ?_))))
  exact fc (.tmp rfl .nil) (cj rfl) (by rw [hx]; exact gq)
 ·refine az (ah (ae (ai ?_)))
  refine ab (v := .fs true []) (ly rfl oh) (ab (ak rfl) ?_)
  have MA := su (sz := 1) (es := []) (Mem.nil ⟨0, []⟩) 64 (.inr rfl) (by simp)
  obtain ⟨nw, sr, ar⟩ := zg (t := kg) (h := ⟨0, []⟩) r0
  have ff : fits (([] : List PV).length + nw.length) 4 = true := by rw [All2.length_eq ar]; (try simp only [List.length_cons, List.length_nil]); exact qs (by omega) (by omega)
  refine sx (k := 0) (es := ([] : List PV)) (news := nw) MA rfl rfl rfl rfl (.inl rfl) sr ff (fun a h n wr M => ?_)
  refine ab (ak rfl) (aw (ah ?_))
  obtain ⟨v1, d1, r1⟩ := zd (P := Tryz.prog) (k := 0) (t := kg) M rfl n ar (Nat.le_trans (show x0.length ≤ 4611686018427387904 by omega) (by decide))
  exact fc (.tmp rfl .nil) d1 r1
theorem an3 {x0 : am} {v0 : PV} (r0 : am.t.R x0 v0) (hb : SR x0) : ∃ r, FnR Tryz.prog 35 [v0] r ∧ am.t.R x0 r := by
 refine fnE bw3 (by simp) ?_
 have a0 := r0
 obtain ⟨c1, c2, rfl, q1, q2⟩ := a0
 refine ae (ai ?_)
 refine xr (Mem.nil _) rfl rfl (fun i1 w1 h1 M1 => ?_)
 refine dk (x := .agg [vi 0, nilS, vi 0, vi 0, nilS]) M1 rfl rfl (fun i2 w2 h2 M2 => aw (ah ?_))
 obtain ⟨d1, f1, s1⟩ := de3 q1 (by have := hb.1; omega)
 obtain ⟨d2, f2, s2⟩ := cw9 q2 (by have := hb.2; omega)
 refine ae (ai ?_)
 refine ab (bz rfl) (ab (bz rfl) (ab (dg (k := 1) M2 rfl rfl (mk1 (TR.agg _ q1))) ?_))
 refine cL f1 rfl rfl (aq (TR.clo _ q1) bg) (ab (bz rfl) (ab (bz rfl) ?_))
 refine mr (k := 1) (v := d1) M2 rfl rfl rfl (zf (TR.cnt _ s1) (TR.agg _ s1)) rfl (by simp) (fun h3 M3 => aw (ah ?_))
 replace M3 : Mem h3 [⟨.op i2 w2 0, 44, 5, [.agg [vi 0, nilS, vi 0, vi 0, nilS]]⟩, ⟨.op i1 w1 0, 44, 5, [.agg [vi x0.ID, d1, vi x0.Entry.Priority, vi x0.Entry.Call.Action, c2]]⟩] := M3
 refine ae (ai ?_)
 refine ab (bz rfl) (ab (bz rfl) (ab (bz rfl) (ab (dg (off := 4) (k := 1) M3 rfl rfl (mk1 (TR.agg _ q2))) ?_)))
 refine cL f2 rfl rfl (aq (TR.clo _ q2) bg) (ab (bz rfl) (ab (bz rfl) (ab (bz rfl) ?_)))
 refine mr (off := 4) (k := 1) (v := d2) M3 rfl rfl rfl (zf (TR.cnt _ s2) (TR.agg _ s2)) rfl (by simp) (fun h4 M4 => aw (ah ?_))
 replace M4 : Mem h4 [⟨.op i2 w2 0, 44, 5, [.agg [vi 0, nilS, vi 0, vi 0, nilS]]⟩, ⟨.op i1 w1 0, 44, 5, [.agg [vi x0.ID, d1, vi x0.Entry.Priority, vi x0.Entry.Call.Action, d2]]⟩] := M4
 refine ae (ai ?_)
 refine ab (gi (k := 1) M4 rfl rfl rfl) ?_
 have hR : am.t.R x0 (.agg [vi x0.ID, d1, vi x0.Entry.Priority, vi x0.Entry.Call.Action, d2]) := ⟨d1, d2, rfl, s1, s2⟩
 refine cz (k := 0) (v := .agg [vi x0.ID, d1, vi x0.Entry.Priority, vi x0.Entry.Call.Action, d2]) M4 rfl rfl rfl rfl (fun h5 M5 => aw (ah ?_))
 exact fc (.cell rfl (ga (k := 0) M5 rfl rfl) .nil) (cj (TR.clo _ hR)) hR
theorem ea8 {x0 : am} {c0 : List (BitVec 32)} {v0 w0 : PV} (r0 : am.t.R x0 v0) (a0 : (tSl kg).R c0 w0) : FnR Tryz.prog 29 [v0, .fp w0] (vb (cm x0.Entry c0)) := by
 obtain ⟨r, h1, rfl⟩ : ∃ r, FnR Tryz.prog 29 [v0, .fp w0] r ∧ r = vb (cm x0.Entry c0) := by
  refine fnE bt4 (by simp) ?_
  refine ae (ai (ab (db rfl (TR.cnt am.t r0)) (ab (v := vb false) (ak rfl) (aw (ah ?_)))))
  obtain ⟨we, ge, re⟩ := am.g_Entry r0
  refine ae (ai (ab (bb rfl ge) (ab (ba rfl (TR.cnt _ re) (TR.agg _ re)) (ab (ba rfl (TR.cnt _ a0) (TR.agg _ a0)) ?_))))
  refine cL (dc3 re a0) rfl rfl (aq (TR.clo _ re) (aq (TR.clo _ a0) bg)) (ab (ak rfl) (aw (ah ?_)))
  exact fc (.tmp rfl .nil) (cj rfl) rfl
 exact h1
theorem eb1 {c0 : List (BitVec 32)} {w0 : PV} (a0 : (tSl kg).R c0 w0) : (tFn Tryz.prog am.t tB).R (fun r => cm r.Entry c0) (.fn (.func 29) [] [.fp w0]) :=
 ⟨29, [], _, rfl, rfl, by simp [closedL, closed, TR.clo _ a0], fun a va ra => ⟨_, ea8 ra a0, rfl⟩⟩
theorem ed1 {c0 : am → Bool} {c1 : aa} {c2 : Int} {u w1 : PV} (ru : (tFn Tryz.prog am.t tB).R c0 u) (a1 : aa.t.R c1 w1) {x0 c3 : am} {v0 w3 : PV} (r0 : am.t.R x0 v0) (a0 : am.t.R c3 w3) : FnR Tryz.prog 33 [v0, .fp u, .fp w1, .fp (vi c2), .fp w3] (vb (c0 x0 && de c1 c2 x0 c3)) := by
 obtain ⟨r, h1, rfl⟩ : ∃ r, FnR Tryz.prog 33 [v0, .fp u, .fp w1, .fp (vi c2), .fp w3] r ∧ r = vb (c0 x0 && de c1 c2 x0 c3) := by
  refine fnE br8 (by simp) ?_
  refine ae (ai (ab (db rfl (TR.cnt am.t r0)) (ab (v := vb false) (ak rfl) (aw (ah ?_)))))
  refine ae (ai (ab (ba rfl (TR.cnt _ ru) (TR.agg _ ru)) (lD r0 rfl rfl rfl ?_)))
  obtain ⟨vr, hc, hvr⟩ := an1 (E := (8, v0) :: (7, u) :: _) (f := .tmp 7) (args := [.tmp 8]) (hf := false) (h := ⟨0, []⟩) rfl ru rfl r0
  have hvr : vr = vb (c0 x0) := hvr
  subst hvr
  refine px hc (ab (ak rfl) ?_)
  refine bt 6 (d := 16) (v := vb (c0 x0 && de c1 c2 x0 c3)) ?_ ?_
  ·intro S Q r
   cases c0 x0
   ·exact gN 5 rfl rfl rfl rfl rfl rfl
   ·intro k
    refine af rfl rfl (ba rfl (TR.cnt _ a1) (TR.agg _ a1)) (af rfl rfl (ba rfl rfl rfl) (af rfl rfl (ba rfl (TR.cnt _ r0) (TR.agg _ r0)) (af rfl rfl (ba rfl (TR.cnt _ a0) (TR.agg _ a0)) ?_)))
    refine fw rfl rfl (mc rfl rfl (aq (TR.clo _ a1) (aq rfl (aq (TR.clo _ r0) (aq (TR.clo _ a0) bg)))) (cy9 (x1 := c2) a1 r0 a0)) ?_
    exact gK rfl rfl rfl rfl rfl k
  refine ab (ak rfl) (aw (ah ?_))
  exact fc (.tmp rfl .nil) (cj rfl) rfl
 exact h1
theorem ed2 {c0 : am → Bool} {c1 : aa} {c2 : Int} {u w1 : PV} (ru : (tFn Tryz.prog am.t tB).R c0 u) (a1 : aa.t.R c1 w1) {c3 : am} {w3 : PV} (a0 : am.t.R c3 w3) : (tFn Tryz.prog am.t tB).R (fun x => c0 x && de c1 c2 x c3) (.fn (.func 33) [] [.fp u, .fp w1, .fp (vi c2), .fp w3]) :=
 ⟨33, [], _, rfl, rfl, by simp [closedL, closed, TR.clo _ ru, TR.clo _ a1, TR.clo _ a0], fun a va ra => ⟨_, ed1 ru a1 ra a0, rfl⟩⟩
theorem ec6 {c0 : am → Bool} {c1 : aa} {c2 : Int} {u w1 : PV} (ru : (tFn Tryz.prog am.t tB).R c0 u) (a0 : aa.t.R c1 w1) {x0 : am} {l : List am} {v0 vl : PV} (r0 : am.t.R x0 v0) (rl : (tSl am.t).R l vl) : FnR Tryz.prog 32 [v0, .fp u, .fp vl, .fp w1, .fp (vi c2)] (vb (c0 x0 && !(cp l (fun x => c0 x && de c1 c2 x x0)).2)) := by
 obtain ⟨r, h1, rfl⟩ : ∃ r, FnR Tryz.prog 32 [v0, .fp u, .fp vl, .fp w1, .fp (vi c2)] r ∧ r = vb (c0 x0 && !(cp l (fun x => c0 x && de c1 c2 x x0)).2) := by
  refine fnE by8 (by simp) ?_
  refine ae (ai (ab (db rfl (TR.cnt am.t r0)) (ab (v := vb false) (ak rfl) (aw (ah ?_)))))
  refine ae (ae (ai (ab (ba rfl (TR.cnt _ ru) (TR.agg _ ru)) (lD r0 rfl rfl rfl ?_))))
  obtain ⟨vr, hc, hvr⟩ := an1 (E := (10, v0) :: (9, u) :: _) (f := .tmp 9) (args := [.tmp 10]) (hf := false) (h := ⟨0, []⟩) rfl ru rfl r0
  have hvr : vr = vb (c0 x0) := hvr
  subst hvr
  refine px hc (ab (ft rfl) (aw (ah (bf rfl (fun hn => ?_) fun hn => ?_))))
  ·refine ae (ai (ab (v := vb false) (ak rfl) (aw (ah ?_))))
   have hn : c0 x0 = false := by simpa using hn
   exact fc (.tmp rfl .nil) (cj rfl) (by rw [hn]; rfl)
  ·have hn : c0 x0 = true := by simpa using hn
   obtain ⟨d, f1, s1⟩ := aw9 rl (ed2 (c2 := c2) ru a0 r0)
   refine az (ah (ae (ai ?_)))
   refine ab (ba rfl (TR.cnt _ rl) (TR.agg _ rl)) (ab (v := .fn (.func 33) [] [.fp u, .fp w1, .fp (vi c2), .fp v0]) (vh rfl rfl) ?_)
   refine cL f1 rfl rfl (aq (TR.clo _ rl) (aq (by simp [closedL, closed, TR.clo _ ru, TR.clo _ a0, TR.clo _ r0]) bg)) ?_
   refine ab (ak rfl) (ab (dq rfl rfl) (ab (dq rfl rfl) ?_))
   refine dk (x := .agg [vi 0, nilS, vi 0, vi 0, nilS]) (Mem.nil _) rfl rfl (fun i1 a1 h1 M1 => ?_)
   refine cz (k := 0) (v := d) M1 rfl rfl rfl (TR.cnt _ s1) (fun h2 M2 => ab (ak rfl) (aw (ah ?_)))
   refine ae (ai (ab (ak rfl) (ab (ft rfl) (ab (ak rfl) (aw (ah ?_))))))
   exact fc (.tmp rfl .nil) (cj rfl) (by rw [hn]; rfl)
 exact h1
theorem eb7 {c0 : am → Bool} {c1 : aa} {c2 : Int} {u w1 : PV} (ru : (tFn Tryz.prog am.t tB).R c0 u) (a0 : aa.t.R c1 w1) {l : List am} {vl : PV} (rl : (tSl am.t).R l vl) : (tFn Tryz.prog am.t tB).R (fun r => c0 r && !(cp l (fun x => c0 x && de c1 c2 x r)).2) (.fn (.func 32) [] [.fp u, .fp vl, .fp w1, .fp (vi c2)]) :=
 ⟨32, [], _, rfl, rfl, by simp [closedL, closed, TR.clo _ ru, TR.clo _ a0, TR.clo _ rl], fun a va ra => ⟨_, ec6 ru a0 ra rl, rfl⟩⟩
theorem cd9 {l : List am} {p : am → Bool} (H : ∀ r ∈ l, SR r) : SR (cp l p).1 := by
 have z : SR ({ ID := 0, Entry := ({ Keys := ([] : List ay), Priority := 0, Call := ({ Action := 0, Args := ([] : List (BitVec 32)) } : av) } : au) } : am) := ⟨by simp, by simp⟩
 have key : ∀ (m : Nat) (i : Int) (z0 : am) (K0 : am → am × Bool), (∀ y, SR (K0 y).1) → m = Int.toNat ((l.length : Int) - i) → 0 ≤ i → SR (ee l p K0 m i z0).1 := by
  intro m
  induction m with
  | zero => intro i z0 K0 hK hm h0; exact hK _
  | succ m ih =>
   intro i z0 K0 hK hm h0
   rw [ee]
   split
   ·show SR (ix l i)
    rw [oz h0 (by omega)]
    exact H _ (List.getElem_mem _)
   ·exact ih _ _ _ hK (by omega) (by omega)
 exact key _ 0 _ _ (fun _ => z) rfl (by omega)
theorem dd3 {x0 : aa} {x1 : Int} {x2 : List am} {x3 : List (BitVec 32)} {v0 v2 v3 : PV} (r0 : aa.t.R x0 v0) (r2 : (tSl am.t).R x2 v2) (r3 : (tSl kg).R x3 v3) (hb : ∀ r ∈ x2, SR r) : ∃ c0, FnR Tryz.prog 12 [v0, vi x1, v2, v3] (.tup [c0, vb (iw x0 x1 x2 x3).2]) ∧ am.t.R (iw x0 x1 x2 x3).1 c0 := by
 obtain ⟨r, h1, c0, rfl, hr⟩ : ∃ r, FnR Tryz.prog 12 [v0, vi x1, v2, v3] r ∧ ∃ c0, r = .tup [c0, vb (iw x0 x1 x2 x3).2] ∧ am.t.R (iw x0 x1 x2 x3).1 c0 := by
  refine fnE bx4 (by simp) ?_
  refine ae (ai (ab (db rfl (TR.cnt aa.t r0)) (ab (db rfl rfl) (ab (db rfl (TR.cnt _ r2)) (ab (db rfl (TR.cnt _ r3)) ?_)))))
  refine dk (x := .agg [vi 0, nilS, vi 0, vi 0, nilS]) (Mem.nil _) rfl rfl (fun i8 w8 h8 M8 => ab (v := vb false) (ak rfl) (aw (ah ?_)))
  refine ae (ae (ai (ab (ba rfl rfl rfl) (ab (v := vb (decide (x1 < 0))) (bd rfl rfl ck) (ab (ak rfl) ?_)))))
  refine bt 6 (d := 21) (v := vb (decide (x1 < 0) || decide ((x0.Tables.length : Int) ≤ x1))) ?_ ?_
  ·intro S Q r
   cases decide (x1 < 0)
   ·intro k
    obtain ⟨wt, gt, rt⟩ := aa.g_Tables r0
    refine af rfl rfl (ba rfl rfl rfl) (af rfl rfl (bb rfl gt) (af rfl rfl (ba rfl (TR.cnt _ rt) (TR.agg _ rt)) (af rfl rfl (ca rfl (bq rt Tryz.underlying26 _)) (af rfl rfl (bd rfl rfl od) ?_))))
    exact gK rfl rfl rfl rfl rfl k
   ·exact gN 5 rfl rfl rfl rfl rfl rfl
  refine aw (ah (bf rfl (fun hc => ?_) fun hc => ?_))
  ·have hs : iw x0 x1 x2 x3 = (({ ID := 0, Entry := ({ Keys := ([] : List ay), Priority := 0, Call := ({ Action := 0, Args := ([] : List (BitVec 32)) } : av) } : au) } : am), false) := by unfold iw; rw [if_pos hc]
   rw [hs]
   refine ae (ai (ab (v := .agg [vi 0, nilS, vi 0, vi 0, nilS]) (nj (cs := [vi 0, nilS, vi 0, vi 0, nilS]) rfl rfl) ?_))
   refine cz (k := 0) (v := .agg [vi 0, nilS, vi 0, vi 0, nilS]) M8 rfl rfl rfl rfl (fun h9 M9 => ab (v := vb false) (ak rfl) (aw (ah ?_)))
   exact fc (.cell rfl (ga (k := 0) M9 rfl rfl) (.tmp rfl .nil)) (cj rfl) ⟨_, rfl, nilS, nilS, rfl, gq, gq⟩
  ·have hs : iw x0 x1 x2 x3 = cp x2 (fun r => cm r.Entry x3 && !(cp x2 (fun x => cm x.Entry x3 && de x0 x1 x r)).2) := by unfold iw; rw [if_neg (by rw [hc]; simp)]
   rw [hs]
   have ru := eb1 r3
   have hcl := TR.clo _ ru
   obtain ⟨d, f1, s1⟩ := aw9 r2 (eb7 (c2 := x1) ru r0 r2)
   refine az (ah (ae (ai (ab (v := .fn (.func 29) [] [.fp v3]) (vh rfl rfl) ?_))))
   refine dk (x := .sc .nilFunc) M8 rfl rfl (fun i9 w9 h9 M9 => ?_)
   refine cz (k := 0) (v := .fn (.func 29) [] [.fp v3]) M9 rfl rfl rfl rfl (fun a6 a3 => aw (ah ?_))
   refine ae (pp ?_)
   refine ad4 (k := 0) (E' := [(10, .fp (.fn (.func 29) [] [.fp v3])), (9, vb false), (8, .op i8 w8 0), (6, .fp v2), (5, .fp (vi x1)), (4, .fp v0)]) a3 rfl (xu rfl (iy rfl (iy rfl (iy rfl (iy rfl (iy rfl ab7)))))) (fun a5 a0 => ?_)
   replace a0 : Mem a5 [⟨.op i8 w8 0, 44, 5, [.agg [vi 0, nilS, vi 0, vi 0, nilS]]⟩] := a0
   refine dx (ab (ba rfl (TR.cnt _ r2) (TR.agg _ r2)) (dw (dx (ab (v := .fn (.func 32) [] [.fp (.fn (.func 29) [] [.fp v3]), .fp v2, .fp v0, .fp (vi x1)]) (vh rfl rfl) (dw ?_)))))
   refine dx (cL f1 rfl rfl (aq (TR.clo _ r2) (aq (by simp [closedL, closed, TR.clo _ r0, TR.clo _ r2, TR.clo _ r3]) bg)) (dw ?_))
   refine dx (ab (ak rfl) (dw (dx (ab (dq rfl rfl) (dw (dx (ab (dq rfl rfl) (dw ?_))))))))
   refine dx (dk (x := .agg [vi 0, nilS, vi 0, vi 0, nilS]) a0 rfl rfl (fun a7 a9 b0 a2 => dw ?_))
   refine dx (cz (k := 0) (v := d) a2 rfl rfl rfl (TR.cnt _ s1) (fun b1 a1 => dw (dx (ab (ak rfl) (dw (wz (ah ?_)))))))
   obtain ⟨d2, f2, s2⟩ := an3 s1 (cd9 hb)
   refine ae (ai (ab (gi (k := 0) a1 rfl rfl (TR.agg _ s1)) ?_))
   refine cL f2 rfl rfl (aq (TR.clo _ s1) bg) (ab (ak rfl) ?_)
   refine cz (k := 1) (v := d2) a1 rfl rfl rfl (TR.cnt _ s2) (fun a8 a4 => ab (ak rfl) (aw (ah ?_)))
   exact fc (.cell rfl (ga (k := 1) a4 rfl (TR.agg _ s2)) (.tmp rfl .nil)) (cj (show closed (.tup _) = true from aq (TR.clo _ s2) (aq rfl bg))) ⟨_, rfl, s2⟩
 exact ⟨c0, h1, hr⟩

def RF36 (res : Bool) (r : PV) : Prop := r = vb res
theorem vw {S : List Fr} {res : Bool} {x0 : au} {x1 : List (BitVec 32)} {v0 v1 : PV} (r0 : au.t.R x0 v0) (r1 : (tSl kg).R x1 v1) (a2 : (!decide ((x0.Keys.length : Int) = (x1.length : Int))) = false) {K0 : Unit → Bool}
  (b5 : K0 () = res → PX Tryz.prog 0 S (QR Tryz.prog [(4, none)] (RF36 res)) [] ⟨0, []⟩) :
  ∀ {m : Nat} {a0 : Int} (b1 : m = Int.toNat ((x1.length : Int) - a0)) (a4 : 0 ≤ a0), jn x0 x1 K0 m a0 = res → RC Tryz.prog (.loop cl2) S (QR Tryz.prog [(4, none)] (RF36 res)) [(5, vi a0), (2, .fp v0), (1, v1)] ⟨0, []⟩ := by
 have a1 := a2
 try simp only [qa] at a1
 intro m
 induction m with
 | zero =>
  intro a0 b1 a4 hres
  rw [jn] at hres
  refine br (ae (sR (mV rfl (mV rfl (ab (ca rfl (bq r1 Tryz.underlying33 _)) (bN ck rfl rfl (nS ?_)))))))
  refine bf rfl ?_ ?_ <;> intro c <;> try simp only [qa] at c
  ·omega
  refine di (dv (ct ?_))
  exact wP (b5  hres) rfl
 | succ m ih =>
  intro a0 b1 a4 hres
  rw [jn] at hres
  refine br (ae (sR (mV rfl (mV rfl (ab (ca rfl (bq r1 Tryz.underlying33 _)) (bN ck rfl rfl (nS ?_)))))))
  refine bf rfl ?_ ?_ <;> intro c <;> try simp only [qa] at c
  rotate_left
  ·omega
  refine az (ah (ae (bh (sR (mV rfl (mV rfl (ab (bn rfl rfl (zr r1 (by first | omega | (have hk := bc (by assumption) (by assumption); omega) | (have hk := tck (by assumption) (by assumption); omega) | (have hk := rtck (by assumption) (by assumption); omega) | (have hk := eck (by assumption) (by assumption) (by assumption); omega) | (have hk := tv (by assumption) (by assumption); omega) | (have hk := rtv (by assumption) (by assumption); omega)) (by first | omega | (have hk := bc (by assumption) (by assumption); omega) | (have hk := tck (by assumption) (by assumption); omega) | (have hk := rtck (by assumption) (by assumption); omega) | (have hk := eck (by assumption) (by assumption) (by assumption); omega) | (have hk := tv (by assumption) (by assumption); omega) | (have hk := rtv (by assumption) (by assumption); omega)))) (lR rfl rfl rfl ?_))))))))
  obtain ⟨b3, a5, a3⟩ := au.g_Keys r0
  refine fA rfl a5 (lD a3 rfl rfl rfl (mV rfl ?_))
  obtain ⟨b6, a6, a7⟩ := cr (i := a0) a3 (by first | omega | (have hk := bc (by assumption) (by assumption); omega) | (have hk := tck (by assumption) (by assumption); omega) | (have hk := rtck (by assumption) (by assumption); omega) | (have hk := eck (by assumption) (by assumption) (by assumption); omega) | (have hk := tv (by assumption) (by assumption); omega) | (have hk := rtv (by assumption) (by assumption); omega)) (by first | omega | (have hk := bc (by assumption) (by assumption); omega) | (have hk := tck (by assumption) (by assumption); omega) | (have hk := rtck (by assumption) (by assumption); omega) | (have hk := eck (by assumption) (by assumption) (by assumption); omega) | (have hk := tv (by assumption) (by assumption); omega) | (have hk := rtv (by assumption) (by assumption); omega))
  refine ab (bn rfl rfl a6) (fL rfl (ay.g_Value a7) rfl rfl (ab (bd (a := da (ix x1 a0)) (b := da ((ix x0.Keys a0).Value)) rfl rfl cu4) (gL (au.g_Keys r0) rfl rfl rfl fun b2 a8 => (mV rfl ?_))))
  obtain ⟨b4, a9, b0⟩ := cr (i := a0) a8 (by first | omega | (have hk := bc (by assumption) (by assumption); omega) | (have hk := tck (by assumption) (by assumption); omega) | (have hk := rtck (by assumption) (by assumption); omega) | (have hk := eck (by assumption) (by assumption) (by assumption); omega) | (have hk := tv (by assumption) (by assumption); omega) | (have hk := rtv (by assumption) (by assumption); omega)) (by first | omega | (have hk := bc (by assumption) (by assumption); omega) | (have hk := tck (by assumption) (by assumption); omega) | (have hk := rtck (by assumption) (by assumption); omega) | (have hk := eck (by assumption) (by assumption) (by assumption); omega) | (have hk := tv (by assumption) (by assumption); omega) | (have hk := rtv (by assumption) (by assumption); omega))
  refine ab (bn rfl rfl a9) (fL rfl (ay.g_Mask b0) rfl rfl (ab (bd (a := da ((ix x1 a0) ^^^ ((ix x0.Keys a0).Value))) (b := da ((ix x0.Keys a0).Mask)) rfl rfl at8) (ab (bd (a := da (((ix x1 a0) ^^^ ((ix x0.Keys a0).Value)) &&& ((ix x0.Keys a0).Mask))) (b := da 0#32) rfl rfl af7) (nS ?_))))
  refine co hres rfl ?_ ?_ <;> clear hres <;> intro c hres <;> try simp only [qa] at c
  ·refine sR (mB rfl (nS ?_))
   exact rR hres rfl rfl rfl
  ·refine az (dc (ah (ai (mV rfl (bN dz rfl rfl (mV rfl (aw (cq ?_))))))))
   have hbd := dm r1
   have hinc : wr (a0 + 1) = a0 + 1 := dt (by omega) (by omega)
   erw [hinc]
   exact wC (ih   (by omega) (by omega) hres) rfl

theorem dd7 {x0 : au} {x1 : List (BitVec 32)} {v0 v1 : PV} (r0 : au.t.R x0 v0) (r1 : (tSl kg).R x1 v1) : FnR Tryz.prog 36 [v0, v1] (vb (nr x0 x1)) := by
 refine fnS (R := RF36) dg4 (fun _ h => h) rfl fun res hres => ?_
 unfold nr at hres
 refine sR (ab (db rfl (TR.cnt au.t r0)) (mB rfl (nS (ae (sR (gL (au.g_Keys r0) rfl rfl rfl fun a3 a2 => (ab (ca rfl (bq a2 Tryz.underlying38 _)) (mV rfl ?_))))))))
 refine ab (ca rfl (bq r1 Tryz.underlying33 _)) (bN jc rfl rfl (nS ?_))
 refine co hres rfl ?_ ?_ <;> clear hres <;> intro a0 hres <;> have a1 := a0 <;> try simp only [qa] at a1
 ·refine sR (mB rfl (nS ?_))
  exact rR hres rfl rfl rfl
 ·refine az (ah (ae (sR (mI rfl (nS (bh ?_))))))
  refine wC (vw r0 r1 a0 ?_  rfl (by omega) hres) rfl
  ·intro  hres
   refine fa (ah (sR (mB rfl (nS ?_))))
   exact rR hres rfl rfl rfl

def RF108 (res : Int) (r : PV) : Prop := r = vi res
theorem tq {S : List Fr} {res : Int} {K0 : Int → Int}
  (a5 : ∀ {a2 : Int}, K0 a2 = res → PX Tryz.prog 0 S (QR Tryz.prog [(2, none)] (RF108 res)) [(3, vi a2)] ⟨0, []⟩) :
  ∀ {m : Nat} {a1 : BitVec 32} {a2 a0 : Int} (a4 : m = Int.toNat (32 - a0)) (a3 : 0 ≤ a0), ip K0 m a1 a2 a0 = res → RC Tryz.prog (.loop by5) S (QR Tryz.prog [(2, none)] (RF108 res)) [(4, vi a0), (3, vi a2), (0, da a1)] ⟨0, []⟩ := by
 intro m
 induction m with
 | zero =>
  intro a1 a2 a0 a4 a3 hres
  rw [ip] at hres
  refine br (ae (sR (mV rfl (bN ck rfl rfl (nS ?_)))))
  refine bf rfl ?_ ?_ <;> intro c <;> try simp only [qa] at c
  ·omega
  refine di (dv (ct ?_))
  exact wP (a5  hres) rfl
 | succ m ih =>
  intro a1 a2 a0 a4 a3 hres
  rw [ip] at hres
  refine br (ae (sR (mV rfl (bN ck rfl rfl (nS ?_)))))
  refine bf rfl ?_ ?_ <;> intro c <;> try simp only [qa] at c
  rotate_left
  ·omega
  refine az (ah (ae (bh (sR (mV rfl (mV rfl (ab (bd (a := da a1) (b := da 2#32) rfl rfl (dl7 (by decide))) (ab (ye (a := da (a1 % 2#32)) rfl (c_wi Tryz.underlying64 Tryz.underlying3)) ?_))))))))
  refine bN dz rfl rfl (mV rfl (nS (ai (mV rfl (ab (bd (a := da a1) (b := da 2#32) rfl rfl (dy5 (by decide))) (mV rfl (aw (dc ?_))))))))
  refine ah (ai (mV rfl (bN dz rfl rfl (mV rfl (aw (cq ?_))))))
  have hinc : wr (a0 + 1) = a0 + 1 := dt (by omega) (by omega)
  erw [hinc]
  exact wC (ih   (by omega) (by omega) hres) rfl

theorem ci3 {x0 : BitVec 32} : FnR Tryz.prog 108 [da x0] (vi (mm x0)) := by
 refine fnS (R := RF108) ce7 (fun _ h => h) rfl fun res hres => ?_
 unfold mm at hres
 refine sR (mI rfl (nR (mI rfl (nS (ae (sR (mI rfl (nS ?_))))))))
 refine bh ?_
 refine wC (tq  ?_  rfl (by omega) hres) rfl
 ·intro a0 hres
  refine fa (ah (sR (mV rfl (mV rfl (nS ?_)))))
  exact rR hres rfl rfl rfl

def RF71 (res : Int) (r : PV) : Prop := r = vi res
theorem sj {S : List Fr} {res : Int} {x0 : aa} {x1 : Int} {x2 : au} {v0 v2 : PV} (r0 : aa.t.R x0 v0) (r2 : au.t.R x2 v2) (a2 : ((decide (x1 < 0)) || (decide ((x0.Tables.length : Int) ≤ x1))) = false) {K0 : Unit → Int}
  (d7 : K0 () = res → PX Tryz.prog 0 S (QR Tryz.prog [(6, none)] (RF71 res)) [] ⟨0, []⟩) :
  ∀ {m : Nat} {a0 : Int} (c5 : m = Int.toNat ((((ix x0.Tables x1).Keys).length : Int) - a0)) (a6 : 0 ≤ a0), ik x0 x1 x2 K0 m a0 = res → RC Tryz.prog (.loop cn0) S (QR Tryz.prog [(6, none)] (RF71 res)) [(7, vi a0), (5, .fp v2), (3, .fp v0), (1, vi x1)] ⟨0, []⟩ := by
 have a1 := a2
 try simp only [qa] at a1
 intro m
 induction m with
 | zero =>
  intro a0 c5 a6 hres
  rw [ik] at hres
  refine br (ae (sR (mV rfl (gL (aa.g_Tables r0) rfl rfl rfl fun e0 b5 => (mV rfl ?_)))))
  obtain ⟨d2, b7, b9⟩ := cr (i := x1) b5 (by first | omega | (have hk := bc (by assumption) (by assumption); omega) | (have hk := tck (by assumption) (by assumption); omega) | (have hk := rtck (by assumption) (by assumption); omega) | (have hk := eck (by assumption) (by assumption) (by assumption); omega) | (have hk := tv (by assumption) (by assumption); omega) | (have hk := rtv (by assumption) (by assumption); omega)) (by first | omega | (have hk := bc (by assumption) (by assumption); omega) | (have hk := tck (by assumption) (by assumption); omega) | (have hk := rtck (by assumption) (by assumption); omega) | (have hk := eck (by assumption) (by assumption) (by assumption); omega) | (have hk := tv (by assumption) (by assumption); omega) | (have hk := rtv (by assumption) (by assumption); omega))
  refine ab (bn rfl rfl b7) (gL (ax.g_Keys b9) rfl rfl rfl fun d9 c1 => (ab (ca rfl (bq c1 Tryz.underlying85 _)) (bN ck rfl rfl (nS ?_))))
  refine bf rfl ?_ ?_ <;> intro c <;> try simp only [qa] at c
  ·omega
  refine di (dv (ct ?_))
  exact wP (d7  hres) rfl
 | succ m ih =>
  intro a0 c5 a6 hres
  rw [ik] at hres
  refine br (ae (sR (mV rfl (gL (aa.g_Tables r0) rfl rfl rfl fun d3 c3 => (mV rfl ?_)))))
  obtain ⟨d0, b6, c0⟩ := cr (i := x1) c3 (by first | omega | (have hk := bc (by assumption) (by assumption); omega) | (have hk := tck (by assumption) (by assumption); omega) | (have hk := rtck (by assumption) (by assumption); omega) | (have hk := eck (by assumption) (by assumption) (by assumption); omega) | (have hk := tv (by assumption) (by assumption); omega) | (have hk := rtv (by assumption) (by assumption); omega)) (by first | omega | (have hk := bc (by assumption) (by assumption); omega) | (have hk := tck (by assumption) (by assumption); omega) | (have hk := rtck (by assumption) (by assumption); omega) | (have hk := eck (by assumption) (by assumption) (by assumption); omega) | (have hk := tv (by assumption) (by assumption); omega) | (have hk := rtv (by assumption) (by assumption); omega))
  refine ab (bn rfl rfl b6) (gL (ax.g_Keys c0) rfl rfl rfl fun c9 a4 => (ab (ca rfl (bq a4 Tryz.underlying85 _)) (bN ck rfl rfl (nS ?_))))
  refine bf rfl ?_ ?_ <;> intro c <;> try simp only [qa] at c
  rotate_left
  ·omega
  refine az (ah (ae (bh (sR (gL (aa.g_Tables r0) rfl rfl rfl fun d5 b8 => (mV rfl ?_))))))
  obtain ⟨c7, b0, b3⟩ := cr (i := x1) b8 (by first | omega | (have hk := bc (by assumption) (by assumption); omega) | (have hk := tck (by assumption) (by assumption); omega) | (have hk := rtck (by assumption) (by assumption); omega) | (have hk := eck (by assumption) (by assumption) (by assumption); omega) | (have hk := tv (by assumption) (by assumption); omega) | (have hk := rtv (by assumption) (by assumption); omega)) (by first | omega | (have hk := bc (by assumption) (by assumption); omega) | (have hk := tck (by assumption) (by assumption); omega) | (have hk := rtck (by assumption) (by assumption); omega) | (have hk := eck (by assumption) (by assumption) (by assumption); omega) | (have hk := tv (by assumption) (by assumption); omega) | (have hk := rtv (by assumption) (by assumption); omega))
  refine ab (bn rfl rfl b0) (gL (ax.g_Keys b3) rfl rfl rfl fun d8 a8 => (mV rfl ?_))
  obtain ⟨d6, b4, a9⟩ := cr (i := a0) a8 (by first | omega | (have hk := bc (by assumption) (by assumption); omega) | (have hk := tck (by assumption) (by assumption); omega) | (have hk := rtck (by assumption) (by assumption); omega) | (have hk := eck (by assumption) (by assumption) (by assumption); omega) | (have hk := tv (by assumption) (by assumption); omega) | (have hk := rtv (by assumption) (by assumption); omega)) (by first | omega | (have hk := bc (by assumption) (by assumption); omega) | (have hk := tck (by assumption) (by assumption); omega) | (have hk := rtck (by assumption) (by assumption); omega) | (have hk := eck (by assumption) (by assumption) (by assumption); omega) | (have hk := tv (by assumption) (by assumption); omega) | (have hk := rtv (by assumption) (by assumption); omega))
  refine ab (bn rfl rfl b4) (fL rfl (bm.g_Kind a9) rfl rfl (bN ld rfl rfl (nS ?_)))
  refine co hres rfl ?_ ?_ <;> clear hres <;> intro c hres <;> try simp only [qa] at c
  ·refine ae (sR (mV rfl (gL (au.g_Keys r2) rfl rfl rfl fun c6 c4 => (ab (ca rfl (bq c4 Tryz.underlying38 _)) (bN od rfl rfl (nS ?_))))))
   refine co hres rfl ?_ ?_ <;> clear hres <;> intro c hres <;> try simp only [qa] at c
   ·refine sR (mI rfl (nS ?_))
    exact rR hres rfl rfl rfl
   ·refine az (ah (sR (gL (au.g_Keys r2) rfl rfl rfl fun c8 b1 => (mV rfl ?_))))
    obtain ⟨d4, b2, a7⟩ := cr (i := a0) b1 (by first | omega | (have hk := bc (by assumption) (by assumption); omega) | (have hk := tck (by assumption) (by assumption); omega) | (have hk := rtck (by assumption) (by assumption); omega) | (have hk := eck (by assumption) (by assumption) (by assumption); omega) | (have hk := tv (by assumption) (by assumption); omega) | (have hk := rtv (by assumption) (by assumption); omega)) (by first | omega | (have hk := bc (by assumption) (by assumption); omega) | (have hk := tck (by assumption) (by assumption); omega) | (have hk := rtck (by assumption) (by assumption); omega) | (have hk := eck (by assumption) (by assumption) (by assumption); omega) | (have hk := tv (by assumption) (by assumption); omega) | (have hk := rtv (by assumption) (by assumption); omega))
    refine ab (bn rfl rfl b2) (fL rfl (ay.g_Mask a7) rfl rfl ?_)
    obtain ⟨d1, a5, hres⟩ := cy hres
    have a3 := ci3 (x0 := (ix x2.Keys a0).Mask)  
    rw [a5] at a3
    refine cL a3 rfl rfl (aq rfl bg) (mV rfl (nS ?_))
    exact rR hres rfl rfl rfl
  ·refine az (dc (ah (ai (mV rfl (bN dz rfl rfl (mV rfl (aw (cq ?_))))))))
   have hbd := dm a4
   have hinc : wr (a0 + 1) = a0 + 1 := dt (by omega) (by omega)
   erw [hinc]
   exact wC (ih   (by omega) (by omega) hres) rfl

theorem bs4 {x0 : aa} {x1 : Int} {x2 : au} {v0 v2 : PV} (r0 : aa.t.R x0 v0) (r2 : au.t.R x2 v2) : FnR Tryz.prog 71 [v0, vi x1, v2] (vi (ko x0 x1 x2)) := by
 refine fnS (R := RF71) cx0 (fun _ h => h) rfl fun res hres => ?_
 unfold ko at hres
 refine sR (ab (db rfl (TR.cnt aa.t r0)) (ab (db rfl (TR.cnt au.t r2)) (mI rfl (nS (ae (sR (mV rfl (bN ck rfl rfl ?_))))))))
 refine mV rfl ?_
 refine bt 6 (d := 16) (v := vb ((decide (x1 < 0)) || (decide ((x0.Tables.length : Int) ≤ x1)))) ?_ ?_
 ·intro S Q r
  cases a4 : (decide (x1 < 0))
  ·intro k
   have a1 := a4
   try simp only [qa] at a1
   refine af rfl rfl (ak rfl) ?_
   obtain ⟨a6, a5, a3⟩ := aa.g_Tables r0
   refine af rfl rfl (bb rfl a5) (af rfl rfl (ba rfl (TR.cnt (tSl ax.t) a3) (TR.agg (tSl ax.t) a3)) (af rfl rfl (ca rfl (bq a3 Tryz.underlying26 _)) (af rfl rfl (bd rfl rfl od) ?_)))
   exact gK rfl rfl rfl rfl rfl k
  ·exact gN 5 rfl rfl rfl rfl rfl rfl
 refine nS ?_
 refine co hres rfl ?_ ?_ <;> clear hres <;> intro a0 hres <;> have a2 := a0 <;> try simp only [qa] at a2
 ·refine sR (mI rfl (nS ?_))
  exact rR hres rfl rfl rfl
 ·refine az (ah (ae (sR (mI rfl (nS (bh ?_))))))
  refine wC (sj r0 r2 a0 ?_  rfl (by omega) hres) rfl
  ·intro  hres
   refine fa (ah (sR (mI rfl (nS ?_))))
   exact rR hres rfl rfl rfl

end Go.Proofs.YthdnpgpnodgicaaGreat
