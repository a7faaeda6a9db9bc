/-
 The code of each function does what its plain program says.
-/
import Derived.Test.YthdnpgpnodgicaaGreatL5W0
set_option linter.unusedVariables false
set_option linter.unusedSimpArgs false
set_option maxRecDepth 100000
namespace Go.Proofs.YthdnpgpnodgicaaGreat
open Go Go.Pb Go.RowKit
def RF10 (res : Bool) (r : PV) : Prop := r = vb res
theorem ug {S : List Fr} {res : Bool} {x0 : cg} {a5 : Bool} {v0 : PV} (r0 : cg.t.R x0 v0) (c7 : mc x0.Program = a5) (a9 : ((a5 || (decide (30 < (x0.Rows.length : Int)))) || (decide (20 < (x0.Key.length : Int)))) = false) {K0 : Unit → Bool}
  (d1 : K0 () = res → PX Tryz.prog 0 S (QR Tryz.prog [(2, none)] (RF10 res)) [] ⟨0, []⟩) :
  ∀ {m : Nat} {a0 : Int} (c6 : m = Int.toNat ((x0.Rows.length : Int) - a0)) (a6 : 0 ≤ a0), jf x0 K0 m a0 = res → RC Tryz.prog (.loop cp5) S (QR Tryz.prog [(2, none)] (RF10 res)) [(3, vi a0), (1, .fp v0)] ⟨0, []⟩ := by
 have a3 := a9
 try simp only [qa] at a3
 intro m
 induction m with
 | zero =>
  intro a0 c6 a6 hres
  rw [jf] at hres
  refine bq (ae (sR (mV rfl (gL (cg.g_Rows r0) rfl rfl rfl fun d7 c3 => (ab (cd rfl (br c3 Tryz.underlying32 _)) (bN co rfl rfl (nS ?_)))))))
  refine bg rfl ?_ ?_ <;> intro c <;> try simp only [qa] at c
  ·omega
  refine dm (dx (cy ?_))
  exact wP (d1  hres) rfl
 | succ m ih =>
  intro a0 c6 a6 hres
  rw [jf] at hres
  refine bq (ae (sR (mV rfl (gL (cg.g_Rows r0) rfl rfl rfl fun d5 a8 => (ab (cd rfl (br a8 Tryz.underlying32 _)) (bN co rfl rfl (nS ?_)))))))
  refine bg rfl ?_ ?_ <;> intro c <;> try simp only [qa] at c
  rotate_left
  ·omega
  refine az (af (ae (bf (sR (gL (cg.g_Rows r0) rfl rfl rfl fun d3 b9 => (mV rfl ?_))))))
  obtain ⟨d6, c0, b0⟩ := cx (i := a0) b9 (by first | omega | (have hk := bb (by assumption) (by assumption); omega) | (have hk := tck (by assumption) (by assumption); omega) | (have hk := rtck (by assumption) (by assumption); omega) | (have hk := eck (by assumption) (by assumption) (by assumption); omega) | (have hk := tv (by assumption) (by assumption); omega) | (have hk := rtv (by assumption) (by assumption); omega)) (by first | omega | (have hk := bb (by assumption) (by assumption); omega) | (have hk := tck (by assumption) (by assumption); omega) | (have hk := rtck (by assumption) (by assumption); omega) | (have hk := eck (by assumption) (by assumption) (by assumption); omega) | (have hk := tv (by assumption) (by assumption); omega) | (have hk := rtv (by assumption) (by assumption); omega))
  refine ab (bn rfl rfl c0) ?_
  obtain ⟨c9, c1, b1⟩ := aj.g_Entry b0
  refine fA rfl c1 (gL (au.g_Keys b1) rfl rfl rfl fun d2 b3 => (ab (cd rfl (br b3 Tryz.underlying38 _)) (bN gi rfl rfl (mV rfl ?_))))
  refine bv 11 (d := 46) (v := vb ((decide (20 < ((((ix x0.Rows a0).Entry).Keys).length : Int))) || (decide (20 < (((((ix x0.Rows a0).Entry).Call).Args).length : Int))))) ?_ ?_
  ·intro S Q r
   cases a7 : (decide (20 < ((((ix x0.Rows a0).Entry).Keys).length : Int)))
   ·intro k
    have a2 := a7
    try simp only [qa] at a2
    obtain ⟨d0, b4, a4⟩ := cg.g_Rows r0
    refine ai rfl rfl (bc rfl b4) (ai rfl rfl (ba rfl (TR.cnt (tSl aj.t) a4) (TR.agg (tSl aj.t) a4)) (ai rfl rfl (am rfl) ?_))
    obtain ⟨c8, b8, b7⟩ := cx (i := a0) a4 (by first | omega | (have hk := bb (by assumption) (by assumption); omega) | (have hk := tck (by assumption) (by assumption); omega) | (have hk := rtck (by assumption) (by assumption); omega) | (have hk := eck (by assumption) (by assumption) (by assumption); omega) | (have hk := tv (by assumption) (by assumption); omega) | (have hk := rtv (by assumption) (by assumption); omega)) (by first | omega | (have hk := bb (by assumption) (by assumption); omega) | (have hk := tck (by assumption) (by assumption); omega) | (have hk := rtck (by assumption) (by assumption); omega) | (have hk := eck (by assumption) (by assumption) (by assumption); omega) | (have hk := tv (by assumption) (by assumption); omega) | (have hk := rtv (by assumption) (by assumption); omega))
    refine ai rfl rfl (bn rfl rfl b8) ?_
    obtain ⟨d4, b6, c4⟩ := aj.g_Entry b7
    refine ai rfl rfl (bc rfl b6) ?_
    obtain ⟨d8, b5, b2⟩ := au.g_Call c4
    refine ai rfl rfl (bc rfl b5) ?_
    obtain ⟨d9, c5, a1⟩ := av.g_Args b2
    refine ai rfl rfl (bc rfl c5) (ai rfl rfl (ba rfl (TR.cnt (tSl ko) a1) (TR.agg (tSl ko) a1)) (ai rfl rfl (cd rfl (br a1 Tryz.underlying33 _)) (ai rfl rfl (bd rfl rfl gi) ?_)))
    exact gK rfl rfl rfl rfl rfl k
   ·exact gN 10 rfl rfl rfl rfl rfl rfl
  refine nS ?_
  refine cq hres rfl ?_ ?_ <;> clear hres <;> intro c hres <;> try simp only [qa] at c
  ·refine sR (mB rfl (nS ?_))
   exact rR hres rfl rfl rfl
  ·refine az (dg (af (ah (mV rfl (bN eg rfl rfl (mV rfl (aw (ct ?_))))))))
   have hbd := du a8
   have hinc : wr (a0 + 1) = a0 + 1 := dw (by omega) (by omega)
   erw [hinc]
   exact wC (ih   (by omega) (by omega) hres) rfl

theorem dl6 {x0 : cg} {v0 : PV} (r0 : cg.t.R x0 v0) : FnR Tryz.prog 10 [v0] (vb (me x0)) := by
 refine fnS (R := RF10) dd7 (fun _ h => h) rfl fun res hres => ?_
 unfold me at hres
 refine sR (ab (dh rfl (TR.cnt cg.t r0)) (mB rfl (nS (ae (sR ?_)))))
 obtain ⟨b5, b3, a3⟩ := cg.g_Program r0
 refine fA rfl b3 (lD a3 rfl rfl rfl ?_)
 obtain ⟨a0, a1, hres⟩ := dc hres
 have b0 := dc3  a3 
 rw [a1] at b0
 refine cL b0 rfl rfl (aq (TR.clo aa.t a3) bm) (mV rfl ?_)
 refine bv 5 (d := 12) (v := vb (a0 || (decide (30 < (x0.Rows.length : Int))))) ?_ ?_
 ·intro S Q r
  cases b1 : a0
  ·intro k
   have a6 := b1
   try simp only [qa] at a6
   obtain ⟨b6, b4, a8⟩ := cg.g_Rows r0
   refine ai rfl rfl (bc rfl b4) (ai rfl rfl (ba rfl (TR.cnt (tSl aj.t) a8) (TR.agg (tSl aj.t) a8)) (ai rfl rfl (cd rfl (br a8 Tryz.underlying32 _)) (ai rfl rfl (bd rfl rfl gi) ?_)))
   exact gK rfl rfl rfl rfl rfl k
  ·exact gN 4 rfl rfl rfl rfl rfl rfl
 refine mV rfl ?_
 refine bv 5 (d := 18) (v := vb ((a0 || (decide (30 < (x0.Rows.length : Int)))) || (decide (20 < (x0.Key.length : Int))))) ?_ ?_
 ·intro S Q r
  cases a9 : (a0 || (decide (30 < (x0.Rows.length : Int))))
  ·intro k
   have a5 := a9
   try simp only [qa] at a5
   obtain ⟨b7, b2, a4⟩ := cg.g_Key r0
   refine ai rfl rfl (bc rfl b2) (ai rfl rfl (ba rfl (TR.cnt (tSl ko) a4) (TR.agg (tSl ko) a4)) (ai rfl rfl (cd rfl (br a4 Tryz.underlying33 _)) (ai rfl rfl (bd rfl rfl gi) ?_)))
   exact gK rfl rfl rfl rfl rfl k
  ·exact gN 4 rfl rfl rfl rfl rfl rfl
 refine nS ?_
 refine cq hres rfl ?_ ?_ <;> clear hres <;> intro a2 hres <;> have a7 := a2 <;> try simp only [qa] at a7
 ·refine sR (mB rfl (nS ?_))
  exact rR hres rfl rfl rfl
 ·refine az (af (ae (sR (mI rfl (nS (bf ?_))))))
  refine wC (ug r0 a1 a2 ?_  rfl (by omega) hres) rfl
  ·intro  hres
   refine fd (af (sR (mB rfl (nS ?_))))
   exact rR hres rfl rfl rfl

theorem ec6 : FnR Tryz.prog 11 [] (vb aw5) := bi8

def RF30 (res : Bool) (r : PV) : Prop := r = vb res
theorem wb {S : List Fr} {res : Bool} {x0 : au} {x1 : List (BitVec 32)} {v1 a8 : PV} (r1 : (tSl ko).R x1 v1) (a4 : (!decide ((x1.length : Int) = (x0.Keys.length : Int))) = false) (a5 : (tSl ay.t).R x0.Keys a8) {K0 : Unit → Bool}
  (b5 : ∀ {h : Heap} (M0 : Mem h []), K0 () = res → PX Tryz.prog 0 S (QR Tryz.prog [(4, none)] (RF30 res)) [] h) :
  ∀ {m : Nat} {a0 : Int} (b4 : m = Int.toNat ((x0.Keys.length : Int) - a0)) (a6 : 0 ≤ a0) {h : Heap} (M0 : Mem h []), ij x0 x1 K0 m a0 = res → RC Tryz.prog (.loop cn9) S (QR Tryz.prog [(4, none)] (RF30 res)) [(16, vi a0), (15, vi (x0.Keys.length : Int)), (14, a8), (1, v1)] h := by
 have a3 := a4
 try simp only [qa] at a3
 intro m
 induction m with
 | zero =>
  intro a0 b4 a6 h M0 hres
  rw [ij] at hres
  refine bq (sR (bN co rfl rfl (nS (ae ?_))))
  refine bg rfl ?_ ?_ <;> intro c <;> try simp only [qa] at c
  ·omega
  refine dm (dx (cy ?_))
  exact wP (b5 (Mem.sub M0 .slnil) hres) rfl
 | succ m ih =>
  intro a0 b4 a6 h M0 hres
  rw [ij] at hres
  refine bq (sR (bN co rfl rfl (nS (ae ?_))))
  refine bg rfl ?_ ?_ <;> intro c <;> try simp only [qa] at c
  rotate_left
  ·omega
  refine az (af (ae (bf (sR (mV rfl ?_)))))
  obtain ⟨a7, a9, a2⟩ := cx (i := a0) a5 (by first | omega | (have hk := bb (by assumption) (by assumption); omega) | (have hk := tck (by assumption) (by assumption); omega) | (have hk := rtck (by assumption) (by assumption); omega) | (have hk := eck (by assumption) (by assumption) (by assumption); omega) | (have hk := tv (by assumption) (by assumption); omega) | (have hk := rtv (by assumption) (by assumption); omega)) (by first | omega | (have hk := bb (by assumption) (by assumption); omega) | (have hk := tck (by assumption) (by assumption); omega) | (have hk := rtck (by assumption) (by assumption); omega) | (have hk := eck (by assumption) (by assumption) (by assumption); omega) | (have hk := tv (by assumption) (by assumption); omega) | (have hk := rtv (by assumption) (by assumption); omega))
  refine ab (bn rfl rfl a9) (lD a2 rfl rfl rfl ?_)
  refine dt (x := .agg [df 0#32, df 0#32]) M0 rfl rfl (fun b2 b1 b6 b3 => ?_)
  refine mV rfl ?_
  refine de (k := 0) (v := a7) b3 rfl rfl rfl (TR.cnt ay.t a2) (fun b0 a1 => ?_)
  replace a1 : Mem b0 [⟨.op b2 b1 0, 127, 2, [a7]⟩] := a1
  refine nR (mV rfl (mV rfl (ab (bn rfl rfl (zw r1 (by first | omega | (have hk := bb (by assumption) (by assumption); omega) | (have hk := tck (by assumption) (by assumption); omega) | (have hk := rtck (by assumption) (by assumption); omega) | (have hk := eck (by assumption) (by assumption) (by assumption); omega) | (have hk := tv (by assumption) (by assumption); omega) | (have hk := rtv (by assumption) (by assumption); omega)) (by first | omega | (have hk := bb (by assumption) (by assumption); omega) | (have hk := tck (by assumption) (by assumption); omega) | (have hk := rtck (by assumption) (by assumption); omega) | (have hk := eck (by assumption) (by assumption) (by assumption); omega) | (have hk := tv (by assumption) (by assumption); omega) | (have hk := rtv (by assumption) (by assumption); omega)))) (lR rfl rfl rfl (ab (bz rfl) (ab (dl (k := 0) a1 rfl rfl (ay.g_Value a2)) (ab (bd (a := df (ix x1 a0)) (b := df ((ix x0.Keys a0).Value)) rfl rfl cw3) (ab (bz rfl) ?_))))))))
  refine ab (dl (k := 0) a1 rfl rfl (ay.g_Mask a2)) (ab (bd (a := df ((ix x1 a0) ^^^ ((ix x0.Keys a0).Value))) (b := df ((ix x0.Keys a0).Mask)) rfl rfl aw4) (ab (bd (a := df (((ix x1 a0) ^^^ ((ix x0.Keys a0).Value)) &&& ((ix x0.Keys a0).Mask))) (b := df 0#32) rfl rfl ad7) (nS ?_)))
  refine cq hres rfl ?_ ?_ <;> clear hres <;> intro c hres <;> try simp only [qa] at c
  ·refine sR (mB rfl (nS ?_))
   exact rR hres rfl rfl rfl
  ·refine az (dg (af (ah (bN eg rfl rfl (mV rfl (aw (ct ?_)))))))
   have hbd := du a5
   have hinc : wr (a0 + 1) = a0 + 1 := dw (by omega) (by omega)
   erw [hinc]
   exact wC (ih   (by omega) (by omega) (Mem.sub a1 (.cons _ .slnil)) hres) rfl

theorem dm4 {x0 : au} {x1 : List (BitVec 32)} {v0 v1 : PV} (r0 : au.t.R x0 v0) (r1 : (tSl ko).R x1 v1) : FnR Tryz.prog 30 [v0, v1] (vb (cn x0 x1)) := by
 refine fnS (R := RF30) bn9 (fun _ h => h) rfl fun res hres => ?_
 unfold cn at hres
 refine sR (ab (dh rfl (TR.cnt au.t r0)) (mB rfl (nS (ae (sR (mV rfl (ab (cd rfl (br r1 Tryz.underlying33 _)) (gL (au.g_Keys r0) rfl rfl rfl fun a5 a3 => ?_))))))))
 refine ab (cd rfl (br a3 Tryz.underlying38 _)) (bN jk rfl rfl (nS ?_))
 refine cq hres rfl ?_ ?_ <;> clear hres <;> intro a0 hres <;> have a1 := a0 <;> try simp only [qa] at a1
 ·refine sR (mB rfl (nS ?_))
  exact rR hres rfl rfl rfl
 ·refine az (af (ae (sR (gL (au.g_Keys r0) rfl rfl rfl fun a7 a2 => (ab (cd rfl (br a2 Tryz.underlying38 _)) (mI rfl (nS (bf ?_))))))))
  refine wC (wb r1 a0 a2 ?_  rfl (by omega) (Mem.sub (Mem.nil ⟨0, []⟩) .slnil) hres) rfl
  ·intro a4 a6 hres
   refine fd (af (sR (mB rfl (nS ?_))))
   exact rR hres rfl rfl rfl

def RF31 (res : aj × Bool) (r : PV) : Prop := ∃ c0, r = .tup [c0, vb res.2] ∧ aj.t.R res.1 c0
theorem qw {S : List Fr} {res : aj × Bool} {x0 : List aj} {x1 : aj → Bool} {v0 v1 : PV} {a8 a6 : Nat} (r0 : (tSl aj.t).R x0 v0) (r1 : (tFn Tryz.prog aj.t tB).R x1 v1) {K0 : aj → (aj × Bool)}
  (c0 : ∀ {a2 : aj} {a0 : PV} (a4 : aj.t.R a2 a0) {h : Heap} (M0 : Mem h [⟨.op a8 a6 0, 44, 5, [a0]⟩]), K0 a2 = res → PX Tryz.prog 0 S (QR Tryz.prog [(4, some (5, true)), (5, none)] (RF31 res)) [(4, .op a8 a6 0)] h) :
  ∀ {m : Nat} {a1 : Int} {a2 : aj} {a0 : PV} (a4 : aj.t.R a2 a0) (b9 : m = Int.toNat ((x0.length : Int) - a1)) (b1 : 0 ≤ a1) {h : Heap} (M0 : Mem h [⟨.op a8 a6 0, 44, 5, [a0]⟩]), en x0 x1 K0 m a1 a2 = res → RC Tryz.prog (.loop cf0) S (QR Tryz.prog [(4, some (5, true)), (5, none)] (RF31 res)) [(11, vi a1), (10, vi (x0.length : Int)), (9, v0), (4, .op a8 a6 0), (1, v1)] h := by
 intro m
 induction m with
 | zero =>
  intro a1 a2 a0 a4 b9 b1 h M0 hres
  rw [en] at hres
  refine bq (sR (bN co rfl rfl (nS (ae ?_))))
  refine bg rfl ?_ ?_ <;> intro c <;> try simp only [qa] at c
  ·omega
  refine dm (dx (cy ?_))
  exact wP (c0 a4 (Mem.sub M0 (.cons_cons _ .slnil)) hres) rfl
 | succ m ih =>
  intro a1 a2 a0 a4 b9 b1 h M0 hres
  rw [en] at hres
  refine bq (sR (bN co rfl rfl (nS (ae ?_))))
  refine bg rfl ?_ ?_ <;> intro c <;> try simp only [qa] at c
  rotate_left
  ·omega
  refine az (af (ae (bf (sR ?_))))
  obtain ⟨a5, b8, a3⟩ := cx (i := a1) r0 (by first | omega | (have hk := bb (by assumption) (by assumption); omega) | (have hk := tck (by assumption) (by assumption); omega) | (have hk := rtck (by assumption) (by assumption); omega) | (have hk := eck (by assumption) (by assumption) (by assumption); omega) | (have hk := tv (by assumption) (by assumption); omega) | (have hk := rtv (by assumption) (by assumption); omega)) (by first | omega | (have hk := bb (by assumption) (by assumption); omega) | (have hk := tck (by assumption) (by assumption); omega) | (have hk := rtck (by assumption) (by assumption); omega) | (have hk := eck (by assumption) (by assumption) (by assumption); omega) | (have hk := tv (by assumption) (by assumption); omega) | (have hk := rtv (by assumption) (by assumption); omega))
  refine ab (bn rfl rfl b8) (lD a3 rfl rfl rfl ?_)
  refine dt (x := .agg [vi 0, nilS, vi 0, vi 0, nilS]) M0 rfl rfl (fun b3 b2 c1 b5 => ?_)
  refine de (k := 0) (v := a5) b5 rfl rfl rfl (TR.cnt aj.t a3) (fun b4 a7 => ?_)
  replace a7 : Mem b4 [⟨.op b3 b2 0, 44, 5, [a5]⟩, ⟨.op a8 a6 0, 44, 5, [a0]⟩] := a7
  refine nR (mV rfl (ab (gq (k := 0) a7 rfl rfl (TR.agg aj.t a3)) ?_))
  refine au9 rfl r1 rfl (show aj.t.R (ix x0 a1) a5 from a3) (fun b7 b0 => ?_)
  have b0 : b7 = vb (x1 (ix x0 a1)) := b0; subst b0
  refine nS ?_
  refine cq hres rfl ?_ ?_ <;> clear hres <;> intro c hres <;> try simp only [qa] at c
  ·refine sR (ab (gq (k := 0) a7 rfl rfl (TR.agg aj.t a3)) ?_)
   refine de (k := 1) (v := a5) a7 rfl rfl rfl (TR.cnt aj.t a3) (fun b6 a9 => ?_)
   replace a9 : Mem b6 [⟨.op b3 b2 0, 44, 5, [a5]⟩, ⟨.op a8 a6 0, 44, 5, [a5]⟩] := a9
   refine mB rfl (nS ?_)
   subst hres
   exact fg (.cell rfl (gh (k := 1) a9 rfl (TR.agg aj.t a3)) (.tmp rfl .nil)) (cm (show closed (.tup _) = true from (aq (TR.clo aj.t a3) (aq rfl bm)))) ⟨a5, rfl, a3⟩
  ·refine az (dg (af (ah (bN eg rfl rfl (mV rfl (aw (ct ?_)))))))
   have hbd := du r0
   have hinc : wr (a1 + 1) = a1 + 1 := dw (by omega) (by omega)
   erw [hinc]
   exact wC (ih  a4 (by omega) (by omega) (Mem.sub a7 (.cons _ (.cons_cons _ .slnil))) hres) rfl

theorem bc4 {x0 : List aj} {x1 : aj → Bool} {v0 v1 : PV} (r0 : (tSl aj.t).R x0 v0) (r1 : (tFn Tryz.prog aj.t tB).R x1 v1) : ∃ c0, FnR Tryz.prog 31 [v0, v1] (.tup [c0, vb ((cr x0 x1).2)]) ∧ aj.t.R (cr x0 x1).1 c0 := by
 obtain ⟨res, hres⟩ : ∃ res, cr x0 x1 = res := ⟨_, rfl⟩
 suffices H : RC Tryz.prog dg6 [] (QR Tryz.prog [(4, some (5, true)), (5, none)] (RF31 res)) (argE 0 [v0, v1]) ⟨0, []⟩ by
  rw [hres]
  obtain ⟨r, h1, c0, rfl, b1⟩ := fnE bu7 (by simp) H
  exact ⟨c0, h1, b1⟩
 unfold cr at hres
 refine sR ?_
 refine dt (x := .agg [vi 0, nilS, vi 0, vi 0, nilS]) (Mem.nil ⟨0, []⟩) rfl rfl (fun a8 a5 b0 a7 => ?_)
 refine mB rfl (nS (ae (sR (mV rfl (ab (cd rfl (br r0 Tryz.underlying32 _)) (mI rfl (nS (bf ?_))))))))
 refine wC (qw r0 r1 ?_  (show aj.t.R ({ ID := 0, Entry := ({ Keys := ([] : List ay), Priority := 0, Call := ({ Action := 0, Args := ([] : List (BitVec 32)) } : av) } : au) } : aj) (.agg [vi 0, nilS, vi 0, vi 0, nilS]) from ⟨nilS, nilS, rfl, ib, ib⟩) rfl (by omega) (Mem.sub a7 (.cons_cons _ .slnil)) hres) rfl
 ·intro a1 a3 a2 a9 a4 hres
  refine fd (af (sR (ab (zt (x := .agg [vi 0, nilS, vi 0, vi 0, nilS]) rfl rfl) (nR (lR rfl rfl rfl ?_)))))
  refine de (k := 0) (v := .agg [vi 0, nilS, vi 0, vi 0, nilS]) a4 rfl rfl rfl rfl (fun a6 a0 => ?_)
  replace a0 : Mem a6 [⟨.op a8 a5 0, 44, 5, [.agg [vi 0, nilS, vi 0, vi 0, nilS]]⟩] := a0
  refine mB rfl (nS ?_)
  subst hres
  exact fg (.cell rfl (gh (k := 0) a0 rfl rfl) (.tmp rfl .nil)) (cm (show closed (.tup _) = true from (aq (TR.clo aj.t (show aj.t.R ({ ID := 0, Entry := ({ Keys := ([] : List ay), Priority := 0, Call := ({ Action := 0, Args := ([] : List (BitVec 32)) } : av) } : au) } : aj) (.agg [vi 0, nilS, vi 0, vi 0, nilS]) from ⟨nilS, nilS, rfl, ib, ib⟩)) (aq rfl bm)))) ⟨.agg [vi 0, nilS, vi 0, vi 0, nilS], rfl, ⟨nilS, nilS, rfl, ib, ib⟩⟩

def RF107 (res : Int) (r : PV) : Prop := r = vi res
theorem tu {S : List Fr} {res : Int} {x0 : BitVec 32} {K0 : Int → Int}
  (a4 : ∀ {a1 : Int}, K0 a1 = res → PX Tryz.prog 0 S (QR Tryz.prog [(2, none)] (RF107 res)) [(3, vi a1)] ⟨0, []⟩) :
  ∀ {m : Nat} {a1 a0 : Int} (a3 : m = Int.toNat (32 - a0)) (a2 : 0 ≤ a0), io x0 K0 m a1 a0 = res → RC Tryz.prog (.loop cd8) S (QR Tryz.prog [(2, none)] (RF107 res)) [(5, vi a0), (3, vi a1), (0, df x0)] ⟨0, []⟩ := by
 intro m
 induction m with
 | zero =>
  intro a1 a0 a3 a2 hres
  rw [io] at hres
  refine bq (sR (bN co rfl rfl (nS (ae ?_))))
  refine bg rfl ?_ ?_ <;> intro c <;> try simp only [qa] at c
  ·omega
  refine dm (dx (cy ?_))
  exact wP (a4  hres) rfl
 | succ m ih =>
  intro a1 a0 a3 a2 hres
  rw [io] at hres
  refine bq (sR (bN co rfl rfl (nS (ae ?_))))
  refine bg rfl ?_ ?_ <;> intro c <;> try simp only [qa] at c
  rotate_left
  ·omega
  refine az (af (ae (bf (sR (mV rfl (mV rfl (nS (ah ?_))))))))
  refine mV rfl (mV rfl (mV rfl (ab (bd (a := df x0) (b := vi a0) rfl rfl (bi3 (by first | omega | (rw [dw (by omega) (by omega)]; omega)))) (ab (bd (a := df (x0 >>> a0.toNat)) (b := df 1#32) rfl rfl aw4) (ab (xq (a := df ((x0 >>> a0.toNat) &&& 1#32)) rfl (c_wi Tryz.underlying64 Tryz.underlying3)) (bN eg rfl rfl (mV rfl (aw ?_))))))))
  refine dg (af (ah (bN eg rfl rfl (mV rfl (aw (ct ?_))))))
  have hinc : wr (a0 + 1) = a0 + 1 := dw (by omega) (by omega)
  erw [hinc]
  exact wC (ih   (by omega) (by omega) hres) rfl

theorem cl0 {x0 : BitVec 32} : FnR Tryz.prog 107 [df x0] (vi (iy x0)) := by
 refine fnS (R := RF107) be1 (fun _ h => h) rfl fun res hres => ?_
 unfold iy at hres
 refine sR (mI rfl (nR (mI rfl (nS (ae (sR (mI rfl (nS ?_))))))))
 refine bf ?_
 refine wC (tu  ?_  rfl (by omega) hres) rfl
 ·intro a0 hres
  refine fd (af (sR (mV rfl (mV rfl (nS ?_)))))
  exact rR hres rfl rfl rfl

def RF68 (res : Int) (r : PV) : Prop := r = vi res
theorem xd {S : List Fr} {res : Int} {x0 : aa} {x1 : Int} {x2 : au} {v2 a9 : PV} (r2 : au.t.R x2 v2) (a8 : ((decide (x1 < 0)) || (decide ((x0.Tables.length : Int) ≤ x1))) = false) (a7 : (tSl bh.t).R ((ix x0.Tables x1).Keys) a9) {K0 : Unit → Int}
  (c4 : ∀ {h : Heap} (M0 : Mem h []), K0 () = res → PX Tryz.prog 0 S (QR Tryz.prog [(6, none)] (RF68 res)) [] h) :
  ∀ {m : Nat} {a0 : Int} (c0 : m = Int.toNat ((((ix x0.Tables x1).Keys).length : Int) - a0)) (a6 : 0 ≤ a0) {h : Heap} (M0 : Mem h []), fj x0 x1 x2 K0 m a0 = res → RC Tryz.prog (.loop ck3) S (QR Tryz.prog [(6, none)] (RF68 res)) [(25, vi a0), (24, vi (((ix x0.Tables x1).Keys).length : Int)), (23, a9), (5, .fp v2)] h := by
 have a3 := a8
 try simp only [qa] at a3
 intro m
 induction m with
 | zero =>
  intro a0 c0 a6 h M0 hres
  rw [fj] at hres
  refine bq (sR (bN co rfl rfl (nS (ae ?_))))
  refine bg rfl ?_ ?_ <;> intro c <;> try simp only [qa] at c
  ·omega
  refine dm (dx (cy ?_))
  exact wP (c4 (Mem.sub M0 .slnil) hres) rfl
 | succ m ih =>
  intro a0 c0 a6 h M0 hres
  rw [fj] at hres
  refine bq (sR (bN co rfl rfl (nS (ae ?_))))
  refine bg rfl ?_ ?_ <;> intro c <;> try simp only [qa] at c
  rotate_left
  ·omega
  refine az (af (ae (bf (sR (mV rfl ?_)))))
  obtain ⟨b0, b2, a2⟩ := cx (i := a0) a7 (by first | omega | (have hk := bb (by assumption) (by assumption); omega) | (have hk := tck (by assumption) (by assumption); omega) | (have hk := rtck (by assumption) (by assumption); omega) | (have hk := eck (by assumption) (by assumption) (by assumption); omega) | (have hk := tv (by assumption) (by assumption); omega) | (have hk := rtv (by assumption) (by assumption); omega)) (by first | omega | (have hk := bb (by assumption) (by assumption); omega) | (have hk := tck (by assumption) (by assumption); omega) | (have hk := rtck (by assumption) (by assumption); omega) | (have hk := eck (by assumption) (by assumption) (by assumption); omega) | (have hk := tv (by assumption) (by assumption); omega) | (have hk := rtv (by assumption) (by assumption); omega))
  refine ab (bn rfl rfl b2) (lD a2 rfl rfl rfl ?_)
  refine dt (x := .agg [vi 0, vi 0, vi 0]) M0 rfl rfl (fun b9 b8 c5 b7 => ?_)
  refine mV rfl ?_
  refine de (k := 0) (v := b0) b7 rfl rfl rfl (TR.cnt bh.t a2) (fun b1 a1 => ?_)
  replace a1 : Mem b1 [⟨.op b9 b8 0, 112, 3, [b0]⟩] := a1
  refine nR (ab (bz rfl) (ab (dl (k := 0) a1 rfl rfl (bh.g_Kind a2)) (bN lh rfl rfl (nS ?_))))
  refine cq hres rfl ?_ ?_ <;> clear hres <;> intro c hres <;> try simp only [qa] at c
  ·refine ae (sR (mV rfl (gL (au.g_Keys r2) rfl rfl rfl fun c1 b3 => (ab (cd rfl (br b3 Tryz.underlying38 _)) (bN co rfl rfl (nS ?_))))))
   refine cq hres rfl ?_ ?_ <;> clear hres <;> intro c hres <;> try simp only [qa] at c
   ·refine sR (gL (au.g_Keys r2) rfl rfl rfl fun c3 b5 => (mV rfl ?_))
    obtain ⟨c7, b4, b6⟩ := cx (i := a0) b5 (by first | omega | (have hk := bb (by assumption) (by assumption); omega) | (have hk := tck (by assumption) (by assumption); omega) | (have hk := rtck (by assumption) (by assumption); omega) | (have hk := eck (by assumption) (by assumption) (by assumption); omega) | (have hk := tv (by assumption) (by assumption); omega) | (have hk := rtv (by assumption) (by assumption); omega)) (by first | omega | (have hk := bb (by assumption) (by assumption); omega) | (have hk := tck (by assumption) (by assumption); omega) | (have hk := rtck (by assumption) (by assumption); omega) | (have hk := eck (by assumption) (by assumption) (by assumption); omega) | (have hk := tv (by assumption) (by assumption); omega) | (have hk := rtv (by assumption) (by assumption); omega))
    refine ab (bn rfl rfl b4) (fL rfl (ay.g_Mask b6) rfl rfl ?_)
    obtain ⟨c6, a4, hres⟩ := dc hres
    have a5 := cl0 (x0 := (ix x2.Keys a0).Mask)  
    rw [a4] at a5
    refine cL a5 rfl rfl (aq rfl bm) (mV rfl (nS ?_))
    exact rR hres rfl rfl rfl
   ·refine az (af (sR (mI rfl (nS ?_))))
    exact rR hres rfl rfl rfl
  ·refine az (dg (af (ah (bN eg rfl rfl (mV rfl (aw (ct ?_)))))))
   have hbd := du a7
   have hinc : wr (a0 + 1) = a0 + 1 := dw (by omega) (by omega)
   erw [hinc]
   exact wC (ih   (by omega) (by omega) (Mem.sub a1 (.cons _ .slnil)) hres) rfl

theorem bp3 {x0 : aa} {x1 : Int} {x2 : au} {v0 v2 : PV} (r0 : aa.t.R x0 v0) (r2 : au.t.R x2 v2) : FnR Tryz.prog 68 [v0, vi x1, v2] (vi (fk x0 x1 x2)) := by
 refine fnS (R := RF68) bs8 (fun _ h => h) rfl fun res hres => ?_
 unfold fk at hres
 refine sR (ab (dh rfl (TR.cnt aa.t r0)) (ab (dh rfl (TR.cnt au.t r2)) (mI rfl (nS (ae (sR (mV rfl (bN co rfl rfl ?_))))))))
 refine mV rfl ?_
 refine bv 6 (d := 17) (v := vb ((decide (x1 < 0)) || (decide ((x0.Tables.length : Int) ≤ x1)))) ?_ ?_
 ·intro S Q r
  cases a5 : (decide (x1 < 0))
  ·intro k
   have a3 := a5
   try simp only [qa] at a3
   refine ai rfl rfl (am rfl) ?_
   obtain ⟨b6, b0, a1⟩ := aa.g_Tables r0
   refine ai rfl rfl (bc rfl b0) (ai rfl rfl (ba rfl (TR.cnt (tSl ax.t) a1) (TR.agg (tSl ax.t) a1)) (ai rfl rfl (cd rfl (br a1 Tryz.underlying26 _)) (ai rfl rfl (bd rfl rfl oa) ?_)))
   exact gK rfl rfl rfl rfl rfl k
  ·exact gN 5 rfl rfl rfl rfl rfl rfl
 refine nS ?_
 refine cq hres rfl ?_ ?_ <;> clear hres <;> intro a0 hres <;> have a4 := a0 <;> try simp only [qa] at a4
 ·refine sR (mI rfl (nS ?_))
  exact rR hres rfl rfl rfl
 ·refine az (af (ae (sR ?_)))
  obtain ⟨b3, a8, a6⟩ := aa.g_Tables r0
  refine fA rfl a8 (lD a6 rfl rfl rfl (mV rfl ?_))
  obtain ⟨b4, b1, a9⟩ := cx (i := x1) a6 (by first | omega | (have hk := bb (by assumption) (by assumption); omega) | (have hk := tck (by assumption) (by assumption); omega) | (have hk := rtck (by assumption) (by assumption); omega) | (have hk := eck (by assumption) (by assumption) (by assumption); omega) | (have hk := tv (by assumption) (by assumption); omega) | (have hk := rtv (by assumption) (by assumption); omega)) (by first | omega | (have hk := bb (by assumption) (by assumption); omega) | (have hk := tck (by assumption) (by assumption); omega) | (have hk := rtck (by assumption) (by assumption); omega) | (have hk := eck (by assumption) (by assumption) (by assumption); omega) | (have hk := tv (by assumption) (by assumption); omega) | (have hk := rtv (by assumption) (by assumption); omega))
  refine ab (bn rfl rfl b1) ?_
  obtain ⟨b5, a7, a2⟩ := ax.g_Keys a9
  refine fA rfl a7 (lD a2 rfl rfl rfl (ab (cd rfl (br a2 Tryz.underlying85 _)) (mI rfl (nS (bf ?_)))))
  refine wC (xd r2 a0 a2 ?_  rfl (by omega) (Mem.sub (Mem.nil ⟨0, []⟩) .slnil) hres) rfl
  ·intro b7 b2 hres
   refine fd (af (sR (mI rfl (nS ?_))))
   exact rR hres rfl rfl rfl

def RF34 (res : Bool) (r : PV) : Prop := r = vb res
theorem cy4 {x0 : aa} {x1 : Int} {x2 : aj} {x3 : aj} {v0 v2 v3 : PV} (r0 : aa.t.R x0 v0) (r2 : aj.t.R x2 v2) (r3 : aj.t.R x3 v3) : FnR Tryz.prog 34 [v0, vi x1, v2, v3] (vb (di x0 x1 x2 x3)) := by
 refine fnS (R := RF34) cd2 (fun _ h => h) rfl fun res hres => ?_
 unfold di at hres
 refine sR (ab (dh rfl (TR.cnt aa.t r0)) (ab (dh rfl (TR.cnt aj.t r2)) (ab (dh rfl (TR.cnt aj.t r3)) (mB rfl (nS (ae (sR ?_)))))))
 obtain ⟨b6, a7, b1⟩ := aj.g_Entry r2
 refine fA rfl a7 (fL rfl (au.g_Priority b1) rfl rfl ?_)
 obtain ⟨c3, b2, b0⟩ := aj.g_Entry r3
 refine fA rfl b2 (fL rfl (au.g_Priority b0) rfl rfl (bN jk rfl rfl (nS ?_)))
 refine cq hres rfl ?_ ?_ <;> clear hres <;> intro c hres <;> try simp only [qa] at c
 ·refine sR ?_
  obtain ⟨b7, a8, b3⟩ := aj.g_Entry r2
  refine fA rfl a8 (fL rfl (au.g_Priority b3) rfl rfl ?_)
  obtain ⟨b9, b5, a9⟩ := aj.g_Entry r3
  refine fA rfl b5 (fL rfl (au.g_Priority a9) rfl rfl (bN gi rfl rfl (mV rfl (nS ?_))))
  exact rR hres rfl rfl rfl
 ·refine az (af (ae (sR (lD r0 rfl rfl rfl (mV rfl ?_)))))
  obtain ⟨c0, a6, a0⟩ := aj.g_Entry r2
  refine fA rfl a6 (lD a0 rfl rfl rfl ?_)
  obtain ⟨c4, a5, hres⟩ := dc hres
  have a2 := bp3 (x1 := x1) r0 a0 
  rw [a5] at a2
  refine cL a2 rfl rfl (aq (TR.clo aa.t r0) (aq rfl (aq (TR.clo au.t a0) bm))) (lD r0 rfl rfl rfl (mV rfl ?_))
  obtain ⟨c1, b4, a1⟩ := aj.g_Entry r3
  refine fA rfl b4 (lD a1 rfl rfl rfl ?_)
  obtain ⟨b8, a3, hres⟩ := dc hres
  have a4 := bp3 (x1 := x1) r0 a1 
  rw [a3] at a4
  refine cL a4 rfl rfl (aq (TR.clo aa.t r0) (aq rfl (aq (TR.clo au.t a1) bm))) (mV rfl (mV rfl (nR (mV rfl (mV rfl (bN jk rfl rfl (nS ?_)))))))
  refine cq hres rfl ?_ ?_ <;> clear hres <;> intro c hres <;> try simp only [qa] at c
  ·refine sR (mV rfl (mV rfl (bN gi rfl rfl (mV rfl (nS ?_)))))
   exact rR hres rfl rfl rfl
  ·refine az (af (sR (fL rfl (aj.g_ID r2) rfl rfl (fL rfl (aj.g_ID r3) rfl rfl (bN co rfl rfl (mV rfl (nS ?_)))))))
   exact rR hres rfl rfl rfl

theorem bw9 (ad : Option Addr) (ox oy : Operand) : ∃ b, binF Tryz.prog .eql 38 ox oy (.sc (.slice ad 0 0)) nilS = some (vb b) := by
 cases ad with
 | none => exact ⟨true, by kernel_rfl⟩
 | some a => exact ⟨false, by cases a; kernel_rfl⟩
theorem cj1 (tg : Bool) (es : List PV) (ox oy : Operand) : binF Tryz.prog .eql 38 ox oy (.fs tg es) nilS = some (vb false) := rfl
theorem ca1 {l : List ay} {v : PV} (r : (tSl ay.t).R l v) (ox oy : Operand) : ∃ b, binF Tryz.prog .eql 38 ox oy v nilS = some (vb b) ∧ (b = true → l = []) := by
 obtain ⟨⟨es, he, hl⟩, hb⟩ := r
 rcases he with ⟨ad, rfl, rfl⟩ | ⟨tg, rfl⟩
 ·obtain ⟨b, h⟩ := bw9 ad ox oy
  refine ⟨b, h, fun _ => ?_⟩
  cases l with
  | nil => rfl
  | cons _ _ => simp [All2] at hl
 ·exact ⟨false, cj1 tg es ox oy, fun h => by cases h⟩
theorem cy2 {x0 : List ay} {v0 : PV} (r0 : (tSl ay.t).R x0 v0) (hb : x0.length ≤ 2000000) : ∃ r, FnR Tryz.prog 69 [v0] r ∧ (tSl ay.t).R x0 r := by
 refine fnE cb1 (by simp) ?_
 refine ae (ah (ab (v := nilS) (am rfl) (aw (af (ae (ae (ah (ab (am rfl) ?_))))))))
 obtain ⟨b, e1, e2⟩ := ca1 r0 (.tmp 3) (.const (.slice none 0 0))
 refine ab (bd rfl rfl e1) (aw (af (bg rfl (fun hc => ?_) fun hc => ?_)))
 ·have hx := e2 hc
  refine ae (ah (ab (v := nilS) (am rfl) (aw (af ?_))))
  exact fg (.tmp rfl .nil) (cm rfl) (by rw [hx]; exact ib)
 ·refine az (af (ae (ah ?_)))
  refine ab (v := .fs true []) (lj rfl og) (ab (am rfl) ?_)
  have MA := rj (sz := 2) (es := []) (Mem.nil ⟨0, []⟩) 127 (.inr rfl) (by simp)
  obtain ⟨nw, sr, ar⟩ := zg (t := ay.t) (h := ⟨0, []⟩) r0
  have ff : fits (([] : List PV).length + nw.length) 8 = true := by rw [All2.length_eq ar]; (try simp only [List.length_cons, List.length_nil]); exact qi (by omega) (by omega)
  refine rn (k := 0) (es := ([] : List PV)) (news := nw) MA rfl rfl rfl rfl (.inl rfl) sr ff (fun a h n wr M => ?_)
  refine ab (am rfl) (aw (af ?_))
  obtain ⟨v1, d1, r1⟩ := zo (P := Tryz.prog) (k := 0) (t := ay.t) M rfl n ar (Nat.le_trans (show x0.length ≤ 4611686018427387904 by omega) (by decide))
  exact fg (.tmp rfl .nil) d1 r1
theorem bo4 (ad : Option Addr) (ox oy : Operand) : ∃ b, binF Tryz.prog .eql 33 ox oy (.sc (.slice ad 0 0)) nilS = some (vb b) := by
 cases ad with
 | none => exact ⟨true, by kernel_rfl⟩
 | some a => exact ⟨false, by cases a; kernel_rfl⟩
theorem ck7 (tg : Bool) (es : List PV) (ox oy : Operand) : binF Tryz.prog .eql 33 ox oy (.fs tg es) nilS = some (vb false) := rfl
theorem bw5 {l : List (BitVec 32)} {v : PV} (r : (tSl ko).R l v) (ox oy : Operand) : ∃ b, binF Tryz.prog .eql 33 ox oy v nilS = some (vb b) ∧ (b = true → l = []) := by
 obtain ⟨⟨es, he, hl⟩, hb⟩ := r
 rcases he with ⟨ad, rfl, rfl⟩ | ⟨tg, rfl⟩
 ·obtain ⟨b, h⟩ := bo4 ad ox oy
  refine ⟨b, h, fun _ => ?_⟩
  cases l with
  | nil => rfl
  | cons _ _ => simp [All2] at hl
 ·exact ⟨false, ck7 tg es ox oy, fun h => by cases h⟩
theorem df0 {x0 : List (BitVec 32)} {v0 : PV} (r0 : (tSl ko).R x0 v0) (hb : x0.length ≤ 2000000) : ∃ r, FnR Tryz.prog 70 [v0] r ∧ (tSl ko).R x0 r := by
 refine fnE cb5 (by simp) ?_
 refine ae (ah (ab (v := nilS) (am rfl) (aw (af (ae (ae (ah (ab (am rfl) ?_))))))))
 obtain ⟨b, e1, e2⟩ := bw5 r0 (.tmp 3) (.const (.slice none 0 0))
 refine ab (bd rfl rfl e1) (aw (af (bg rfl (fun hc => ?_) fun hc => ?_)))
 ·have hx := e2 hc
  refine ae (ah (ab (v := nilS) (am rfl) (aw (af ?_))))
  exact fg (.tmp rfl .nil) (cm rfl) (by rw [hx]; exact ib)
 ·refine az (af (ae (ah ?_)))
  refine ab (v := .fs true []) (lj rfl og) (ab (am rfl) ?_)
  have MA := rj (sz := 1) (es := []) (Mem.nil ⟨0, []⟩) 64 (.inr rfl) (by simp)
  obtain ⟨nw, sr, ar⟩ := zg (t := ko) (h := ⟨0, []⟩) r0
  have ff : fits (([] : List PV).length + nw.length) 4 = true := by rw [All2.length_eq ar]; (try simp only [List.length_cons, List.length_nil]); exact qi (by omega) (by omega)
  refine rn (k := 0) (es := ([] : List PV)) (news := nw) MA rfl rfl rfl rfl (.inl rfl) sr ff (fun a h n wr M => ?_)
  refine ab (am rfl) (aw (af ?_))
  obtain ⟨v1, d1, r1⟩ := zo (P := Tryz.prog) (k := 0) (t := ko) M rfl n ar (Nat.le_trans (show x0.length ≤ 4611686018427387904 by omega) (by decide))
  exact fg (.tmp rfl .nil) d1 r1
theorem an7 {x0 : aj} {v0 : PV} (r0 : aj.t.R x0 v0) (hb : SR x0) : ∃ r, FnR Tryz.prog 35 [v0] r ∧ aj.t.R x0 r := by
 refine fnE bz0 (by simp) ?_
 have a0 := r0
 obtain ⟨c1, c2, rfl, q1, q2⟩ := a0
 refine ae (ah ?_)
 refine xv (Mem.nil _) rfl rfl (fun i1 w1 h1 M1 => ?_)
 refine dt (x := .agg [vi 0, nilS, vi 0, vi 0, nilS]) M1 rfl rfl (fun i2 w2 h2 M2 => aw (af ?_))
 obtain ⟨d1, f1, s1⟩ := cy2 q1 (by have := hb.1; omega)
 obtain ⟨d2, f2, s2⟩ := df0 q2 (by have := hb.2; omega)
 refine ae (ah ?_)
 refine ab (bz rfl) (ab (bz rfl) (ab (dl (k := 1) M2 rfl rfl (mk1 (TR.agg _ q1))) ?_))
 refine cL f1 rfl rfl (aq (TR.clo _ q1) bm) (ab (bz rfl) (ab (bz rfl) ?_))
 refine mz (k := 1) (v := d1) M2 rfl rfl rfl (zi (TR.cnt _ s1) (TR.agg _ s1)) rfl (by simp) (fun h3 M3 => aw (af ?_))
 replace M3 : Mem h3 [⟨.op i2 w2 0, 44, 5, [.agg [vi 0, nilS, vi 0, vi 0, nilS]]⟩, ⟨.op i1 w1 0, 44, 5, [.agg [vi x0.ID, d1, vi x0.Entry.Priority, vi x0.Entry.Call.Action, c2]]⟩] := M3
 refine ae (ah ?_)
 refine ab (bz rfl) (ab (bz rfl) (ab (bz rfl) (ab (dl (off := 4) (k := 1) M3 rfl rfl (mk1 (TR.agg _ q2))) ?_)))
 refine cL f2 rfl rfl (aq (TR.clo _ q2) bm) (ab (bz rfl) (ab (bz rfl) (ab (bz rfl) ?_)))
 refine mz (off := 4) (k := 1) (v := d2) M3 rfl rfl rfl (zi (TR.cnt _ s2) (TR.agg _ s2)) rfl (by simp) (fun h4 M4 => aw (af ?_))
 replace M4 : Mem h4 [⟨.op i2 w2 0, 44, 5, [.agg [vi 0, nilS, vi 0, vi 0, nilS]]⟩, ⟨.op i1 w1 0, 44, 5, [.agg [vi x0.ID, d1, vi x0.Entry.Priority, vi x0.Entry.Call.Action, d2]]⟩] := M4
 refine ae (ah ?_)
 refine ab (gq (k := 1) M4 rfl rfl rfl) ?_
 have hR : aj.t.R x0 (.agg [vi x0.ID, d1, vi x0.Entry.Priority, vi x0.Entry.Call.Action, d2]) := ⟨d1, d2, rfl, s1, s2⟩
 refine de (k := 0) (v := .agg [vi x0.ID, d1, vi x0.Entry.Priority, vi x0.Entry.Call.Action, d2]) M4 rfl rfl rfl rfl (fun h5 M5 => aw (af ?_))
 exact fg (.cell rfl (gh (k := 0) M5 rfl rfl) .nil) (cm (TR.clo _ hR)) hR
theorem eg5 {x0 : aj} {c0 : List (BitVec 32)} {v0 w0 : PV} (r0 : aj.t.R x0 v0) (a0 : (tSl ko).R c0 w0) : FnR Tryz.prog 29 [v0, .fp w0] (vb (cn x0.Entry c0)) := by
 obtain ⟨r, h1, rfl⟩ : ∃ r, FnR Tryz.prog 29 [v0, .fp w0] r ∧ r = vb (cn x0.Entry c0) := by
  refine fnE bo0 (by simp) ?_
  refine ae (ah (ab (dh rfl (TR.cnt aj.t r0)) (ab (v := vb false) (am rfl) (aw (af ?_)))))
  obtain ⟨we, ge, re⟩ := aj.g_Entry r0
  refine ae (ah (ab (bc rfl ge) (ab (ba rfl (TR.cnt _ re) (TR.agg _ re)) (ab (ba rfl (TR.cnt _ a0) (TR.agg _ a0)) ?_))))
  refine cL (dm4 re a0) rfl rfl (aq (TR.clo _ re) (aq (TR.clo _ a0) bm)) (ab (am rfl) (aw (af ?_)))
  exact fg (.tmp rfl .nil) (cm rfl) rfl
 exact h1
theorem ec2 {c0 : List (BitVec 32)} {w0 : PV} (a0 : (tSl ko).R c0 w0) : (tFn Tryz.prog aj.t tB).R (fun r => cn r.Entry c0) (.fn (.func 29) [] [.fp w0]) :=
 ⟨29, [], _, rfl, rfl, by simp [closedL, closed, TR.clo _ a0], fun a va ra => ⟨_, eg5 ra a0, rfl⟩⟩
theorem ec3 {c0 : aj → Bool} {c1 : aa} {c2 : Int} {u w1 : PV} (ru : (tFn Tryz.prog aj.t tB).R c0 u) (a0 : aa.t.R c1 w1) {x0 c3 : aj} {v0 w3 : PV} (r0 : aj.t.R x0 v0) (a1 : aj.t.R c3 w3) : FnR Tryz.prog 33 [v0, .fp u, .fp w1, .fp (vi c2), .fp w3] (vb (c0 x0 && di c1 c2 x0 c3)) := by
 obtain ⟨r, h1, rfl⟩ : ∃ r, FnR Tryz.prog 33 [v0, .fp u, .fp w1, .fp (vi c2), .fp w3] r ∧ r = vb (c0 x0 && di c1 c2 x0 c3) := by
  refine fnE bp4 (by simp) ?_
  refine ae (ah (ab (dh rfl (TR.cnt aj.t r0)) (ab (v := vb false) (am rfl) (aw (af ?_)))))
  refine ae (ah (ab (ba rfl (TR.cnt _ ru) (TR.agg _ ru)) (lD r0 rfl rfl rfl ?_)))
  obtain ⟨vr, hc, hvr⟩ := an1 (E := (8, v0) :: (7, u) :: _) (f := .tmp 7) (args := [.tmp 8]) (hf := false) (h := ⟨0, []⟩) rfl ru rfl r0
  have hvr : vr = vb (c0 x0) := hvr
  subst hvr
  refine rz hc (ab (am rfl) ?_)
  refine bv 6 (d := 16) (v := vb (c0 x0 && di c1 c2 x0 c3)) ?_ ?_
  ·intro S Q r
   cases c0 x0
   ·exact gN 5 rfl rfl rfl rfl rfl rfl
   ·intro k
    refine ai rfl rfl (ba rfl (TR.cnt _ a0) (TR.agg _ a0)) (ai rfl rfl (ba rfl rfl rfl) (ai rfl rfl (ba rfl (TR.cnt _ r0) (TR.agg _ r0)) (ai rfl rfl (ba rfl (TR.cnt _ a1) (TR.agg _ a1)) ?_)))
    refine fu rfl rfl (mb rfl rfl (aq (TR.clo _ a0) (aq rfl (aq (TR.clo _ r0) (aq (TR.clo _ a1) bm)))) (cy4 (x1 := c2) a0 r0 a1)) ?_
    exact gK rfl rfl rfl rfl rfl k
  refine ab (am rfl) (aw (af ?_))
  exact fg (.tmp rfl .nil) (cm rfl) rfl
 exact h1
theorem ec1 {c0 : aj → Bool} {c1 : aa} {c2 : Int} {u w1 : PV} (ru : (tFn Tryz.prog aj.t tB).R c0 u) (a1 : aa.t.R c1 w1) {c3 : aj} {w3 : PV} (a0 : aj.t.R c3 w3) : (tFn Tryz.prog aj.t tB).R (fun x => c0 x && di c1 c2 x c3) (.fn (.func 33) [] [.fp u, .fp w1, .fp (vi c2), .fp w3]) :=
 ⟨33, [], _, rfl, rfl, by simp [closedL, closed, TR.clo _ ru, TR.clo _ a1, TR.clo _ a0], fun a va ra => ⟨_, ec3 ru a1 ra a0, rfl⟩⟩
theorem eg6 {c0 : aj → Bool} {c1 : aa} {c2 : Int} {u w1 : PV} (ru : (tFn Tryz.prog aj.t tB).R c0 u) (a0 : aa.t.R c1 w1) {x0 : aj} {l : List aj} {v0 vl : PV} (r0 : aj.t.R x0 v0) (rl : (tSl aj.t).R l vl) : FnR Tryz.prog 32 [v0, .fp u, .fp vl, .fp w1, .fp (vi c2)] (vb (c0 x0 && !(cr l (fun x => c0 x && di c1 c2 x x0)).2)) := by
 obtain ⟨r, h1, rfl⟩ : ∃ r, FnR Tryz.prog 32 [v0, .fp u, .fp vl, .fp w1, .fp (vi c2)] r ∧ r = vb (c0 x0 && !(cr l (fun x => c0 x && di c1 c2 x x0)).2) := by
  refine fnE bq6 (by simp) ?_
  refine ae (ah (ab (dh rfl (TR.cnt aj.t r0)) (ab (v := vb false) (am rfl) (aw (af ?_)))))
  refine ae (ae (ah (ab (ba rfl (TR.cnt _ ru) (TR.agg _ ru)) (lD r0 rfl rfl rfl ?_))))
  obtain ⟨vr, hc, hvr⟩ := an1 (E := (10, v0) :: (9, u) :: _) (f := .tmp 9) (args := [.tmp 10]) (hf := false) (h := ⟨0, []⟩) rfl ru rfl r0
  have hvr : vr = vb (c0 x0) := hvr
  subst hvr
  refine rz hc (ab (gc rfl) (aw (af (bg rfl (fun hn => ?_) fun hn => ?_))))
  ·refine ae (ah (ab (v := vb false) (am rfl) (aw (af ?_))))
   have hn : c0 x0 = false := by simpa using hn
   exact fg (.tmp rfl .nil) (cm rfl) (by rw [hn]; rfl)
  ·have hn : c0 x0 = true := by simpa using hn
   obtain ⟨d, f1, s1⟩ := bc4 rl (ec1 (c2 := c2) ru a0 r0)
   refine az (af (ae (ah ?_)))
   refine ab (ba rfl (TR.cnt _ rl) (TR.agg _ rl)) (ab (v := .fn (.func 33) [] [.fp u, .fp w1, .fp (vi c2), .fp v0]) (vp rfl rfl) ?_)
   refine cL f1 rfl rfl (aq (TR.clo _ rl) (aq (by simp [closedL, closed, TR.clo _ ru, TR.clo _ a0, TR.clo _ r0]) bm)) ?_
   refine ab (am rfl) (ab (dp rfl rfl) (ab (dp rfl rfl) ?_))
   refine dt (x := .agg [vi 0, nilS, vi 0, vi 0, nilS]) (Mem.nil _) rfl rfl (fun i1 a1 h1 M1 => ?_)
   refine de (k := 0) (v := d) M1 rfl rfl rfl (TR.cnt _ s1) (fun h2 M2 => ab (am rfl) (aw (af ?_)))
   refine ae (ah (ab (am rfl) (ab (gc rfl) (ab (am rfl) (aw (af ?_))))))
   exact fg (.tmp rfl .nil) (cm rfl) (by rw [hn]; rfl)
 exact h1
theorem ee2 {c0 : aj → Bool} {c1 : aa} {c2 : Int} {u w1 : PV} (ru : (tFn Tryz.prog aj.t tB).R c0 u) (a0 : aa.t.R c1 w1) {l : List aj} {vl : PV} (rl : (tSl aj.t).R l vl) : (tFn Tryz.prog aj.t tB).R (fun r => c0 r && !(cr l (fun x => c0 x && di c1 c2 x r)).2) (.fn (.func 32) [] [.fp u, .fp vl, .fp w1, .fp (vi c2)]) :=
 ⟨32, [], _, rfl, rfl, by simp [closedL, closed, TR.clo _ ru, TR.clo _ a0, TR.clo _ rl], fun a va ra => ⟨_, eg6 ru a0 ra rl, rfl⟩⟩
theorem ce9 {l : List aj} {p : aj → Bool} (H : ∀ r ∈ l, SR r) : SR (cr l p).1 := by
 have z : SR ({ ID := 0, Entry := ({ Keys := ([] : List ay), Priority := 0, Call := ({ Action := 0, Args := ([] : List (BitVec 32)) } : av) } : au) } : aj) := ⟨by simp, by simp⟩
 have key : ∀ (m : Nat) (i : Int) (z0 : aj) (K0 : aj → aj × Bool), (∀ y, SR (K0 y).1) → m = Int.toNat ((l.length : Int) - i) → 0 ≤ i → SR (en l p K0 m i z0).1 := by
  intro m
  induction m with
  | zero => intro i z0 K0 hK hm h0; exact hK _
  | succ m ih =>
   intro i z0 K0 hK hm h0
   rw [en]
   split
   ·show SR (ix l i)
    rw [oe h0 (by omega)]
    exact H _ (List.getElem_mem _)
   ·exact ih _ _ _ hK (by omega) (by omega)
 exact key _ 0 _ _ (fun _ => z) rfl (by omega)
theorem db0 {x0 : aa} {x1 : Int} {x2 : List aj} {x3 : List (BitVec 32)} {v0 v2 v3 : PV} (r0 : aa.t.R x0 v0) (r2 : (tSl aj.t).R x2 v2) (r3 : (tSl ko).R x3 v3) (hb : ∀ r ∈ x2, SR r) : ∃ c0, FnR Tryz.prog 12 [v0, vi x1, v2, v3] (.tup [c0, vb (jc x0 x1 x2 x3).2]) ∧ aj.t.R (jc x0 x1 x2 x3).1 c0 := by
 obtain ⟨r, h1, c0, rfl, hr⟩ : ∃ r, FnR Tryz.prog 12 [v0, vi x1, v2, v3] r ∧ ∃ c0, r = .tup [c0, vb (jc x0 x1 x2 x3).2] ∧ aj.t.R (jc x0 x1 x2 x3).1 c0 := by
  refine fnE bw7 (by simp) ?_
  refine ae (ah (ab (dh rfl (TR.cnt aa.t r0)) (ab (dh rfl rfl) (ab (dh rfl (TR.cnt _ r2)) (ab (dh rfl (TR.cnt _ r3)) ?_)))))
  refine dt (x := .agg [vi 0, nilS, vi 0, vi 0, nilS]) (Mem.nil _) rfl rfl (fun i8 w8 h8 M8 => ab (v := vb false) (am rfl) (aw (af ?_)))
  refine ae (ae (ah (ab (ba rfl rfl rfl) (ab (v := vb (decide (x1 < 0))) (bd rfl rfl co) (ab (am rfl) ?_)))))
  refine bv 6 (d := 21) (v := vb (decide (x1 < 0) || decide ((x0.Tables.length : Int) ≤ x1))) ?_ ?_
  ·intro S Q r
   cases decide (x1 < 0)
   ·intro k
    obtain ⟨wt, gt, rt⟩ := aa.g_Tables r0
    refine ai rfl rfl (ba rfl rfl rfl) (ai rfl rfl (bc rfl gt) (ai rfl rfl (ba rfl (TR.cnt _ rt) (TR.agg _ rt)) (ai rfl rfl (cd rfl (br rt Tryz.underlying26 _)) (ai rfl rfl (bd rfl rfl oa) ?_))))
    exact gK rfl rfl rfl rfl rfl k
   ·exact gN 5 rfl rfl rfl rfl rfl rfl
  refine aw (af (bg rfl (fun hc => ?_) fun hc => ?_))
  ·have hs : jc x0 x1 x2 x3 = (({ ID := 0, Entry := ({ Keys := ([] : List ay), Priority := 0, Call := ({ Action := 0, Args := ([] : List (BitVec 32)) } : av) } : au) } : aj), false) := by unfold jc; rw [if_pos hc]
   rw [hs]
   refine ae (ah (ab (v := .agg [vi 0, nilS, vi 0, vi 0, nilS]) (nm (cs := [vi 0, nilS, vi 0, vi 0, nilS]) rfl rfl) ?_))
   refine de (k := 0) (v := .agg [vi 0, nilS, vi 0, vi 0, nilS]) M8 rfl rfl rfl rfl (fun h9 M9 => ab (v := vb false) (am rfl) (aw (af ?_)))
   exact fg (.cell rfl (gh (k := 0) M9 rfl rfl) (.tmp rfl .nil)) (cm rfl) ⟨_, rfl, nilS, nilS, rfl, ib, ib⟩
  ·have hs : jc x0 x1 x2 x3 = cr x2 (fun r => cn r.Entry x3 && !(cr x2 (fun x => cn x.Entry x3 && di x0 x1 x r)).2) := by unfold jc; rw [if_neg (by rw [hc]; simp)]
   rw [hs]
   have ru := ec2 r3
   have hcl := TR.clo _ ru
   obtain ⟨d, f1, s1⟩ := bc4 r2 (ee2 (c2 := x1) ru r0 r2)
   refine az (af (ae (ah (ab (v := .fn (.func 29) [] [.fp v3]) (vp rfl rfl) ?_))))
   refine dt (x := .sc .nilFunc) M8 rfl rfl (fun i9 w9 h9 M9 => ?_)
   refine de (k := 0) (v := .fn (.func 29) [] [.fp v3]) M9 rfl rfl rfl rfl (fun a6 a2 => aw (af ?_))
   refine ae (mm ?_)
   refine ah1 (k := 0) (E' := [(10, .fp (.fn (.func 29) [] [.fp v3])), (9, vb false), (8, .op i8 w8 0), (6, .fp v2), (5, .fp (vi x1)), (4, .fp v0)]) a2 rfl (uk rfl (ip rfl (ip rfl (ip rfl (ip rfl (ip rfl ya)))))) (fun a4 a0 => ?_)
   replace a0 : Mem a4 [⟨.op i8 w8 0, 44, 5, [.agg [vi 0, nilS, vi 0, vi 0, nilS]]⟩] := a0
   refine cv (ab (ba rfl (TR.cnt _ r2) (TR.agg _ r2)) (cw (cv (ab (v := .fn (.func 32) [] [.fp (.fn (.func 29) [] [.fp v3]), .fp v2, .fp v0, .fp (vi x1)]) (vp rfl rfl) (cw ?_)))))
   refine cv (cL f1 rfl rfl (aq (TR.clo _ r2) (aq (by simp [closedL, closed, TR.clo _ r0, TR.clo _ r2, TR.clo _ r3]) bm)) (cw ?_))
   refine cv (ab (am rfl) (cw (cv (ab (dp rfl rfl) (cw (cv (ab (dp rfl rfl) (cw ?_))))))))
   refine cv (dt (x := .agg [vi 0, nilS, vi 0, vi 0, nilS]) a0 rfl rfl (fun a7 b1 b0 a3 => cw ?_))
   refine cv (de (k := 0) (v := d) a3 rfl rfl rfl (TR.cnt _ s1) (fun a8 a1 => cw (cv (ab (am rfl) (cw (sg (af ?_)))))))
   obtain ⟨d2, f2, s2⟩ := an7 s1 (ce9 hb)
   refine ae (ah (ab (gq (k := 0) a1 rfl rfl (TR.agg _ s1)) ?_))
   refine cL f2 rfl rfl (aq (TR.clo _ s1) bm) (ab (am rfl) ?_)
   refine de (k := 1) (v := d2) a1 rfl rfl rfl (TR.cnt _ s2) (fun a9 a5 => ab (am rfl) (aw (af ?_)))
   exact fg (.cell rfl (gh (k := 1) a5 rfl (TR.agg _ s2)) (.tmp rfl .nil)) (cm (show closed (.tup _) = true from aq (TR.clo _ s2) (aq rfl bm))) ⟨_, rfl, s2⟩
 exact ⟨c0, h1, hr⟩

def RF36 (res : Bool) (r : PV) : Prop := r = vb res
theorem wh {S : List Fr} {res : Bool} {x0 : au} {x1 : List (BitVec 32)} {v0 v1 : PV} (r0 : au.t.R x0 v0) (r1 : (tSl ko).R x1 v1) (a2 : (!decide ((x0.Keys.length : Int) = (x1.length : Int))) = false) {K0 : Unit → Bool}
  (b2 : K0 () = res → PX Tryz.prog 0 S (QR Tryz.prog [(4, none)] (RF36 res)) [] ⟨0, []⟩) :
  ∀ {m : Nat} {a0 : Int} (b1 : m = Int.toNat ((x1.length : Int) - a0)) (a3 : 0 ≤ a0), jt x0 x1 K0 m a0 = res → RC Tryz.prog (.loop co2) S (QR Tryz.prog [(4, none)] (RF36 res)) [(5, vi a0), (2, .fp v0), (1, v1)] ⟨0, []⟩ := by
 have a1 := a2
 try simp only [qa] at a1
 intro m
 induction m with
 | zero =>
  intro a0 b1 a3 hres
  rw [jt] at hres
  refine bq (ae (sR (mV rfl (mV rfl (ab (cd rfl (br r1 Tryz.underlying33 _)) (bN co rfl rfl (nS ?_)))))))
  refine bg rfl ?_ ?_ <;> intro c <;> try simp only [qa] at c
  ·omega
  refine dm (dx (cy ?_))
  exact wP (b2  hres) rfl
 | succ m ih =>
  intro a0 b1 a3 hres
  rw [jt] at hres
  refine bq (ae (sR (mV rfl (mV rfl (ab (cd rfl (br r1 Tryz.underlying33 _)) (bN co rfl rfl (nS ?_)))))))
  refine bg rfl ?_ ?_ <;> intro c <;> try simp only [qa] at c
  rotate_left
  ·omega
  refine az (af (ae (bf (sR (mV rfl (mV rfl (ab (bn rfl rfl (zw r1 (by first | omega | (have hk := bb (by assumption) (by assumption); omega) | (have hk := tck (by assumption) (by assumption); omega) | (have hk := rtck (by assumption) (by assumption); omega) | (have hk := eck (by assumption) (by assumption) (by assumption); omega) | (have hk := tv (by assumption) (by assumption); omega) | (have hk := rtv (by assumption) (by assumption); omega)) (by first | omega | (have hk := bb (by assumption) (by assumption); omega) | (have hk := tck (by assumption) (by assumption); omega) | (have hk := rtck (by assumption) (by assumption); omega) | (have hk := eck (by assumption) (by assumption) (by assumption); omega) | (have hk := tv (by assumption) (by assumption); omega) | (have hk := rtv (by assumption) (by assumption); omega)))) (lR rfl rfl rfl ?_))))))))
  obtain ⟨b3, b0, a4⟩ := au.g_Keys r0
  refine fA rfl b0 (lD a4 rfl rfl rfl (mV rfl ?_))
  obtain ⟨b4, a5, a6⟩ := cx (i := a0) a4 (by first | omega | (have hk := bb (by assumption) (by assumption); omega) | (have hk := tck (by assumption) (by assumption); omega) | (have hk := rtck (by assumption) (by assumption); omega) | (have hk := eck (by assumption) (by assumption) (by assumption); omega) | (have hk := tv (by assumption) (by assumption); omega) | (have hk := rtv (by assumption) (by assumption); omega)) (by first | omega | (have hk := bb (by assumption) (by assumption); omega) | (have hk := tck (by assumption) (by assumption); omega) | (have hk := rtck (by assumption) (by assumption); omega) | (have hk := eck (by assumption) (by assumption) (by assumption); omega) | (have hk := tv (by assumption) (by assumption); omega) | (have hk := rtv (by assumption) (by assumption); omega))
  refine ab (bn rfl rfl a5) (fL rfl (ay.g_Value a6) rfl rfl (ab (bd (a := df (ix x1 a0)) (b := df ((ix x0.Keys a0).Value)) rfl rfl cw3) (gL (au.g_Keys r0) rfl rfl rfl fun b6 a9 => (mV rfl ?_))))
  obtain ⟨b5, a7, a8⟩ := cx (i := a0) a9 (by first | omega | (have hk := bb (by assumption) (by assumption); omega) | (have hk := tck (by assumption) (by assumption); omega) | (have hk := rtck (by assumption) (by assumption); omega) | (have hk := eck (by assumption) (by assumption) (by assumption); omega) | (have hk := tv (by assumption) (by assumption); omega) | (have hk := rtv (by assumption) (by assumption); omega)) (by first | omega | (have hk := bb (by assumption) (by assumption); omega) | (have hk := tck (by assumption) (by assumption); omega) | (have hk := rtck (by assumption) (by assumption); omega) | (have hk := eck (by assumption) (by assumption) (by assumption); omega) | (have hk := tv (by assumption) (by assumption); omega) | (have hk := rtv (by assumption) (by assumption); omega))
  refine ab (bn rfl rfl a7) (fL rfl (ay.g_Mask a8) rfl rfl (ab (bd (a := df ((ix x1 a0) ^^^ ((ix x0.Keys a0).Value))) (b := df ((ix x0.Keys a0).Mask)) rfl rfl aw4) (ab (bd (a := df (((ix x1 a0) ^^^ ((ix x0.Keys a0).Value)) &&& ((ix x0.Keys a0).Mask))) (b := df 0#32) rfl rfl ad7) (nS ?_))))
  refine cq hres rfl ?_ ?_ <;> clear hres <;> intro c hres <;> try simp only [qa] at c
  ·refine sR (mB rfl (nS ?_))
   exact rR hres rfl rfl rfl
  ·refine az (dg (af (ah (mV rfl (bN eg rfl rfl (mV rfl (aw (ct ?_))))))))
   have hbd := du r1
   have hinc : wr (a0 + 1) = a0 + 1 := dw (by omega) (by omega)
   erw [hinc]
   exact wC (ih   (by omega) (by omega) hres) rfl

theorem df7 {x0 : au} {x1 : List (BitVec 32)} {v0 v1 : PV} (r0 : au.t.R x0 v0) (r1 : (tSl ko).R x1 v1) : FnR Tryz.prog 36 [v0, v1] (vb (od x0 x1)) := by
 refine fnS (R := RF36) dj3 (fun _ h => h) rfl fun res hres => ?_
 unfold od at hres
 refine sR (ab (dh rfl (TR.cnt au.t r0)) (mB rfl (nS (ae (sR (gL (au.g_Keys r0) rfl rfl rfl fun a3 a2 => (ab (cd rfl (br a2 Tryz.underlying38 _)) (mV rfl ?_))))))))
 refine ab (cd rfl (br r1 Tryz.underlying33 _)) (bN jk rfl rfl (nS ?_))
 refine cq hres rfl ?_ ?_ <;> clear hres <;> intro a0 hres <;> have a1 := a0 <;> try simp only [qa] at a1
 ·refine sR (mB rfl (nS ?_))
  exact rR hres rfl rfl rfl
 ·refine az (af (ae (sR (mI rfl (nS (bf ?_))))))
  refine wC (wh r0 r1 a0 ?_  rfl (by omega) hres) rfl
  ·intro  hres
   refine fd (af (sR (mB rfl (nS ?_))))
   exact rR hres rfl rfl rfl

def RF108 (res : Int) (r : PV) : Prop := r = vi res
theorem uc {S : List Fr} {res : Int} {K0 : Int → Int}
  (a5 : ∀ {a2 : Int}, K0 a2 = res → PX Tryz.prog 0 S (QR Tryz.prog [(2, none)] (RF108 res)) [(3, vi a2)] ⟨0, []⟩) :
  ∀ {m : Nat} {a1 : BitVec 32} {a2 a0 : Int} (a4 : m = Int.toNat (32 - a0)) (a3 : 0 ≤ a0), iu K0 m a1 a2 a0 = res → RC Tryz.prog (.loop bq3) S (QR Tryz.prog [(2, none)] (RF108 res)) [(4, vi a0), (3, vi a2), (0, df a1)] ⟨0, []⟩ := by
 intro m
 induction m with
 | zero =>
  intro a1 a2 a0 a4 a3 hres
  rw [iu] at hres
  refine bq (ae (sR (mV rfl (bN co rfl rfl (nS ?_)))))
  refine bg rfl ?_ ?_ <;> intro c <;> try simp only [qa] at c
  ·omega
  refine dm (dx (cy ?_))
  exact wP (a5  hres) rfl
 | succ m ih =>
  intro a1 a2 a0 a4 a3 hres
  rw [iu] at hres
  refine bq (ae (sR (mV rfl (bN co rfl rfl (nS ?_)))))
  refine bg rfl ?_ ?_ <;> intro c <;> try simp only [qa] at c
  rotate_left
  ·omega
  refine az (af (ae (bf (sR (mV rfl (mV rfl (ab (bd (a := df a1) (b := df 2#32) rfl rfl (dx4 (by decide))) (ab (xq (a := df (a1 % 2#32)) rfl (c_wi Tryz.underlying64 Tryz.underlying3)) ?_))))))))
  refine bN eg rfl rfl (mV rfl (nS (ah (mV rfl (ab (bd (a := df a1) (b := df 2#32) rfl rfl (dt5 (by decide))) (mV rfl (aw (dg ?_))))))))
  refine af (ah (mV rfl (bN eg rfl rfl (mV rfl (aw (ct ?_))))))
  have hinc : wr (a0 + 1) = a0 + 1 := dw (by omega) (by omega)
  erw [hinc]
  exact wC (ih   (by omega) (by omega) hres) rfl

theorem cr4 {x0 : BitVec 32} : FnR Tryz.prog 108 [df x0] (vi (mu x0)) := by
 refine fnS (R := RF108) cj8 (fun _ h => h) rfl fun res hres => ?_
 unfold mu at hres
 refine sR (mI rfl (nR (mI rfl (nS (ae (sR (mI rfl (nS ?_))))))))
 refine bf ?_
 refine wC (uc  ?_  rfl (by omega) hres) rfl
 ·intro a0 hres
  refine fd (af (sR (mV rfl (mV rfl (nS ?_)))))
  exact rR hres rfl rfl rfl

def RF71 (res : Int) (r : PV) : Prop := r = vi res
theorem tj {S : List Fr} {res : Int} {x0 : aa} {x1 : Int} {x2 : au} {v0 v2 : PV} (r0 : aa.t.R x0 v0) (r2 : au.t.R x2 v2) (a4 : ((decide (x1 < 0)) || (decide ((x0.Tables.length : Int) ≤ x1))) = false) {K0 : Unit → Int}
  (c9 : K0 () = res → PX Tryz.prog 0 S (QR Tryz.prog [(6, none)] (RF71 res)) [] ⟨0, []⟩) :
  ∀ {m : Nat} {a0 : Int} (c5 : m = Int.toNat ((((ix x0.Tables x1).Keys).length : Int) - a0)) (a3 : 0 ≤ a0), ik x0 x1 x2 K0 m a0 = res → RC Tryz.prog (.loop cp1) S (QR Tryz.prog [(6, none)] (RF71 res)) [(7, vi a0), (5, .fp v2), (3, .fp v0), (1, vi x1)] ⟨0, []⟩ := by
 have a1 := a4
 try simp only [qa] at a1
 intro m
 induction m with
 | zero =>
  intro a0 c5 a3 hres
  rw [ik] at hres
  refine bq (ae (sR (mV rfl (gL (aa.g_Tables r0) rfl rfl rfl fun c7 b9 => (mV rfl ?_)))))
  obtain ⟨d4, c4, b4⟩ := cx (i := x1) b9 (by first | omega | (have hk := bb (by assumption) (by assumption); omega) | (have hk := tck (by assumption) (by assumption); omega) | (have hk := rtck (by assumption) (by assumption); omega) | (have hk := eck (by assumption) (by assumption) (by assumption); omega) | (have hk := tv (by assumption) (by assumption); omega) | (have hk := rtv (by assumption) (by assumption); omega)) (by first | omega | (have hk := bb (by assumption) (by assumption); omega) | (have hk := tck (by assumption) (by assumption); omega) | (have hk := rtck (by assumption) (by assumption); omega) | (have hk := eck (by assumption) (by assumption) (by assumption); omega) | (have hk := tv (by assumption) (by assumption); omega) | (have hk := rtv (by assumption) (by assumption); omega))
  refine ab (bn rfl rfl c4) (gL (ax.g_Keys b4) rfl rfl rfl fun d5 b6 => (ab (cd rfl (br b6 Tryz.underlying85 _)) (bN co rfl rfl (nS ?_))))
  refine bg rfl ?_ ?_ <;> intro c <;> try simp only [qa] at c
  ·omega
  refine dm (dx (cy ?_))
  exact wP (c9  hres) rfl
 | succ m ih =>
  intro a0 c5 a3 hres
  rw [ik] at hres
  refine bq (ae (sR (mV rfl (gL (aa.g_Tables r0) rfl rfl rfl fun d9 c0 => (mV rfl ?_)))))
  obtain ⟨d8, a7, b2⟩ := cx (i := x1) c0 (by first | omega | (have hk := bb (by assumption) (by assumption); omega) | (have hk := tck (by assumption) (by assumption); omega) | (have hk := rtck (by assumption) (by assumption); omega) | (have hk := eck (by assumption) (by assumption) (by assumption); omega) | (have hk := tv (by assumption) (by assumption); omega) | (have hk := rtv (by assumption) (by assumption); omega)) (by first | omega | (have hk := bb (by assumption) (by assumption); omega) | (have hk := tck (by assumption) (by assumption); omega) | (have hk := rtck (by assumption) (by assumption); omega) | (have hk := eck (by assumption) (by assumption) (by assumption); omega) | (have hk := tv (by assumption) (by assumption); omega) | (have hk := rtv (by assumption) (by assumption); omega))
  refine ab (bn rfl rfl a7) (gL (ax.g_Keys b2) rfl rfl rfl fun d3 a6 => (ab (cd rfl (br a6 Tryz.underlying85 _)) (bN co rfl rfl (nS ?_))))
  refine bg rfl ?_ ?_ <;> intro c <;> try simp only [qa] at c
  rotate_left
  ·omega
  refine az (af (ae (bf (sR (gL (aa.g_Tables r0) rfl rfl rfl fun d1 b7 => (mV rfl ?_))))))
  obtain ⟨d6, b8, a8⟩ := cx (i := x1) b7 (by first | omega | (have hk := bb (by assumption) (by assumption); omega) | (have hk := tck (by assumption) (by assumption); omega) | (have hk := rtck (by assumption) (by assumption); omega) | (have hk := eck (by assumption) (by assumption) (by assumption); omega) | (have hk := tv (by assumption) (by assumption); omega) | (have hk := rtv (by assumption) (by assumption); omega)) (by first | omega | (have hk := bb (by assumption) (by assumption); omega) | (have hk := tck (by assumption) (by assumption); omega) | (have hk := rtck (by assumption) (by assumption); omega) | (have hk := eck (by assumption) (by assumption) (by assumption); omega) | (have hk := tv (by assumption) (by assumption); omega) | (have hk := rtv (by assumption) (by assumption); omega))
  refine ab (bn rfl rfl b8) (gL (ax.g_Keys a8) rfl rfl rfl fun c6 a9 => (mV rfl ?_))
  obtain ⟨d0, b0, b3⟩ := cx (i := a0) a9 (by first | omega | (have hk := bb (by assumption) (by assumption); omega) | (have hk := tck (by assumption) (by assumption); omega) | (have hk := rtck (by assumption) (by assumption); omega) | (have hk := eck (by assumption) (by assumption) (by assumption); omega) | (have hk := tv (by assumption) (by assumption); omega) | (have hk := rtv (by assumption) (by assumption); omega)) (by first | omega | (have hk := bb (by assumption) (by assumption); omega) | (have hk := tck (by assumption) (by assumption); omega) | (have hk := rtck (by assumption) (by assumption); omega) | (have hk := eck (by assumption) (by assumption) (by assumption); omega) | (have hk := tv (by assumption) (by assumption); omega) | (have hk := rtv (by assumption) (by assumption); omega))
  refine ab (bn rfl rfl b0) (fL rfl (bh.g_Kind b3) rfl rfl (bN lh rfl rfl (nS ?_)))
  refine cq hres rfl ?_ ?_ <;> clear hres <;> intro c hres <;> try simp only [qa] at c
  ·refine ae (sR (mV rfl (gL (au.g_Keys r2) rfl rfl rfl fun e0 c1 => (ab (cd rfl (br c1 Tryz.underlying38 _)) (bN oa rfl rfl (nS ?_))))))
   refine cq hres rfl ?_ ?_ <;> clear hres <;> intro c hres <;> try simp only [qa] at c
   ·refine sR (mI rfl (nS ?_))
    exact rR hres rfl rfl rfl
   ·refine az (af (sR (gL (au.g_Keys r2) rfl rfl rfl fun d2 c3 => (mV rfl ?_))))
    obtain ⟨c8, b5, b1⟩ := cx (i := a0) c3 (by first | omega | (have hk := bb (by assumption) (by assumption); omega) | (have hk := tck (by assumption) (by assumption); omega) | (have hk := rtck (by assumption) (by assumption); omega) | (have hk := eck (by assumption) (by assumption) (by assumption); omega) | (have hk := tv (by assumption) (by assumption); omega) | (have hk := rtv (by assumption) (by assumption); omega)) (by first | omega | (have hk := bb (by assumption) (by assumption); omega) | (have hk := tck (by assumption) (by assumption); omega) | (have hk := rtck (by assumption) (by assumption); omega) | (have hk := eck (by assumption) (by assumption) (by assumption); omega) | (have hk := tv (by assumption) (by assumption); omega) | (have hk := rtv (by assumption) (by assumption); omega))
    refine ab (bn rfl rfl b5) (fL rfl (ay.g_Mask b1) rfl rfl ?_)
    obtain ⟨d7, a2, hres⟩ := dc hres
    have a5 := cr4 (x0 := (ix x2.Keys a0).Mask)  
    rw [a2] at a5
    refine cL a5 rfl rfl (aq rfl bm) (mV rfl (nS ?_))
    exact rR hres rfl rfl rfl
  ·refine az (dg (af (ah (mV rfl (bN eg rfl rfl (mV rfl (aw (ct ?_))))))))
   have hbd := du a6
   have hinc : wr (a0 + 1) = a0 + 1 := dw (by omega) (by omega)
   erw [hinc]
   exact wC (ih   (by omega) (by omega) hres) rfl

theorem cc9 {x0 : aa} {x1 : Int} {x2 : au} {v0 v2 : PV} (r0 : aa.t.R x0 v0) (r2 : au.t.R x2 v2) : FnR Tryz.prog 71 [v0, vi x1, v2] (vi (kt x0 x1 x2)) := by
 refine fnS (R := RF71) dc6 (fun _ h => h) rfl fun res hres => ?_
 unfold kt at hres
 refine sR (ab (dh rfl (TR.cnt aa.t r0)) (ab (dh rfl (TR.cnt au.t r2)) (mI rfl (nS (ae (sR (mV rfl (bN co rfl rfl ?_))))))))
 refine mV rfl ?_
 refine bv 6 (d := 16) (v := vb ((decide (x1 < 0)) || (decide ((x0.Tables.length : Int) ≤ x1)))) ?_ ?_
 ·intro S Q r
  cases a4 : (decide (x1 < 0))
  ·intro k
   have a2 := a4
   try simp only [qa] at a2
   refine ai rfl rfl (am rfl) ?_
   obtain ⟨a6, a5, a1⟩ := aa.g_Tables r0
   refine ai rfl rfl (bc rfl a5) (ai rfl rfl (ba rfl (TR.cnt (tSl ax.t) a1) (TR.agg (tSl ax.t) a1)) (ai rfl rfl (cd rfl (br a1 Tryz.underlying26 _)) (ai rfl rfl (bd rfl rfl oa) ?_)))
   exact gK rfl rfl rfl rfl rfl k
  ·exact gN 5 rfl rfl rfl rfl rfl rfl
 refine nS ?_
 refine cq hres rfl ?_ ?_ <;> clear hres <;> intro a0 hres <;> have a3 := a0 <;> try simp only [qa] at a3
 ·refine sR (mI rfl (nS ?_))
  exact rR hres rfl rfl rfl
 ·refine az (af (ae (sR (mI rfl (nS (bf ?_))))))
  refine wC (tj r0 r2 a0 ?_  rfl (by omega) hres) rfl
  ·intro  hres
   refine fd (af (sR (mI rfl (nS ?_))))
   exact rR hres rfl rfl rfl

end Go.Proofs.YthdnpgpnodgicaaGreat
