/-
 The code of each function does what its plain program says.
-/
import Derived.Test.YthdnpgpnodgicaaGreatL7W2
set_option linter.all false
set_option maxRecDepth 100000
namespace Go.Proofs.YthdnpgpnodgicaaGreat
open Go Go.Pb Go.RowKit
def RF49 (res : Bool) (r : PV) : Prop := r = vb res
theorem zk {S : List Fr} {res : Bool} {x0 : av} {x1 : av} {v0 v1 : PV} (r0 : av.t.R x0 v0) (r1 : av.t.R x1 v1) (a4 : ((!decide ((x0.Keys.length : Int) = (x1.Keys.length : Int))) || (!decide (x0.Priority = x1.Priority))) = false) {K0 : Unit → Bool}
  (c0 : K0 () = res → PX Tryz.prog 0 S (QR Tryz.prog [(4, none)] (RF49 res)) [] ⟨0, []⟩) :
  ∀ {m : Nat} {a0 : Int} (b4 : m = Int.toNat ((x0.Keys.length : Int) - a0)) (a5 : 0 ≤ a0), jc x0 x1 K0 m a0 = res → RC Tryz.prog (.loop cv2) S (QR Tryz.prog [(4, none)] (RF49 res)) [(5, vi a0), (3, .fp v1), (2, .fp v0)] ⟨0, []⟩ := by
 have a1 := a4
 try simp only [qa] at a1
 intro m
 induction m with
 | zero =>
  intro a0 b4 a5 hres
  rw [jc] at hres
  refine bt (ah (sR (mV rfl ?_)))
  obtain ⟨b9, b0, a3⟩ := av.g_Keys r0
  refine fA rfl b0 (lD a3 rfl rfl rfl (ab (cw rfl (cf a3 Tryz.underlying38 _)) (bN cy rfl rfl (nS ?_))))
  refine bc rfl ?_ ?_ <;> intro c <;> try simp only [qa] at c
  ·omega
  refine dm (fb (df ?_))
  exact wP (c0  hres) rfl
 | succ m ih =>
  intro a0 b4 a5 hres
  rw [jc] at hres
  refine bt (ah (sR (mV rfl (gL (av.g_Keys r0) rfl rfl rfl fun c1 a7 => (ab (cw rfl (cf a7 Tryz.underlying38 _)) (bN cy rfl rfl (nS ?_)))))))
  refine bc rfl ?_ ?_ <;> intro c <;> try simp only [qa] at c
  rotate_left
  ·omega
  refine ay (ai (ah (bd (sR (gL (av.g_Keys r0) rfl rfl rfl fun b5 b2 => (mV rfl ?_))))))
  obtain ⟨b7, b1, a2⟩ := dl (i := a0) b2 (by first | omega | (have hk := bn (by assumption) (by assumption); omega) | (have hk := tck (by assumption) (by assumption); omega) | (have hk := rtck (by assumption) (by assumption); omega) | (have hk := eck (by assumption) (by assumption) (by assumption); omega) | (have hk := tv (by assumption) (by assumption); omega) | (have hk := rtv (by assumption) (by assumption); omega)) (by first | omega | (have hk := bn (by assumption) (by assumption); omega) | (have hk := tck (by assumption) (by assumption); omega) | (have hk := rtck (by assumption) (by assumption); omega) | (have hk := eck (by assumption) (by assumption) (by assumption); omega) | (have hk := tv (by assumption) (by assumption); omega) | (have hk := rtv (by assumption) (by assumption); omega))
  refine ab (bq rfl rfl b1) (lD a2 rfl rfl rfl ?_)
  obtain ⟨b8, a9, a8⟩ := av.g_Keys r1
  refine fA rfl a9 (lD a8 rfl rfl rfl (mV rfl ?_))
  obtain ⟨b6, b3, a6⟩ := dl (i := a0) a8 (by first | omega | (have hk := bn (by assumption) (by assumption); omega) | (have hk := tck (by assumption) (by assumption); omega) | (have hk := rtck (by assumption) (by assumption); omega) | (have hk := eck (by assumption) (by assumption) (by assumption); omega) | (have hk := tv (by assumption) (by assumption); omega) | (have hk := rtv (by assumption) (by assumption); omega)) (by first | omega | (have hk := bn (by assumption) (by assumption); omega) | (have hk := tck (by assumption) (by assumption); omega) | (have hk := rtck (by assumption) (by assumption); omega) | (have hk := eck (by assumption) (by assumption) (by assumption); omega) | (have hk := tv (by assumption) (by assumption); omega) | (have hk := rtv (by assumption) (by assumption); omega))
  refine ab (bq rfl rfl b3) (lD a6 rfl rfl rfl (bN (bb.neq_127 a2 a6) rfl rfl (nS ?_)))
  refine di hres rfl ?_ ?_ <;> clear hres <;> intro c hres <;> try simp only [qa] at c
  ·refine sR (mB rfl (nS ?_))
   exact rR hres rfl rfl rfl
  ·refine ay (dj (ai (af (mV rfl (bN ep rfl rfl (mV rfl (aw (cx ?_))))))))
   have hbd := dv a7
   have hinc : wr (a0 + 1) = a0 + 1 := du (by omega) (by omega)
   erw [hinc]
   exact wC (ih   (by omega) (by omega) hres) rfl

theorem dn9 {x0 : av} {x1 : av} {v0 v1 : PV} (r0 : av.t.R x0 v0) (r1 : av.t.R x1 v1) : FnR Tryz.prog 49 [v0, v1] (vb (ly x0 x1)) := by
 refine fnS (R := RF49) dw7 (fun _ h => h) rfl fun res hres => ?_
 unfold ly at hres
 refine sR (ab (dt rfl (TR.cnt av.t r0)) (ab (dt rfl (TR.cnt av.t r1)) (mB rfl (nS (ah (sR (gL (av.g_Keys r0) rfl rfl rfl fun a6 a5 => (ab (cw rfl (cf a5 Tryz.underlying38 _)) ?_))))))))
 refine gL (av.g_Keys r1) rfl rfl rfl fun a7 a4 => (ab (cw rfl (cf a4 Tryz.underlying38 _)) (bN ma rfl rfl (mV rfl ?_)))
 refine cn 6 (d := 19) (v := vb ((!decide ((x0.Keys.length : Int) = (x1.Keys.length : Int))) || (!decide (x0.Priority = x1.Priority)))) ?_ ?_
 ·intro S Q r
  cases a3 : (!decide ((x0.Keys.length : Int) = (x1.Keys.length : Int)))
  ·intro k
   have a1 := a3
   try simp only [qa] at a1
   refine am rfl rfl (bz rfl (av.g_Priority r0)) (am rfl rfl (br rfl rfl rfl) (am rfl rfl (bz rfl (av.g_Priority r1)) (am rfl rfl (br rfl rfl rfl) (am rfl rfl (ba rfl rfl ma) ?_))))
   exact gK rfl rfl rfl rfl rfl k
  ·exact gN 5 rfl rfl rfl rfl rfl rfl
 refine nS ?_
 refine di hres rfl ?_ ?_ <;> clear hres <;> intro a0 hres <;> have a2 := a0 <;> try simp only [qa] at a2
 ·refine sR (mB rfl (nS ?_))
  exact rR hres rfl rfl rfl
 ·refine ay (ai (ah (sR (mI rfl (nS (bd ?_))))))
  refine wC (zk r0 r1 a0 ?_  rfl (by omega) hres) rfl
  ·intro  hres
   refine fe (ai (sR (mB rfl (nS ?_))))
   exact rR hres rfl rfl rfl

def RF16 (res : Int) (r : PV) : Prop := r = vi res
def RF31 (res : ak × Bool) (r : PV) : Prop := ∃ c0, r = .tup [c0, vb res.2] ∧ ak.t.R res.1 c0
theorem uz {S : List Fr} {res : ak × Bool} {x0 : List ak} {x1 : ak → Bool} {v0 v1 : PV} {a7 a8 : Nat} (r0 : (tSl ak.t).R x0 v0) (r1 : (tFn Tryz.prog ak.t tB).R x1 v1) {K0 : ak → (ak × Bool)}
  (c0 : ∀ {a2 : ak} {a0 : PV} (a4 : ak.t.R a2 a0) {h : Heap} (M0 : Mem h [⟨.op a7 a8 0, 44, 5, [a0]⟩]), K0 a2 = res → PX Tryz.prog 0 S (QR Tryz.prog [(4, some (5, true)), (5, none)] (RF31 res)) [(4, .op a7 a8 0)] h) :
  ∀ {m : Nat} {a1 : Int} {a2 : ak} {a0 : PV} (a4 : ak.t.R a2 a0) (b9 : m = Int.toNat ((x0.length : Int) - a1)) (b2 : 0 ≤ a1) {h : Heap} (M0 : Mem h [⟨.op a7 a8 0, 44, 5, [a0]⟩]), fq x0 x1 K0 m a1 a2 = res → RC Tryz.prog (.loop da5) S (QR Tryz.prog [(4, some (5, true)), (5, none)] (RF31 res)) [(11, vi a1), (10, vi (x0.length : Int)), (9, v0), (4, .op a7 a8 0), (1, v1)] h := by
 intro m
 induction m with
 | zero =>
  intro a1 a2 a0 a4 b9 b2 h M0 hres
  rw [fq] at hres
  refine bt (sR (bN cy rfl rfl (nS (ah ?_))))
  refine bc rfl ?_ ?_ <;> intro c <;> try simp only [qa] at c
  ·omega
  refine dm (fb (df ?_))
  exact wP (c0 a4 (Mem.sub M0 (.cons_cons _ .slnil)) hres) rfl
 | succ m ih =>
  intro a1 a2 a0 a4 b9 b2 h M0 hres
  rw [fq] at hres
  refine bt (sR (bN cy rfl rfl (nS (ah ?_))))
  refine bc rfl ?_ ?_ <;> intro c <;> try simp only [qa] at c
  rotate_left
  ·omega
  refine ay (ai (ah (bd (sR ?_))))
  obtain ⟨a5, b6, a3⟩ := dl (i := a1) r0 (by first | omega | (have hk := bn (by assumption) (by assumption); omega) | (have hk := tck (by assumption) (by assumption); omega) | (have hk := rtck (by assumption) (by assumption); omega) | (have hk := eck (by assumption) (by assumption) (by assumption); omega) | (have hk := tv (by assumption) (by assumption); omega) | (have hk := rtv (by assumption) (by assumption); omega)) (by first | omega | (have hk := bn (by assumption) (by assumption); omega) | (have hk := tck (by assumption) (by assumption); omega) | (have hk := rtck (by assumption) (by assumption); omega) | (have hk := eck (by assumption) (by assumption) (by assumption); omega) | (have hk := tv (by assumption) (by assumption); omega) | (have hk := rtv (by assumption) (by assumption); omega))
  refine ab (bq rfl rfl b6) (lD a3 rfl rfl rfl ?_)
  refine dh (x := .agg [vi 0, nilS, vi 0, vi 0, nilS]) M0 rfl rfl (fun b3 b1 c1 b4 => ?_)
  refine db (k := 0) (v := a5) b4 rfl rfl rfl (TR.cnt ak.t a3) (fun b7 a6 => ?_)
  replace a6 : Mem b7 [⟨.op b3 b1 0, 44, 5, [a5]⟩, ⟨.op a7 a8 0, 44, 5, [a0]⟩] := a6
  refine nR (mV rfl (ab (fw (k := 0) a6 rfl rfl (TR.agg ak.t a3)) ?_))
  refine ay6 rfl r1 rfl (show ak.t.R (ix x0 a1) a5 from a3) (fun b5 a9 => ?_)
  have a9 : b5 = vb (x1 (ix x0 a1)) := a9; subst a9
  refine nS ?_
  refine di hres rfl ?_ ?_ <;> clear hres <;> intro c hres <;> try simp only [qa] at c
  ·refine sR (ab (fw (k := 0) a6 rfl rfl (TR.agg ak.t a3)) ?_)
   refine db (k := 1) (v := a5) a6 rfl rfl rfl (TR.cnt ak.t a3) (fun b8 b0 => ?_)
   replace b0 : Mem b8 [⟨.op b3 b1 0, 44, 5, [a5]⟩, ⟨.op a7 a8 0, 44, 5, [a5]⟩] := b0
   refine mB rfl (nS ?_)
   subst hres
   exact dw (.cell rfl (jk (k := 1) b0 rfl (TR.agg ak.t a3)) (.tmp rfl .nil)) (ck (show closed (.tup _) = true from (aq (TR.clo ak.t a3) (aq rfl bg)))) ⟨a5, rfl, a3⟩
  ·refine ay (dj (ai (af (bN ep rfl rfl (mV rfl (aw (cx ?_)))))))
   have hbd := dv r0
   have hinc : wr (a1 + 1) = a1 + 1 := du (by omega) (by omega)
   erw [hinc]
   exact wC (ih  a4 (by omega) (by omega) (Mem.sub a6 (.cons _ (.cons_cons _ .slnil))) hres) rfl

theorem bi9 {x0 : List ak} {x1 : ak → Bool} {v0 v1 : PV} (r0 : (tSl ak.t).R x0 v0) (r1 : (tFn Tryz.prog ak.t tB).R x1 v1) : ∃ c0, FnR Tryz.prog 31 [v0, v1] (.tup [c0, vb ((da x0 x1).2)]) ∧ ak.t.R (da x0 x1).1 c0 := by
 obtain ⟨res, hres⟩ : ∃ res, da x0 x1 = res := ⟨_, rfl⟩
 suffices H : RC Tryz.prog do3 [] (QR Tryz.prog [(4, some (5, true)), (5, none)] (RF31 res)) (argE 0 [v0, v1]) ⟨0, []⟩ by
  rw [hres]
  obtain ⟨r, h1, c0, rfl, b0⟩ := fnE co1 (by simp) H
  exact ⟨c0, h1, b0⟩
 unfold da at hres
 refine sR ?_
 refine dh (x := .agg [vi 0, nilS, vi 0, vi 0, nilS]) (Mem.nil ⟨0, []⟩) rfl rfl (fun a7 a8 b1 a4 => ?_)
 refine mB rfl (nS (ah (sR (mV rfl (ab (cw rfl (cf r0 Tryz.underlying32 _)) (mI rfl (nS (bd ?_))))))))
 refine wC (uz r0 r1 ?_  (show ak.t.R ({ ID := 0, Entry := ({ Keys := ([] : List bb), Priority := 0, Call := ({ Action := 0, Args := ([] : List (BitVec 32)) } : ax) } : av) } : ak) (.agg [vi 0, nilS, vi 0, vi 0, nilS]) from ⟨nilS, nilS, rfl, gu, gu⟩) rfl (by omega) (Mem.sub a4 (.cons_cons _ .slnil)) hres) rfl
 ·intro a1 a2 a3 a9 a5 hres
  refine fe (ai (sR (ab (ae4 (x := .agg [vi 0, nilS, vi 0, vi 0, nilS]) rfl rfl) (nR (lR rfl rfl rfl ?_)))))
  refine db (k := 0) (v := .agg [vi 0, nilS, vi 0, vi 0, nilS]) a5 rfl rfl rfl rfl (fun a6 a0 => ?_)
  replace a0 : Mem a6 [⟨.op a7 a8 0, 44, 5, [.agg [vi 0, nilS, vi 0, vi 0, nilS]]⟩] := a0
  refine mB rfl (nS ?_)
  subst hres
  exact dw (.cell rfl (jk (k := 0) a0 rfl rfl) (.tmp rfl .nil)) (ck (show closed (.tup _) = true from (aq (TR.clo ak.t (show ak.t.R ({ ID := 0, Entry := ({ Keys := ([] : List bb), Priority := 0, Call := ({ Action := 0, Args := ([] : List (BitVec 32)) } : ax) } : av) } : ak) (.agg [vi 0, nilS, vi 0, vi 0, nilS]) from ⟨nilS, nilS, rfl, gu, gu⟩)) (aq rfl bg)))) ⟨.agg [vi 0, nilS, vi 0, vi 0, nilS], rfl, ⟨nilS, nilS, rfl, gu, gu⟩⟩

def RF107 (res : Int) (r : PV) : Prop := r = vi res
theorem xf {S : List Fr} {res : Int} {x0 : BitVec 32} {K0 : Int → Int}
  (a4 : ∀ {a1 : Int}, K0 a1 = res → PX Tryz.prog 0 S (QR Tryz.prog [(2, none)] (RF107 res)) [(3, vi a1)] ⟨0, []⟩) :
  ∀ {m : Nat} {a1 a0 : Int} (a3 : m = Int.toNat (32 - a0)) (a2 : 0 ≤ a0), ji x0 K0 m a1 a0 = res → RC Tryz.prog (.loop cm1) S (QR Tryz.prog [(2, none)] (RF107 res)) [(5, vi a0), (3, vi a1), (0, dx x0)] ⟨0, []⟩ := by
 intro m
 induction m with
 | zero =>
  intro a1 a0 a3 a2 hres
  rw [ji] at hres
  refine bt (sR (bN cy rfl rfl (nS (ah ?_))))
  refine bc rfl ?_ ?_ <;> intro c <;> try simp only [qa] at c
  ·omega
  refine dm (fb (df ?_))
  exact wP (a4  hres) rfl
 | succ m ih =>
  intro a1 a0 a3 a2 hres
  rw [ji] at hres
  refine bt (sR (bN cy rfl rfl (nS (ah ?_))))
  refine bc rfl ?_ ?_ <;> intro c <;> try simp only [qa] at c
  rotate_left
  ·omega
  refine ay (ai (ah (bd (sR (mV rfl (mV rfl (nS (af ?_))))))))
  refine mV rfl (mV rfl (mV rfl (ab (ba (a := dx x0) (b := vi a0) rfl rfl (bm2 (by first | omega | (rw [du (by omega) (by omega)]; omega)))) (ab (ba (a := dx (x0 >>> a0.toNat)) (b := dx 1#32) rfl rfl cf5) (ab (xk (a := dx ((x0 >>> a0.toNat) &&& 1#32)) rfl (c_wi Tryz.underlying64 Tryz.underlying3)) (bN ep rfl rfl (mV rfl (aw ?_))))))))
  refine dj (ai (af (bN ep rfl rfl (mV rfl (aw (cx ?_))))))
  have hinc : wr (a0 + 1) = a0 + 1 := du (by omega) (by omega)
  erw [hinc]
  exact wC (ih   (by omega) (by omega) hres) rfl

theorem dd3 {x0 : BitVec 32} : FnR Tryz.prog 107 [dx x0] (vi (ny x0)) := by
 refine fnS (R := RF107) bl5 (fun _ h => h) rfl fun res hres => ?_
 unfold ny at hres
 refine sR (mI rfl (nR (mI rfl (nS (ah (sR (mI rfl (nS ?_))))))))
 refine bd ?_
 refine wC (xf  ?_  rfl (by omega) hres) rfl
 ·intro a0 hres
  refine fe (ai (sR (mV rfl (mV rfl (nS ?_)))))
  exact rR hres rfl rfl rfl

def RF68 (res : Int) (r : PV) : Prop := r = vi res
theorem aa5 {S : List Fr} {res : Int} {x0 : aa} {x1 : Int} {x2 : av} {v2 a8 : PV} (r2 : av.t.R x2 v2) (a4 : ((decide (x1 < 0)) || (decide ((x0.Tables.length : Int) ≤ x1))) = false) (a9 : (tSl bh.t).R ((ix x0.Tables x1).Keys) a8) {K0 : Unit → Int}
  (c4 : ∀ {h : Heap} (M0 : Mem h []), K0 () = res → PX Tryz.prog 0 S (QR Tryz.prog [(6, none)] (RF68 res)) [] h) :
  ∀ {m : Nat} {a0 : Int} (c0 : m = Int.toNat ((((ix x0.Tables x1).Keys).length : Int) - a0)) (a7 : 0 ≤ a0) {h : Heap} (M0 : Mem h []), lj x0 x1 x2 K0 m a0 = res → RC Tryz.prog (.loop cx2) S (QR Tryz.prog [(6, none)] (RF68 res)) [(25, vi a0), (24, vi (((ix x0.Tables x1).Keys).length : Int)), (23, a8), (5, .fp v2)] h := by
 have a2 := a4
 try simp only [qa] at a2
 intro m
 induction m with
 | zero =>
  intro a0 c0 a7 h M0 hres
  rw [lj] at hres
  refine bt (sR (bN cy rfl rfl (nS (ah ?_))))
  refine bc rfl ?_ ?_ <;> intro c <;> try simp only [qa] at c
  ·omega
  refine dm (fb (df ?_))
  exact wP (c4 (Mem.sub M0 .slnil) hres) rfl
 | succ m ih =>
  intro a0 c0 a7 h M0 hres
  rw [lj] at hres
  refine bt (sR (bN cy rfl rfl (nS (ah ?_))))
  refine bc rfl ?_ ?_ <;> intro c <;> try simp only [qa] at c
  rotate_left
  ·omega
  refine ay (ai (ah (bd (sR (mV rfl ?_)))))
  obtain ⟨a5, b4, a3⟩ := dl (i := a0) a9 (by first | omega | (have hk := bn (by assumption) (by assumption); omega) | (have hk := tck (by assumption) (by assumption); omega) | (have hk := rtck (by assumption) (by assumption); omega) | (have hk := eck (by assumption) (by assumption) (by assumption); omega) | (have hk := tv (by assumption) (by assumption); omega) | (have hk := rtv (by assumption) (by assumption); omega)) (by first | omega | (have hk := bn (by assumption) (by assumption); omega) | (have hk := tck (by assumption) (by assumption); omega) | (have hk := rtck (by assumption) (by assumption); omega) | (have hk := eck (by assumption) (by assumption) (by assumption); omega) | (have hk := tv (by assumption) (by assumption); omega) | (have hk := rtv (by assumption) (by assumption); omega))
  refine ab (bq rfl rfl b4) (lD a3 rfl rfl rfl ?_)
  refine dh (x := .agg [vi 0, vi 0, vi 0]) M0 rfl rfl (fun b6 b5 c5 b7 => ?_)
  refine mV rfl ?_
  refine db (k := 0) (v := a5) b7 rfl rfl rfl (TR.cnt bh.t a3) (fun b1 a1 => ?_)
  replace a1 : Mem b1 [⟨.op b6 b5 0, 112, 3, [a5]⟩] := a1
  refine nR (ab (bf rfl) (ab (cp (k := 0) a1 rfl rfl (bh.g_Kind a3)) (bN oe rfl rfl (nS ?_))))
  refine di hres rfl ?_ ?_ <;> clear hres <;> intro c hres <;> try simp only [qa] at c
  ·refine ah (sR (mV rfl (gL (av.g_Keys r2) rfl rfl rfl fun c7 b3 => (ab (cw rfl (cf b3 Tryz.underlying38 _)) (bN cy rfl rfl (nS ?_))))))
   refine di hres rfl ?_ ?_ <;> clear hres <;> intro c hres <;> try simp only [qa] at c
   ·refine sR (gL (av.g_Keys r2) rfl rfl rfl fun c1 b8 => (mV rfl ?_))
    obtain ⟨c3, b2, b9⟩ := dl (i := a0) b8 (by first | omega | (have hk := bn (by assumption) (by assumption); omega) | (have hk := tck (by assumption) (by assumption); omega) | (have hk := rtck (by assumption) (by assumption); omega) | (have hk := eck (by assumption) (by assumption) (by assumption); omega) | (have hk := tv (by assumption) (by assumption); omega) | (have hk := rtv (by assumption) (by assumption); omega)) (by first | omega | (have hk := bn (by assumption) (by assumption); omega) | (have hk := tck (by assumption) (by assumption); omega) | (have hk := rtck (by assumption) (by assumption); omega) | (have hk := eck (by assumption) (by assumption) (by assumption); omega) | (have hk := tv (by assumption) (by assumption); omega) | (have hk := rtv (by assumption) (by assumption); omega))
    refine ab (bq rfl rfl b2) (fL rfl (bb.g_Mask b9) rfl rfl ?_)
    obtain ⟨c6, a6, hres⟩ := dq hres
    have b0 := dd3 (x0 := (ix x2.Keys a0).Mask)  
    rw [a6] at b0
    refine cL b0 rfl rfl (aq rfl bg) (mV rfl (nS ?_))
    exact rR hres rfl rfl rfl
   ·refine ay (ai (sR (mI rfl (nS ?_))))
    exact rR hres rfl rfl rfl
  ·refine ay (dj (ai (af (bN ep rfl rfl (mV rfl (aw (cx ?_)))))))
   have hbd := dv a9
   have hinc : wr (a0 + 1) = a0 + 1 := du (by omega) (by omega)
   erw [hinc]
   exact wC (ih   (by omega) (by omega) (Mem.sub a1 (.cons _ .slnil)) hres) rfl

theorem co7 {x0 : aa} {x1 : Int} {x2 : av} {v0 v2 : PV} (r0 : aa.t.R x0 v0) (r2 : av.t.R x2 v2) : FnR Tryz.prog 68 [v0, vi x1, v2] (vi (jq x0 x1 x2)) := by
 refine fnS (R := RF68) cf8 (fun _ h => h) rfl fun res hres => ?_
 unfold jq at hres
 refine sR (ab (dt rfl (TR.cnt aa.t r0)) (ab (dt rfl (TR.cnt av.t r2)) (mI rfl (nS (ah (sR (mV rfl (bN cy rfl rfl ?_))))))))
 refine mV rfl ?_
 refine cn 6 (d := 17) (v := vb ((decide (x1 < 0)) || (decide ((x0.Tables.length : Int) ≤ x1)))) ?_ ?_
 ·intro S Q r
  cases a5 : (decide (x1 < 0))
  ·intro k
   have a4 := a5
   try simp only [qa] at a4
   refine am rfl rfl (au rfl) ?_
   obtain ⟨b3, a9, a1⟩ := aa.g_Tables r0
   refine am rfl rfl (bz rfl a9) (am rfl rfl (br rfl (TR.cnt (tSl az.t) a1) (TR.agg (tSl az.t) a1)) (am rfl rfl (cw rfl (cf a1 Tryz.underlying26 _)) (am rfl rfl (ba rfl rfl tn) ?_)))
   exact gK rfl rfl rfl rfl rfl k
  ·exact gN 5 rfl rfl rfl rfl rfl rfl
 refine nS ?_
 refine di hres rfl ?_ ?_ <;> clear hres <;> intro a0 hres <;> have a2 := a0 <;> try simp only [qa] at a2
 ·refine sR (mI rfl (nS ?_))
  exact rR hres rfl rfl rfl
 ·refine ay (ai (ah (sR ?_)))
  obtain ⟨b5, b0, a6⟩ := aa.g_Tables r0
  refine fA rfl b0 (lD a6 rfl rfl rfl (mV rfl ?_))
  obtain ⟨b6, a8, a7⟩ := dl (i := x1) a6 (by first | omega | (have hk := bn (by assumption) (by assumption); omega) | (have hk := tck (by assumption) (by assumption); omega) | (have hk := rtck (by assumption) (by assumption); omega) | (have hk := eck (by assumption) (by assumption) (by assumption); omega) | (have hk := tv (by assumption) (by assumption); omega) | (have hk := rtv (by assumption) (by assumption); omega)) (by first | omega | (have hk := bn (by assumption) (by assumption); omega) | (have hk := tck (by assumption) (by assumption); omega) | (have hk := rtck (by assumption) (by assumption); omega) | (have hk := eck (by assumption) (by assumption) (by assumption); omega) | (have hk := tv (by assumption) (by assumption); omega) | (have hk := rtv (by assumption) (by assumption); omega))
  refine ab (bq rfl rfl a8) ?_
  obtain ⟨b4, b1, a3⟩ := az.g_Keys a7
  refine fA rfl b1 (lD a3 rfl rfl rfl (ab (cw rfl (cf a3 Tryz.underlying85 _)) (mI rfl (nS (bd ?_)))))
  refine wC (aa5 r2 a0 a3 ?_  rfl (by omega) (Mem.sub (Mem.nil ⟨0, []⟩) .slnil) hres) rfl
  ·intro b7 b2 hres
   refine fe (ai (sR (mI rfl (nS ?_))))
   exact rR hres rfl rfl rfl

def RF34 (res : Bool) (r : PV) : Prop := r = vb res
theorem cf6 {x0 : aa} {x1 : Int} {x2 : ak} {x3 : ak} {v0 v2 v3 : PV} (r0 : aa.t.R x0 v0) (r2 : ak.t.R x2 v2) (r3 : ak.t.R x3 v3) : FnR Tryz.prog 34 [v0, vi x1, v2, v3] (vb (dk x0 x1 x2 x3)) := by
 refine fnS (R := RF34) ci9 (fun _ h => h) rfl fun res hres => ?_
 unfold dk at hres
 refine sR (ab (dt rfl (TR.cnt aa.t r0)) (ab (dt rfl (TR.cnt ak.t r2)) (ab (dt rfl (TR.cnt ak.t r3)) (mB rfl (nS (ah (sR ?_)))))))
 obtain ⟨b5, b3, b2⟩ := ak.g_Entry r2
 refine fA rfl b3 (fL rfl (av.g_Priority b2) rfl rfl ?_)
 obtain ⟨b6, a9, a7⟩ := ak.g_Entry r3
 refine fA rfl a9 (fL rfl (av.g_Priority a7) rfl rfl (bN ma rfl rfl (nS ?_)))
 refine di hres rfl ?_ ?_ <;> clear hres <;> intro c hres <;> try simp only [qa] at c
 ·refine sR ?_
  obtain ⟨b9, b0, b1⟩ := ak.g_Entry r2
  refine fA rfl b0 (fL rfl (av.g_Priority b1) rfl rfl ?_)
  obtain ⟨c0, a8, a6⟩ := ak.g_Entry r3
  refine fA rfl a8 (fL rfl (av.g_Priority a6) rfl rfl (bN ij rfl rfl (mV rfl (nS ?_))))
  exact rR hres rfl rfl rfl
 ·refine ay (ai (ah (sR (lD r0 rfl rfl rfl (mV rfl (gL (ak.g_Entry r2) rfl rfl rfl fun b7 a3 => ?_))))))
  obtain ⟨c1, a5, hres⟩ := dq hres
  have a0 := co7 (x1 := x1) r0 a3 
  rw [a5] at a0
  refine cL a0 rfl rfl (aq (TR.clo aa.t r0) (aq rfl (aq (TR.clo av.t a3) bg))) (lD r0 rfl rfl rfl (mV rfl (gL (ak.g_Entry r3) rfl rfl rfl fun b4 a1 => ?_)))
  obtain ⟨b8, a4, hres⟩ := dq hres
  have a2 := co7 (x1 := x1) r0 a1 
  rw [a4] at a2
  refine cL a2 rfl rfl (aq (TR.clo aa.t r0) (aq rfl (aq (TR.clo av.t a1) bg))) (mV rfl (mV rfl (nR (mV rfl (mV rfl (bN ma rfl rfl (nS ?_)))))))
  refine di hres rfl ?_ ?_ <;> clear hres <;> intro c hres <;> try simp only [qa] at c
  ·refine sR (mV rfl (mV rfl (bN ij rfl rfl (mV rfl (nS ?_)))))
   exact rR hres rfl rfl rfl
  ·refine ay (ai (sR (fL rfl (ak.g_ID r2) rfl rfl (fL rfl (ak.g_ID r3) rfl rfl (bN cy rfl rfl (mV rfl (nS ?_)))))))
   exact rR hres rfl rfl rfl

def RF109 (res : Bool) (r : PV) : Prop := r = vb res
theorem br1 {x0 : UInt8} : FnR Tryz.prog 109 [vu8 x0] (vb (lg x0)) := by
 refine fnS (R := RF109) bk6 (fun _ h => h) rfl fun res hres => ?_
 unfold lg at hres
 refine sR (mB rfl (nR (mV rfl (ab (ba (a := vu8 x0) (b := vu8 (97 : UInt8)) rfl rfl aq5) (mV rfl ?_)))))
 refine cn 3 (d := 8) (v := vb ((decide ((97 : UInt8) ≤ x0)) && (decide (x0 ≤ (122 : UInt8))))) ?_ ?_
 ·intro S Q r
  cases a5 : (decide ((97 : UInt8) ≤ x0))
  ·exact gN 2 rfl rfl rfl rfl rfl rfl
  ·intro k
   have a2 := a5
   try simp only [qa] at a2
   refine am rfl rfl (au rfl) (am rfl rfl (ba (a := vu8 x0) (b := vu8 (122 : UInt8)) rfl rfl aq6) ?_)
   exact gK rfl rfl rfl rfl rfl k
 refine mV rfl ?_
 refine cn 7 (d := 16) (v := vb (((decide ((97 : UInt8) ≤ x0)) && (decide (x0 ≤ (122 : UInt8)))) || ((decide ((65 : UInt8) ≤ x0)) && (decide (x0 ≤ (90 : UInt8)))))) ?_ ?_
 ·intro S Q r
  cases a3 : ((decide ((97 : UInt8) ≤ x0)) && (decide (x0 ≤ (122 : UInt8))))
  ·intro k
   have a0 := a3
   try simp only [qa] at a0
   refine am rfl rfl (au rfl) (am rfl rfl (ba (a := vu8 x0) (b := vu8 (65 : UInt8)) rfl rfl aq5) (am rfl rfl (au rfl) ?_))
   refine cn 3 (d := 15) (v := vb ((decide ((65 : UInt8) ≤ x0)) && (decide (x0 ≤ (90 : UInt8))))) ?_ ?_
   ·intro S Q r
    cases a4 : (decide ((65 : UInt8) ≤ x0))
    ·intro k
     refine sx rfl rfl (sx rfl rfl (am (v := vb false) rfl rfl (vc rfl rfl rfl rfl) ?_))
     exact wD k rfl
    ·intro k
     have a1 := a4
     try simp only [qa] at a1
     refine am rfl rfl (au rfl) (am rfl rfl (ba (a := vu8 x0) (b := vu8 (90 : UInt8)) rfl rfl aq6) (am (v := vb (decide (x0 ≤ (90 : UInt8)))) rfl rfl (vc rfl rfl rfl rfl) ?_))
     exact wD k rfl
   exact gK rfl rfl rfl rfl rfl k
  ·exact gN 6 rfl rfl rfl rfl rfl rfl
 refine mV rfl (nS ?_)
 exact rR hres rfl rfl rfl

def RF110 (res : Int) (r : PV) : Prop := r = vi res
theorem aa2 {S : List Fr} {res : Int} {x0 : List UInt8} {x1 : UInt8 → Bool} {v1 : PV} (r1 : (tFn Tryz.prog tU8 tB).R x1 v1) (hs : x0.length ≤ 1000) {K0 : Int → Int}
  (b0 : ∀ {a0 : Int}, K0 a0 = res → PX Tryz.prog 0 S (QR Tryz.prog [(4, none)] (RF110 res)) [(5, vi a0)] ⟨0, []⟩) :
  ∀ {m : Nat} {a0 : Int} (b1 : m = Int.toNat ((x0.length : Int) - a0)) (a6 : 0 ≤ a0), lq x0 x1 K0 m a0 = res → RC Tryz.prog (.loop cm5) S (QR Tryz.prog [(4, none)] (RF110 res)) [(5, vi a0), (1, v1), (0, vs x0)] ⟨0, []⟩ := by
 intro m
 induction m with
 | zero =>
  intro a0 b1 a6 hres
  rw [lq] at hres
  refine bt (ah (sR (mV rfl (mV rfl (ab (cw rfl (pp Tryz.underlying9)) (bN cy rfl rfl (mV rfl ?_)))))))
  refine cn 6 (d := 16) (v := vb ((decide (a0 < (x0.length : Int))) && (x1 (ix x0 a0)))) ?_ ?_
  ·intro S Q r
   cases a5 : (decide (a0 < (x0.length : Int)))
   ·exact gN 5 rfl rfl rfl rfl rfl rfl
   ·intro k
    have a4 := a5
    try simp only [qa] at a4
    refine am rfl rfl (au rfl) (am rfl rfl (au rfl) (am rfl rfl (au rfl) (am rfl rfl (rb rfl rfl (xm Tryz.underlying9 (by first | omega | (have hk := bn (by assumption) (by assumption); omega) | (have hk := tck (by assumption) (by assumption); omega) | (have hk := rtck (by assumption) (by assumption); omega) | (have hk := eck (by assumption) (by assumption) (by assumption); omega) | (have hk := tv (by assumption) (by assumption); omega) | (have hk := rtv (by assumption) (by assumption); omega)) (by first | omega | (have hk := bn (by assumption) (by assumption); omega) | (have hk := tck (by assumption) (by assumption); omega) | (have hk := rtck (by assumption) (by assumption); omega) | (have hk := eck (by assumption) (by assumption) (by assumption); omega) | (have hk := tv (by assumption) (by assumption); omega) | (have hk := rtv (by assumption) (by assumption); omega)))) ?_)))
    refine as1 rfl rfl rfl r1 rfl (show tU8.R (ix x0 a0) (vu8 (ix x0 a0)) from rfl) (fun a8 a2 => ?_)
    have a2 : a8 = vb (x1 (ix x0 a0)) := a2; subst a2
    exact gK rfl rfl rfl rfl rfl k
  refine nS ?_
  refine bc rfl ?_ ?_ <;> intro c <;> try simp only [qa] at c
  ·omega
  refine dm (fb (df ?_))
  exact wP (b0  hres) rfl
 | succ m ih =>
  intro a0 b1 a6 hres
  rw [lq] at hres
  refine bt (ah (sR (mV rfl (mV rfl (ab (cw rfl (pp Tryz.underlying9)) (bN cy rfl rfl (mV rfl ?_)))))))
  refine cn 6 (d := 16) (v := vb ((decide (a0 < (x0.length : Int))) && (x1 (ix x0 a0)))) ?_ ?_
  ·intro S Q r
   cases a7 : (decide (a0 < (x0.length : Int)))
   ·exact gN 5 rfl rfl rfl rfl rfl rfl
   ·intro k
    have a3 := a7
    try simp only [qa] at a3
    refine am rfl rfl (au rfl) (am rfl rfl (au rfl) (am rfl rfl (au rfl) (am rfl rfl (rb rfl rfl (xm Tryz.underlying9 (by first | omega | (have hk := bn (by assumption) (by assumption); omega) | (have hk := tck (by assumption) (by assumption); omega) | (have hk := rtck (by assumption) (by assumption); omega) | (have hk := eck (by assumption) (by assumption) (by assumption); omega) | (have hk := tv (by assumption) (by assumption); omega) | (have hk := rtv (by assumption) (by assumption); omega)) (by first | omega | (have hk := bn (by assumption) (by assumption); omega) | (have hk := tck (by assumption) (by assumption); omega) | (have hk := rtck (by assumption) (by assumption); omega) | (have hk := eck (by assumption) (by assumption) (by assumption); omega) | (have hk := tv (by assumption) (by assumption); omega) | (have hk := rtv (by assumption) (by assumption); omega)))) ?_)))
    refine as1 rfl rfl rfl r1 rfl (show tU8.R (ix x0 a0) (vu8 (ix x0 a0)) from rfl) (fun a9 a1 => ?_)
    have a1 : a9 = vb (x1 (ix x0 a0)) := a1; subst a1
    exact gK rfl rfl rfl rfl rfl k
  refine nS ?_
  refine di hres rfl ?_ ?_ <;> clear hres <;> intro c hres <;> try simp only [qa] at c
  ·refine ay (ai (bd (af (mV rfl (bN ep rfl rfl (mV rfl (aw (dj ?_))))))))
   refine cx ?_
   have hinc : wr (a0 + 1) = a0 + 1 := du (by omega) (by omega)
   erw [hinc]
   exact wC (ih   (by omega) (by omega) hres) rfl
  ·refine dm (fb (df ?_))
   exact wP (b0  hres) rfl

theorem cp1 {x0 : List UInt8} {x1 : UInt8 → Bool} {v1 : PV} (r1 : (tFn Tryz.prog tU8 tB).R x1 v1) (hs : x0.length ≤ 1000) : FnR Tryz.prog 110 [vs x0, v1] (vi (uc x0 x1)) := by
 refine fnS (R := RF110) bp9 (fun _ h => h) rfl fun res hres => ?_
 unfold uc at hres
 refine sR (mI rfl (nR (mI rfl (nS (ah (bd ?_))))))
 refine wC (aa2 r1 hs ?_  rfl (by omega) hres) rfl
 ·intro a0 hres
  refine fe (ai (sR (mV rfl (mV rfl (nS ?_)))))
  exact rR hres rfl rfl rfl

def RF112 (res : Bool) (r : PV) : Prop := r = vb res
theorem db3 {x0 : UInt8} : FnR Tryz.prog 112 [vu8 x0] (vb (mb x0)) := by
 refine fnS (R := RF112) bq3 (fun _ h => h) rfl fun res hres => ?_
 unfold mb at hres
 refine sR (mB rfl (nR (mV rfl (ab (ba (a := vu8 x0) (b := vu8 (48 : UInt8)) rfl rfl aq5) (mV rfl ?_)))))
 refine cn 3 (d := 8) (v := vb ((decide ((48 : UInt8) ≤ x0)) && (decide (x0 ≤ (57 : UInt8))))) ?_ ?_
 ·intro S Q r
  cases a1 : (decide ((48 : UInt8) ≤ x0))
  ·exact gN 2 rfl rfl rfl rfl rfl rfl
  ·intro k
   have a0 := a1
   try simp only [qa] at a0
   refine am rfl rfl (au rfl) (am rfl rfl (ba (a := vu8 x0) (b := vu8 (57 : UInt8)) rfl rfl aq6) ?_)
   exact gK rfl rfl rfl rfl rfl k
 refine mV rfl (nS ?_)
 exact rR hres rfl rfl rfl

def RF111 (res : Bool) (r : PV) : Prop := r = vb res
theorem da6 {x0 : UInt8} : FnR Tryz.prog 111 [vu8 x0] (vb (jt x0)) := by
 refine fnS (R := RF111) bm1 (fun _ h => h) rfl fun res hres => ?_
 unfold jt at hres
 refine sR (mB rfl (nR (mV rfl ?_)))
 obtain ⟨a0, a6, hres⟩ := dq hres
 have a5 := br1 (x0 := x0)  
 rw [a6] at a5
 refine cL a5 rfl rfl (aq rfl bg) (mV rfl ?_)
 refine cn 3 (d := 8) (v := vb (a0 || (mb x0))) ?_ ?_
 ·intro S Q r
  cases a4 : a0
  ·intro k
   have a1 := a4
   try simp only [qa] at a1
   refine am rfl rfl (au rfl) ?_
   have a7 := db3 (x0 := x0)  
   refine kp rfl rfl (sj rfl rfl (aq rfl bg) a7) ?_
   exact gK rfl rfl rfl rfl rfl k
  ·exact gN 2 rfl rfl rfl rfl rfl rfl
 refine mV rfl ?_
 refine cn 3 (d := 12) (v := vb ((a0 || (mb x0)) || (decide (x0 = (95 : UInt8))))) ?_ ?_
 ·intro S Q r
  cases a3 : (a0 || (mb x0))
  ·intro k
   have a2 := a3
   try simp only [qa] at a2
   refine am rfl rfl (au rfl) (am rfl rfl (ba (a := vu8 x0) (b := vu8 (95 : UInt8)) rfl rfl dy7) ?_)
   exact gK rfl rfl rfl rfl rfl k
  ·exact gN 2 rfl rfl rfl rfl rfl rfl
 refine mV rfl (nS ?_)
 exact rR hres rfl rfl rfl

theorem dx7 : (tFn Tryz.prog tU8 tB).R jt (.fn (.func 111) [] []) := dn6 fun a va ra => by obtain rfl := ra; exact ⟨_, da6, rfl⟩

def RF73 (res : Bool) (r : PV) : Prop := r = vb res
theorem dv8 {x0 : List UInt8} : FnR Tryz.prog 73 [vs x0] (vb (mq x0)) := by
 refine fnS (R := RF73) co4 (fun _ h => h) rfl fun res hres => ?_
 unfold mq at hres
 refine sR (mB rfl (nS (ah (sR (mV rfl (ab (cw rfl (pp Tryz.underlying9)) (bN oe rfl rfl (mV rfl ?_))))))))
 refine cn 4 (d := 10) (v := vb ((decide ((x0.length : Int) = 0)) || (decide (16 < (x0.length : Int))))) ?_ ?_
 ·intro S Q r
  cases a3 : (decide ((x0.length : Int) = 0))
  ·intro k
   have a1 := a3
   try simp only [qa] at a1
   refine am rfl rfl (au rfl) (am rfl rfl (cw rfl (pp Tryz.underlying9)) (am rfl rfl (ba rfl rfl ij) ?_))
   exact gK rfl rfl rfl rfl rfl k
  ·exact gN 3 rfl rfl rfl rfl rfl rfl
 refine mV rfl ?_
 refine cn 5 (d := 16) (v := vb (((decide ((x0.length : Int) = 0)) || (decide (16 < (x0.length : Int)))) || (!(lg (ix x0 0))))) ?_ ?_
 ·intro S Q r
  cases a2 : ((decide ((x0.length : Int) = 0)) || (decide (16 < (x0.length : Int))))
  ·intro k
   have a0 := a2
   try simp only [qa] at a0
   refine am rfl rfl (au rfl) (am rfl rfl (rb rfl rfl (xm (i := 0) Tryz.underlying9 (by first | omega | (have hk := bn (by assumption) (by assumption); omega) | (have hk := tck (by assumption) (by assumption); omega) | (have hk := rtck (by assumption) (by assumption); omega) | (have hk := eck (by assumption) (by assumption) (by assumption); omega) | (have hk := tv (by assumption) (by assumption); omega) | (have hk := rtv (by assumption) (by assumption); omega)) (by first | omega | (have hk := bn (by assumption) (by assumption); omega) | (have hk := tck (by assumption) (by assumption); omega) | (have hk := rtck (by assumption) (by assumption); omega) | (have hk := eck (by assumption) (by assumption) (by assumption); omega) | (have hk := tv (by assumption) (by assumption); omega) | (have hk := rtv (by assumption) (by assumption); omega)))) ?_)
   have a6 := br1 (x0 := (ix x0 0))  
   refine kp rfl rfl (sj rfl rfl (aq rfl bg) a6) (am rfl rfl (io rfl) ?_)
   exact gK rfl rfl rfl rfl rfl k
  ·exact gN 4 rfl rfl rfl rfl rfl rfl
 refine nS ?_
 refine di hres rfl ?_ ?_ <;> clear hres <;> intro c hres <;> try simp only [qa] at c
 ·refine sR (mB rfl (nS ?_))
  exact rR hres rfl rfl rfl
 ·refine ay (ai (sR (mV rfl ?_)))
  obtain ⟨a7, a5, hres⟩ := dq hres
  have a4 := cp1 (x0 := x0) dx7 (by first | assumption | omega | (have := rv (by assumption) (by assumption); omega) | (rw [du (by omega) (by omega)]; omega) | (simp only [List.length_cons, List.length_nil]; omega))
  rw [a5] at a4
  refine cL a4 rfl rfl (aq rfl (aq rfl bg)) (mV rfl (ab (cw rfl (pp Tryz.underlying9)) (bN oe rfl rfl (mV rfl (nS ?_)))))
  exact rR hres rfl rfl rfl

def RF144 (res : cv) (r : PV) : Prop := cv.t.R res r
theorem cu2 {x0 : List cv} {x1 : Int} {v0 : PV} (r0 : (tSl cv.t).R x0 v0) : ∃ r, FnR Tryz.prog 144 [v0, vi x1] r ∧ cv.t.R (ie x0 x1) r := by
 refine fnT (R := RF144) bk4 rfl fun res hres => ?_
 unfold ie at hres
 refine sR ?_
 refine dh (x := .agg [vs [], nilS]) (Mem.nil ⟨0, []⟩) rfl rfl (fun a6 a8 b2 a4 => ?_)
 refine nR (ab (ae4 (x := .agg [vs [], nilS]) rfl rfl) (nS (ah (sR (mV rfl (bN cy rfl rfl (mV rfl ?_)))))))
 refine cn 5 (d := 13) (v := vb ((decide (x1 < 0)) || (decide ((x0.length : Int) ≤ x1)))) ?_ ?_
 ·intro S Q r
  cases a7 : (decide (x1 < 0))
  ·intro k
   have a1 := a7
   try simp only [qa] at a1
   refine am rfl rfl (au rfl) (am rfl rfl (au rfl) (am rfl rfl (cw rfl (cf r0 Tryz.underlying22 _)) (am rfl rfl (ba rfl rfl tn) ?_)))
   exact gK rfl rfl rfl rfl rfl k
  ·exact gN 4 rfl rfl rfl rfl rfl rfl
 refine nS ?_
 refine di hres rfl ?_ ?_ <;> clear hres <;> intro c hres <;> try simp only [qa] at c
 ·refine sR (lR rfl rfl rfl ?_)
  refine db (k := 0) (v := .agg [vs [], nilS]) a4 rfl rfl rfl rfl (fun b1 a2 => ?_)
  replace a2 : Mem b1 [⟨.op a6 a8 0, 116, 2, [.agg [vs [], nilS]]⟩] := a2
  refine nS ?_
  subst hres
  exact dw (.cell rfl (jk (k := 0) a2 rfl rfl) .nil) (ck (TR.clo cv.t (show cv.t.R ({ Name := ([] : List UInt8), Fields := ([] : List cd) } : cv) (.agg [vs [], nilS]) from ⟨nilS, rfl, gu⟩))) (show cv.t.R ({ Name := ([] : List UInt8), Fields := ([] : List cd) } : cv) (.agg [vs [], nilS]) from ⟨nilS, rfl, gu⟩)
 ·refine ay (ai (sR (mV rfl (mV rfl ?_))))
  obtain ⟨a5, a9, a0⟩ := dl (i := x1) r0 (by first | omega | (have hk := bn (by assumption) (by assumption); omega) | (have hk := tck (by assumption) (by assumption); omega) | (have hk := rtck (by assumption) (by assumption); omega) | (have hk := eck (by assumption) (by assumption) (by assumption); omega) | (have hk := tv (by assumption) (by assumption); omega) | (have hk := rtv (by assumption) (by assumption); omega)) (by first | omega | (have hk := bn (by assumption) (by assumption); omega) | (have hk := tck (by assumption) (by assumption); omega) | (have hk := rtck (by assumption) (by assumption); omega) | (have hk := eck (by assumption) (by assumption) (by assumption); omega) | (have hk := tv (by assumption) (by assumption); omega) | (have hk := rtv (by assumption) (by assumption); omega))
  refine ab (bq rfl rfl a9) (lD a0 rfl rfl rfl ?_)
  refine db (k := 0) (v := a5) a4 rfl rfl rfl (TR.cnt cv.t a0) (fun b0 a3 => ?_)
  replace a3 : Mem b0 [⟨.op a6 a8 0, 116, 2, [a5]⟩] := a3
  refine nS ?_
  subst hres
  exact dw (.cell rfl (jk (k := 0) a3 rfl (TR.agg cv.t a0)) .nil) (ck (TR.clo cv.t a0)) a0

end Go.Proofs.YthdnpgpnodgicaaGreat
