/-
 The code of each function does what its plain program says.
-/
import Derived.Test.YthdnpgpnodgicaaGreatL7W7
set_option linter.all false
set_option maxRecDepth 100000
namespace Go.Proofs.YthdnpgpnodgicaaGreat
open Go Go.Pb Go.RowKit
def RF60 (res : Bool) (r : PV) : Prop := r = vb res
theorem af6 {S : List Fr} {res : Bool} {x0 : BitVec 32} {x1 : Int} (hw : x1 ≤ 64) {K0 : (BitVec 64) → Bool}
  (a4 : ∀ {a0 : BitVec 64}, K0 a0 = res → PX Tryz.prog 0 S (QR Tryz.prog [(4, none)] (RF60 res)) [(0, dx x0), (5, cg a0)] ⟨0, []⟩) :
  ∀ {m : Nat} {a0 : BitVec 64} {a1 : Int} (a3 : m = Int.toNat (x1 - a1)) (a2 : 0 ≤ a1), nl K0 m a0 a1 = res → RC Tryz.prog (.loop cy9) S (QR Tryz.prog [(4, none)] (RF60 res)) [(6, vi a1), (5, cg a0), (1, vi x1), (0, dx x0)] ⟨0, []⟩ := by
 intro m
 induction m with
 | zero =>
  intro a0 a1 a3 a2 hres
  rw [nl] at hres
  refine bt (ah (sR (mV rfl (mV rfl (bN cy rfl rfl (nS ?_))))))
  refine bc rfl ?_ ?_ <;> intro c <;> try simp only [qa] at c
  ·omega
  refine dm (fb (df ?_))
  exact wP (a4  hres) rfl
 | succ m ih =>
  intro a0 a1 a3 a2 hres
  rw [nl] at hres
  refine bt (ah (sR (mV rfl (mV rfl (bN cy rfl rfl (nS ?_))))))
  refine bc rfl ?_ ?_ <;> intro c <;> try simp only [qa] at c
  rotate_left
  ·omega
  refine ay (ai (ah (bd (af (mV rfl (ab (ba (a := cg 2#64) (b := cg a0) rfl rfl di3) (mV rfl (aw ?_))))))))
  refine dj (ai (af (mV rfl (bN ep rfl rfl (mV rfl (aw (cx ?_)))))))
  have hinc : wr (a1 + 1) = a1 + 1 := du (by omega) (by omega)
  erw [hinc]
  exact wC (ih   (by omega) (by omega) hres) rfl

theorem ch3 {x0 : BitVec 32} {x1 : Int} (hw : x1 ≤ 64) : FnR Tryz.prog 60 [dx x0, vi x1] (vb (nq x0 x1)) := by
 refine fnS (R := RF60) ds8 (fun _ h => h) rfl fun res hres => ?_
 unfold nq at hres
 refine sR (mB rfl (nR (ab (v := cg 1#64) (au rfl) (nS (ah (sR (mI rfl (nS ?_))))))))
 refine bd ?_
 refine wC (af6 hw ?_  rfl (by omega) hres) rfl
 ·intro a0 hres
  refine fe (ai (sR (mV rfl (ab (xk (a := dx x0) rfl (c_wd Tryz.underlying64 Tryz.underlying97)) (mV rfl (ab (ba (a := cg (BitVec.setWidth 64 x0)) (b := cg a0) rfl rfl di0) (mV rfl (nS ?_))))))))
  exact rR hres rfl rfl rfl

def RF22 (res : (List (BitVec 32))) (r : PV) : Prop := (tSl lr).R res r
theorem zl {S : List Fr} {res : (List (BitVec 32))} {x0 : bm} {a0 : (List Int)} {a3 : Int} {a6 : List (BitVec 32)} {v0 a9 : PV} {a2 : List PV} {a1 : PV} (hW : ∀ j : Int, 0 ≤ j → j < (bp x0.Program x0.Table).length → 1 ≤ ix (bp x0.Program x0.Table) j ∧ ix (bp x0.Program x0.Table) j ≤ 32) (hL : (bp x0.Program x0.Table).length ≤ 6) (c6 : bp x0.Program x0.Table = a0) (b3 : (tSl tI).R a0 a9) (c8 : ∀ j : Int, 0 ≤ j → j < a0.length → 1 ≤ ix a0 j ∧ ix a0 j ≤ 32) (b8 : a0.length ≤ 6) (c1 : isL a1 = true) (b7 : Wri a1 a2) (b6 : a6.length ≤ 4611686018427387904) (c9 : 0 ≤ a3) (c7 : (a6.length : Int) ≤ a3) (c3 : a3 ≤ (a0.length : Int)) (b9 : a0.length ≤ 6) (c5 : ∀ j : Int, 0 ≤ j → j < a0.length → 1 ≤ ix a0 j ∧ ix a0 j ≤ 32) (b1 : (decide (a3 < (a0.length : Int))) = true) {K2 : (BitVec 32) → (List (BitVec 32))}
  (c0 : ∀ {a4 : BitVec 32} {h : Heap} (M0 : Mem h [⟨a1, 64, 1, a2⟩]), K2 a4 = res → PX Tryz.prog 2 S (QR Tryz.prog [(2, none)] (RF22 res)) [(1, .fp v0), (3, a9), (4, a1), (5, vi a3), (6, dx a4)] h) :
  ∀ {m : Nat} {a4 : BitVec 32} (c4 : (a4.toNat : Int) ≤ (m : Int)) {h : Heap} (M0 : Mem h [⟨a1, 64, 1, a2⟩]), jv a0 a3 K2 m a4 = res → RC Tryz.prog (.loop cu5) S (QR Tryz.prog [(2, none)] (RF22 res)) [(6, dx a4), (5, vi a3), (4, a1), (3, a9), (1, .fp v0)] h := by
 have a7 := b1
 try simp only [qa] at a7
 intro m
 induction m with
 | zero =>
  intro a4 c4 h M0 hres
  rw [jv] at hres
  refine bt (ah (sR (mV rfl (mV rfl (mV rfl (ab (bq rfl rfl (slI b3 (by first | omega | omega) (by first | omega | omega))) (lR rfl rfl rfl ?_)))))))
  obtain ⟨d1, b2⟩ : ∃ y_, nq a4 (ix a0 a3) = y_ := ⟨_, rfl⟩
  have b4 := ch3 (x0 := a4) (x1 := (ix a0 a3))  (by (have hq := ‹∀ j : Int, 0 ≤ j → j < a0.length → 1 ≤ ix a0 j ∧ ix a0 j ≤ 32› a3 (by omega) (by omega); omega))
  rw [b2] at b4
  refine cL b4 rfl rfl (aq rfl (aq rfl bg)) (ab (io rfl) (nS ?_))
  refine bc rfl (fun a5 => ?_) (fun a5 => ?_)
  ·exfalso
   try simp only [qa] at a5
   (have hq := ‹∀ j : Int, 0 ≤ j → j < a0.length → 1 ≤ ix a0 j ∧ ix a0 j ≤ 32› a3 (by omega) (by omega); exact f0n (by assumption) hq (by omega) (by assumption))
  ·have hend := hres
   have a8 := a5
   try simp only [qa] at a8
   refine dm (fb (df ?_))
   exact wP (c0 (Mem.sub M0 (.cons_cons _ .slnil)) hres) rfl
 | succ m ih =>
  intro a4 c4 h M0 hres
  rw [jv] at hres
  refine bt (ah (sR (mV rfl (mV rfl (mV rfl (ab (bq rfl rfl (slI b3 (by first | omega | omega) (by first | omega | omega))) (lR rfl rfl rfl ?_)))))))
  obtain ⟨d0, b5, hres⟩ := dq hres
  have b0 := ch3 (x0 := a4) (x1 := (ix a0 a3))  (by (have hq := ‹∀ j : Int, 0 ≤ j → j < a0.length → 1 ≤ ix a0 j ∧ ix a0 j ≤ 32› a3 (by omega) (by omega); omega))
  rw [b5] at b0
  refine cL b0 rfl rfl (aq rfl (aq rfl bg)) (ab (io rfl) (nS ?_))
  refine di hres rfl ?_ ?_ <;> clear hres <;> intro c hres <;> try simp only [qa] at c
  ·refine ay (ai (bd (af (mV rfl (ab (ba (a := dx a4) (b := dx 2#32) rfl rfl (dy5 (by decide))) (mV rfl (aw (dj ?_))))))))
   refine cx ?_
   exact wC (ih   (by (have hq := ‹∀ j : Int, 0 ≤ j → j < a0.length → 1 ≤ ix a0 j ∧ ix a0 j ≤ 32› a3 (by omega) (by omega); have d2 := fh (by assumption) hq (by assumption); omega)) (Mem.sub M0 (.cons_cons _ .slnil)) hres) rfl
  ·refine dm (fb (df ?_))
   exact wP (c0 (Mem.sub M0 (.cons_cons _ .slnil)) hres) rfl

theorem zj {S : List Fr} {res : (List (BitVec 32))} {x0 : bm} {a3 : (List Int)} {v0 c4 : PV} (r0 : bm.t.R x0 v0) (hW : ∀ j : Int, 0 ≤ j → j < (bp x0.Program x0.Table).length → 1 ≤ ix (bp x0.Program x0.Table) j ∧ ix (bp x0.Program x0.Table) j ≤ 32) (hL : (bp x0.Program x0.Table).length ≤ 6) (d1 : bp x0.Program x0.Table = a3) (b8 : (tSl tI).R a3 c4) (d2 : ∀ j : Int, 0 ≤ j → j < a3.length → 1 ≤ ix a3 j ∧ ix a3 j ≤ 32) (c5 : a3.length ≤ 6) {K0 : (List (BitVec 32)) → (List (BitVec 32))}
  (e5 : ∀ {a2 : List (BitVec 32)} {a0 : List PV} {a1 : PV} (a8 : All2 lr.R a2 a0) (a7 : isL a1 = true) (a4 : Wri a1 a0) (a6 : a2.length ≤ 4611686018427387904) {h : Heap} (M0 : Mem h [⟨a1, 64, 1, a0⟩]), K0 a2 = res → PX Tryz.prog 0 S (QR Tryz.prog [(2, none)] (RF22 res)) [(4, a1)] h) :
  ∀ {m : Nat} {b1 : Int} {a2 : List (BitVec 32)} {a0 : List PV} {a1 : PV} (a8 : All2 lr.R a2 a0) (a7 : isL a1 = true) (a4 : Wri a1 a0) (a6 : a2.length ≤ 4611686018427387904) (e2 : m = Int.toNat ((a3.length : Int) - b1)) (c3 : 0 ≤ b1) (b7 : (a2.length : Int) ≤ b1) (b3 : b1 ≤ (a3.length : Int)) (b2 : a3.length ≤ 6) (b4 : ∀ j : Int, 0 ≤ j → j < a3.length → 1 ≤ ix a3 j ∧ ix a3 j ≤ 32) {h : Heap} (M0 : Mem h [⟨a1, 64, 1, a0⟩]), jd x0 a3 K0 m b1 a2 = res → RC Tryz.prog (.loop cx8) S (QR Tryz.prog [(2, none)] (RF22 res)) [(5, vi b1), (4, a1), (3, c4), (1, .fp v0)] h := by
 intro m
 induction m with
 | zero =>
  intro b1 a2 a0 a1 a8 a7 a4 a6 e2 c3 b7 b3 b2 b4 h M0 hres
  rw [jd] at hres
  refine bt (ah (sR (mV rfl (mV rfl (ab (cw rfl (cf b8 Tryz.underlying29 _)) (bN cy rfl rfl (nS ?_)))))))
  refine bc rfl ?_ ?_ <;> intro c <;> try simp only [qa] at c
  ·omega
  refine dm (fb (df ?_))
  exact wP (e5 a8 a7 a4 a6 (Mem.sub M0 (.cons_cons _ .slnil)) hres) rfl
 | succ m ih =>
  intro b1 a2 a0 a1 a8 a7 a4 a6 e2 c3 b7 b3 b2 b4 h M0 hres
  rw [jd] at hres
  refine bt (ah (sR (mV rfl (mV rfl (ab (cw rfl (cf b8 Tryz.underlying29 _)) (bN cy rfl rfl (nS ?_)))))))
  refine bc rfl (fun b0 => ?_) (fun b0 => ?_)
  ·have hgo := hres
   have c1 := b0
   try simp only [qa] at c1
   refine ay (ai (ah (bd (sR (ab (v := dx 0#32) (au rfl) (nS (ah (sR ?_))))))))
   refine mV rfl (gL (bm.g_Key r0) rfl rfl rfl fun e4 d7 => (ab (cw rfl (cf d7 Tryz.underlying33 _)) (bN cy rfl rfl (nS ?_))))
   obtain ⟨d6, c9, hres⟩ := dq hres
   refine vv (F := fun b S Q => ∀ (a9 : BitVec 32) (b5 : Heap) (c0 : Mem b5 [⟨a1, 64, 1, a0⟩]), d6 a9 = res → RC Tryz.prog b S Q [(6, dx a9), (5, vi b1), (4, a1), (3, c4), (1, .fp v0)] b5) ?_ ?_
   ·intro a9 b5 c0 hres
    rw [← c9] at hres
    refine ah (bd ?_)
    refine wC (zl hW hL d1 b8 d2 c5 a7 a4 a6 c3 b7 b3 b2 b4 b0 ?_  (by omega) (Mem.sub c0 (.cons_cons _ .slnil)) hres) rfl
    ·intro a5 e0 d5 hres
     refine fe (ai (af (mV rfl (mV rfl (ab (v := .fs true [dx a5]) (iw rfl (all_cons rfl lu)) ?_)))))
     have d8 : (tSl lr).R ([a5] : List (BitVec 32)) (.fs true [dx a5]) := tp ⟨rfl, trivial⟩ (by simp)
     obtain ⟨b6, c8, b9⟩ := uv (t := lr) (h := e0) d8
     have d0 : fits (a0.length + b6.length) 4 = true := by rw [All2.length_eq a8, All2.length_eq b9]; (try simp only [List.length_cons, List.length_nil]); exact oz (by omega) (by omega)
     refine pt (k := 0) (es := a0) (news := b6) d5 rfl rfl rfl a7 a4 c8 d0 (fun e7 e3 e1 c6 d4 => ?_)
     have c7 : All2 lr.R (a2 ++ ([a5] : List (BitVec 32))) (a0 ++ b6) := All2.app a8 b9
     have d3 : (a2 ++ ([a5] : List (BitVec 32))).length ≤ 4611686018427387904 := by rw [← All2.length_eq c7, List.length_append]; exact ur d0
     refine mV rfl (aw (dj (ai (af (mV rfl (bN ep rfl rfl (mV rfl (aw ?_))))))))
     refine cx ?_
     have hbd := dv b8
     have hinc : wr (b1 + 1) = b1 + 1 := du (by omega) (by omega)
     erw [hinc]
     exact wC (ih  c7 e1 c6 d3 (by omega) (by omega) (by first | assumption | omega | (simp only [List.length_append, List.length_cons, List.length_nil]; omega)) (by first | assumption | omega | (simp only [List.length_append, List.length_cons, List.length_nil]; omega)) (by first | assumption | omega | (simp only [List.length_append, List.length_cons, List.length_nil]; omega)) (by first | assumption | omega | (simp only [List.length_append, List.length_cons, List.length_nil]; omega)) (Mem.sub d4 (.cons_cons _ .slnil)) hres) rfl
   ·intro J
    refine di hres rfl ?_ ?_ <;> clear hres <;> intro c hres <;> try simp only [qa] at c
    ·refine af (gL (bm.g_Key r0) rfl rfl rfl fun e6 d9 => (mV rfl (ab (bq rfl rfl (ap0 d9 (by first | omega | omega) (by first | omega | omega))) (lR rfl rfl rfl (mV rfl (aw ?_))))))
     refine ai (wC (J _ _ (Mem.sub M0 (.cons_cons _ .slnil)) hres) rfl)
    ·refine ay ?_
     refine ai (wC (J _ _ (Mem.sub M0 (.cons_cons _ .slnil)) hres) rfl)
  ·exfalso
   try simp only [qa] at b0
   omega

theorem dn2 {x0 : bm} {v0 : PV} (r0 : bm.t.R x0 v0) (hW : ∀ j : Int, 0 ≤ j → j < (bp x0.Program x0.Table).length → 1 ≤ ix (bp x0.Program x0.Table) j ∧ ix (bp x0.Program x0.Table) j ≤ 32) (hL : (bp x0.Program x0.Table).length ≤ 6) : ∃ r, FnR Tryz.prog 22 [v0] r ∧ (tSl lr).R (lv x0) r := by
 refine fnT (R := RF22) do5 rfl fun res hres => ?_
 unfold lv at hres
 refine sR (ab (dt rfl (TR.cnt bm.t r0)) (ab (v := nilS) (au rfl) (nR ?_)))
 obtain ⟨b9, b8, a5⟩ := bm.g_Program r0
 refine fA rfl b8 (lD a5 rfl rfl rfl (fL rfl (bm.g_Table r0) rfl rfl ?_))
 obtain ⟨a4, a0, hres⟩ := dq hres
 obtain ⟨c3, b5, b1⟩ := dv3 (x1 := x0.Table) a5 
 rw [a0] at b1
 have b2 : ∀ j : Int, 0 ≤ j → j < a4.length → 1 ≤ ix a4 j ∧ ix a4 j ≤ 32 := by rw [← a0]; exact hW
 have b0 : a4.length ≤ 6 := by rw [← a0]; exact hL
 refine cL b5 rfl rfl (aq (TR.clo aa.t a5) (aq rfl bg)) (mV rfl (nR (ab (v := nilS) (au rfl) (nS (ah (sR (mI rfl (nS ?_))))))))
 refine bd ?_
 have b4 := pq (sz := 1) (es := []) (Mem.nil ⟨0, []⟩) 64 (.inl ⟨none, rfl, rfl⟩) (by simp)
 refine wC (zj r0 hW hL a0 b1 b2 b0 ?_  aL rfl (.inl rfl) (by first | decide | simp) rfl (by omega) (by first | omega | (simp; done) | (simp only [List.length_append, List.length_cons, List.length_nil, List.length_set]; omega)) (by first | omega | (simp; done) | (simp only [List.length_append, List.length_cons, List.length_nil, List.length_set]; omega)) (by first | omega | (simp; done) | (simp only [List.length_append, List.length_cons, List.length_nil, List.length_set]; omega)) (by first | omega | (simp; done) | (simp only [List.length_append, List.length_cons, List.length_nil, List.length_set]; omega)) (Mem.sub b4 (.cons_cons _ .slnil)) hres) rfl
 ·intro a6 a8 a9 a2 a3 a7 a1 c0 b3 hres
  refine fe (ai (sR (mV rfl (mV rfl (nS ?_)))))
  obtain ⟨c1, b6, b7⟩ := xr (P := Tryz.prog) (k := 0) (t := lr) b3 rfl a3 a2 (Nat.le_trans a1 (by decide))
  subst hres
  exact dw (.tmp rfl .nil) b6 b7

def RF23 (res : Bool) (r : PV) : Prop := r = vb res
theorem ac5 {S : List Fr} {res : Bool} {x0 : List Int} {x1 : Int} {v0 : PV} (r0 : (tSl tI).R x0 v0) {K0 : Unit → Bool}
  (a3 : K0 () = res → PX Tryz.prog 0 S (QR Tryz.prog [(4, none)] (RF23 res)) [] ⟨0, []⟩) :
  ∀ {m : Nat} {a0 : Int} (a2 : m = Int.toNat ((x0.length : Int) - a0)) (a1 : 0 ≤ a0), kw x0 x1 K0 m a0 = res → RC Tryz.prog (.loop cw6) S (QR Tryz.prog [(4, none)] (RF23 res)) [(5, vi a0), (1, vi x1), (0, v0)] ⟨0, []⟩ := by
 intro m
 induction m with
 | zero =>
  intro a0 a2 a1 hres
  rw [kw] at hres
  refine bt (ah (sR (mV rfl (mV rfl (ab (cw rfl (cf r0 Tryz.underlying29 _)) (bN cy rfl rfl (nS ?_)))))))
  refine bc rfl ?_ ?_ <;> intro c <;> try simp only [qa] at c
  ·omega
  refine dm (fb (df ?_))
  exact wP (a3  hres) rfl
 | succ m ih =>
  intro a0 a2 a1 hres
  rw [kw] at hres
  refine bt (ah (sR (mV rfl (mV rfl (ab (cw rfl (cf r0 Tryz.underlying29 _)) (bN cy rfl rfl (nS ?_)))))))
  refine bc rfl ?_ ?_ <;> intro c <;> try simp only [qa] at c
  rotate_left
  ·omega
  refine ay (ai (ah (bd (sR (mV rfl (mV rfl (ab (bq rfl rfl (slI r0 (by first | omega | (have hk := bn (by assumption) (by assumption); omega) | (have hk := tck (by assumption) (by assumption); omega) | (have hk := rtck (by assumption) (by assumption); omega) | (have hk := eck (by assumption) (by assumption) (by assumption); omega) | (have hk := tv (by assumption) (by assumption); omega) | (have hk := rtv (by assumption) (by assumption); omega)) (by first | omega | (have hk := bn (by assumption) (by assumption); omega) | (have hk := tck (by assumption) (by assumption); omega) | (have hk := rtck (by assumption) (by assumption); omega) | (have hk := eck (by assumption) (by assumption) (by assumption); omega) | (have hk := tv (by assumption) (by assumption); omega) | (have hk := rtv (by assumption) (by assumption); omega)))) (lR rfl rfl rfl ?_))))))))
  refine mV rfl (bN oe rfl rfl (nS ?_))
  refine di hres rfl ?_ ?_ <;> clear hres <;> intro c hres <;> try simp only [qa] at c
  ·refine sR (mB rfl (nS ?_))
   exact rR hres rfl rfl rfl
  ·refine ay (dj (ai (af (mV rfl (bN ep rfl rfl (mV rfl (aw (cx ?_))))))))
   have hbd := dv r0
   have hinc : wr (a0 + 1) = a0 + 1 := du (by omega) (by omega)
   erw [hinc]
   exact wC (ih   (by omega) (by omega) hres) rfl

theorem ca3 {x0 : List Int} {x1 : Int} {v0 : PV} (r0 : (tSl tI).R x0 v0) : FnR Tryz.prog 23 [v0, vi x1] (vb (lf x0 x1)) := by
 refine fnS (R := RF23) dt6 (fun _ h => h) rfl fun res hres => ?_
 unfold lf at hres
 refine sR (mB rfl (nS (ah (sR (mI rfl (nS (bd ?_)))))))
 refine wC (ac5 r0 ?_  rfl (by omega) hres) rfl
 ·intro  hres
  refine fe (ai (sR (mB rfl (nS ?_))))
  exact rR hres rfl rfl rfl

def RF30 (res : Bool) (r : PV) : Prop := r = vb res
theorem zi {S : List Fr} {res : Bool} {x0 : av} {x1 : List (BitVec 32)} {v1 a8 : PV} (r1 : (tSl lr).R x1 v1) (a6 : (!decide ((x1.length : Int) = (x0.Keys.length : Int))) = false) (a7 : (tSl bb.t).R x0.Keys a8) {K0 : Unit → Bool}
  (b5 : ∀ {h : Heap} (M0 : Mem h []), K0 () = res → PX Tryz.prog 0 S (QR Tryz.prog [(4, none)] (RF30 res)) [] h) :
  ∀ {m : Nat} {a0 : Int} (b4 : m = Int.toNat ((x0.Keys.length : Int) - a0)) (a4 : 0 ≤ a0) {h : Heap} (M0 : Mem h []), iy x0 x1 K0 m a0 = res → RC Tryz.prog (.loop cy4) S (QR Tryz.prog [(4, none)] (RF30 res)) [(16, vi a0), (15, vi (x0.Keys.length : Int)), (14, a8), (1, v1)] h := by
 have a3 := a6
 try simp only [qa] at a3
 intro m
 induction m with
 | zero =>
  intro a0 b4 a4 h M0 hres
  rw [iy] at hres
  refine bt (sR (bN cy rfl rfl (nS (ah ?_))))
  refine bc rfl ?_ ?_ <;> intro c <;> try simp only [qa] at c
  ·omega
  refine dm (fb (df ?_))
  exact wP (b5 (Mem.sub M0 .slnil) hres) rfl
 | succ m ih =>
  intro a0 b4 a4 h M0 hres
  rw [iy] at hres
  refine bt (sR (bN cy rfl rfl (nS (ah ?_))))
  refine bc rfl ?_ ?_ <;> intro c <;> try simp only [qa] at c
  rotate_left
  ·omega
  refine ay (ai (ah (bd (sR (mV rfl ?_)))))
  obtain ⟨a5, b2, a2⟩ := dl (i := a0) a7 (by first | omega | (have hk := bn (by assumption) (by assumption); omega) | (have hk := tck (by assumption) (by assumption); omega) | (have hk := rtck (by assumption) (by assumption); omega) | (have hk := eck (by assumption) (by assumption) (by assumption); omega) | (have hk := tv (by assumption) (by assumption); omega) | (have hk := rtv (by assumption) (by assumption); omega)) (by first | omega | (have hk := bn (by assumption) (by assumption); omega) | (have hk := tck (by assumption) (by assumption); omega) | (have hk := rtck (by assumption) (by assumption); omega) | (have hk := eck (by assumption) (by assumption) (by assumption); omega) | (have hk := tv (by assumption) (by assumption); omega) | (have hk := rtv (by assumption) (by assumption); omega))
  refine ab (bq rfl rfl b2) (lD a2 rfl rfl rfl ?_)
  refine dh (x := .agg [dx 0#32, dx 0#32]) M0 rfl rfl (fun b0 b3 b6 b1 => ?_)
  refine mV rfl ?_
  refine db (k := 0) (v := a5) b1 rfl rfl rfl (TR.cnt bb.t a2) (fun a9 a1 => ?_)
  replace a1 : Mem a9 [⟨.op b0 b3 0, 127, 2, [a5]⟩] := a1
  refine nR (mV rfl (mV rfl (ab (bq rfl rfl (ap0 r1 (by first | omega | (have hk := bn (by assumption) (by assumption); omega) | (have hk := tck (by assumption) (by assumption); omega) | (have hk := rtck (by assumption) (by assumption); omega) | (have hk := eck (by assumption) (by assumption) (by assumption); omega) | (have hk := tv (by assumption) (by assumption); omega) | (have hk := rtv (by assumption) (by assumption); omega)) (by first | omega | (have hk := bn (by assumption) (by assumption); omega) | (have hk := tck (by assumption) (by assumption); omega) | (have hk := rtck (by assumption) (by assumption); omega) | (have hk := eck (by assumption) (by assumption) (by assumption); omega) | (have hk := tv (by assumption) (by assumption); omega) | (have hk := rtv (by assumption) (by assumption); omega)))) (lR rfl rfl rfl (ab (bf rfl) (ab (cp (k := 0) a1 rfl rfl (bb.g_Value a2)) (ab (ba (a := dx (ix x1 a0)) (b := dx ((ix x0.Keys a0).Value)) rfl rfl dz5) (ab (bf rfl) ?_))))))))
  refine ab (cp (k := 0) a1 rfl rfl (bb.g_Mask a2)) (ab (ba (a := dx ((ix x1 a0) ^^^ ((ix x0.Keys a0).Value))) (b := dx ((ix x0.Keys a0).Mask)) rfl rfl cf5) (ab (ba (a := dx (((ix x1 a0) ^^^ ((ix x0.Keys a0).Value)) &&& ((ix x0.Keys a0).Mask))) (b := dx 0#32) rfl rfl br2) (nS ?_)))
  refine di hres rfl ?_ ?_ <;> clear hres <;> intro c hres <;> try simp only [qa] at c
  ·refine sR (mB rfl (nS ?_))
   exact rR hres rfl rfl rfl
  ·refine ay (dj (ai (af (bN ep rfl rfl (mV rfl (aw (cx ?_)))))))
   have hbd := dv a7
   have hinc : wr (a0 + 1) = a0 + 1 := du (by omega) (by omega)
   erw [hinc]
   exact wC (ih   (by omega) (by omega) (Mem.sub a1 (.cons _ .slnil)) hres) rfl

theorem du7 {x0 : av} {x1 : List (BitVec 32)} {v0 v1 : PV} (r0 : av.t.R x0 v0) (r1 : (tSl lr).R x1 v1) : FnR Tryz.prog 30 [v0, v1] (vb (cq x0 x1)) := by
 refine fnS (R := RF30) cb5 (fun _ h => h) rfl fun res hres => ?_
 unfold cq at hres
 refine sR (ab (dt rfl (TR.cnt av.t r0)) (mB rfl (nS (ah (sR (mV rfl (ab (cw rfl (cf r1 Tryz.underlying33 _)) (gL (av.g_Keys r0) rfl rfl rfl fun a5 a4 => ?_))))))))
 refine ab (cw rfl (cf a4 Tryz.underlying38 _)) (bN ma rfl rfl (nS ?_))
 refine di hres rfl ?_ ?_ <;> clear hres <;> intro a0 hres <;> have a1 := a0 <;> try simp only [qa] at a1
 ·refine sR (mB rfl (nS ?_))
  exact rR hres rfl rfl rfl
 ·refine ay (ai (ah (sR ?_)))
  obtain ⟨a7, a3, a2⟩ := av.g_Keys r0
  refine fA rfl a3 (lD a2 rfl rfl rfl (ab (cw rfl (cf a2 Tryz.underlying38 _)) (mI rfl (nS (bd ?_)))))
  refine wC (zi r1 a0 a2 ?_  rfl (by omega) (Mem.sub (Mem.nil ⟨0, []⟩) .slnil) hres) rfl
  ·intro a6 a8 hres
   refine fe (ai (sR (mB rfl (nS ?_))))
   exact rR hres rfl rfl rfl


theorem eo2 {x0 : ak} {c0 : List (BitVec 32)} {v0 w0 : PV} (r0 : ak.t.R x0 v0) (a0 : (tSl lr).R c0 w0) : FnR Tryz.prog 29 [v0, .fp w0] (vb (cq x0.Entry c0)) := by
 obtain ⟨r, h1, rfl⟩ : ∃ r, FnR Tryz.prog 29 [v0, .fp w0] r ∧ r = vb (cq x0.Entry c0) := by
  refine fnE cf3 (by simp) ?_
  refine ah (af (ab (dt rfl (TR.cnt ak.t r0)) (ab (v := vb false) (au rfl) (aw (ai ?_)))))
  obtain ⟨we, ge, re⟩ := ak.g_Entry r0
  refine ah (af (ab (bz rfl ge) (ab (br rfl (TR.cnt _ re) (TR.agg _ re)) (ab (br rfl (TR.cnt _ a0) (TR.agg _ a0)) ?_))))
  refine cL (du7 re a0) rfl rfl (aq (TR.clo _ re) (aq (TR.clo _ a0) bg)) (ab (au rfl) (aw (ai ?_)))
  exact dw (.tmp rfl .nil) (ck rfl) rfl
 exact h1
theorem eq3 {c0 : List (BitVec 32)} {w0 : PV} (a0 : (tSl lr).R c0 w0) : (tFn Tryz.prog ak.t tB).R (fun r => cq r.Entry c0) (.fn (.func 29) [] [.fp w0]) :=
 ⟨29, [], _, rfl, rfl, by simp [closedL, closed, TR.clo _ a0], fun a va ra => ⟨_, eo2 ra a0, rfl⟩⟩
theorem en5 {c0 : ak → Bool} {c1 : aa} {c2 : Int} {u w1 : PV} (ru : (tFn Tryz.prog ak.t tB).R c0 u) (a0 : aa.t.R c1 w1) {x0 c3 : ak} {v0 w3 : PV} (r0 : ak.t.R x0 v0) (a1 : ak.t.R c3 w3) : FnR Tryz.prog 33 [v0, .fp u, .fp w1, .fp (vi c2), .fp w3] (vb (c0 x0 && dk c1 c2 x0 c3)) := by
 obtain ⟨r, h1, rfl⟩ : ∃ r, FnR Tryz.prog 33 [v0, .fp u, .fp w1, .fp (vi c2), .fp w3] r ∧ r = vb (c0 x0 && dk c1 c2 x0 c3) := by
  refine fnE cg1 (by simp) ?_
  refine ah (af (ab (dt rfl (TR.cnt ak.t r0)) (ab (v := vb false) (au rfl) (aw (ai ?_)))))
  refine ah (af (ab (br rfl (TR.cnt _ ru) (TR.agg _ ru)) (lD r0 rfl rfl rfl ?_)))
  obtain ⟨vr, hc, hvr⟩ := au8 (E := (8, v0) :: (7, u) :: _) (f := .tmp 7) (args := [.tmp 8]) (hf := false) (h := ⟨0, []⟩) rfl ru rfl r0
  have hvr : vr = vb (c0 x0) := hvr
  subst hvr
  refine wz hc (ab (au rfl) ?_)
  refine cn 6 (d := 16) (v := vb (c0 x0 && dk c1 c2 x0 c3)) ?_ ?_
  ·intro S Q r
   cases c0 x0
   ·exact gN 5 rfl rfl rfl rfl rfl rfl
   ·intro k
    refine am rfl rfl (br rfl (TR.cnt _ a0) (TR.agg _ a0)) (am rfl rfl (br rfl rfl rfl) (am rfl rfl (br rfl (TR.cnt _ r0) (TR.agg _ r0)) (am rfl rfl (br rfl (TR.cnt _ a1) (TR.agg _ a1)) ?_)))
    refine kp rfl rfl (sj rfl rfl (aq (TR.clo _ a0) (aq rfl (aq (TR.clo _ r0) (aq (TR.clo _ a1) bg)))) (cf6 (x1 := c2) a0 r0 a1)) ?_
    exact gK rfl rfl rfl rfl rfl k
  refine ab (au rfl) (aw (ai ?_))
  exact dw (.tmp rfl .nil) (ck rfl) rfl
 exact h1
theorem ep2 {c0 : ak → Bool} {c1 : aa} {c2 : Int} {u w1 : PV} (ru : (tFn Tryz.prog ak.t tB).R c0 u) (a1 : aa.t.R c1 w1) {c3 : ak} {w3 : PV} (a0 : ak.t.R c3 w3) : (tFn Tryz.prog ak.t tB).R (fun x => c0 x && dk c1 c2 x c3) (.fn (.func 33) [] [.fp u, .fp w1, .fp (vi c2), .fp w3]) :=
 ⟨33, [], _, rfl, rfl, by simp [closedL, closed, TR.clo _ ru, TR.clo _ a1, TR.clo _ a0], fun a va ra => ⟨_, en5 ru a1 ra a0, rfl⟩⟩
theorem er5 {c0 : ak → Bool} {c1 : aa} {c2 : Int} {u w1 : PV} (ru : (tFn Tryz.prog ak.t tB).R c0 u) (a0 : aa.t.R c1 w1) {x0 : ak} {l : List ak} {v0 vl : PV} (r0 : ak.t.R x0 v0) (rl : (tSl ak.t).R l vl) : FnR Tryz.prog 32 [v0, .fp u, .fp vl, .fp w1, .fp (vi c2)] (vb (c0 x0 && !(da l (fun x => c0 x && dk c1 c2 x x0)).2)) := by
 obtain ⟨r, h1, rfl⟩ : ∃ r, FnR Tryz.prog 32 [v0, .fp u, .fp vl, .fp w1, .fp (vi c2)] r ∧ r = vb (c0 x0 && !(da l (fun x => c0 x && dk c1 c2 x x0)).2) := by
  refine fnE ci5 (by simp) ?_
  refine ah (af (ab (dt rfl (TR.cnt ak.t r0)) (ab (v := vb false) (au rfl) (aw (ai ?_)))))
  refine ah (ah (af (ab (br rfl (TR.cnt _ ru) (TR.agg _ ru)) (lD r0 rfl rfl rfl ?_))))
  obtain ⟨vr, hc, hvr⟩ := au8 (E := (10, v0) :: (9, u) :: _) (f := .tmp 9) (args := [.tmp 10]) (hf := false) (h := ⟨0, []⟩) rfl ru rfl r0
  have hvr : vr = vb (c0 x0) := hvr
  subst hvr
  refine wz hc (ab (io rfl) (aw (ai (bc rfl (fun hn => ?_) fun hn => ?_))))
  ·refine ah (af (ab (v := vb false) (au rfl) (aw (ai ?_))))
   have hn : c0 x0 = false := by simpa using hn
   exact dw (.tmp rfl .nil) (ck rfl) (by rw [hn]; rfl)
  ·have hn : c0 x0 = true := by simpa using hn
   obtain ⟨d, f1, s1⟩ := bi9 rl (ep2 (c2 := c2) ru a0 r0)
   refine ay (ai (ah (af ?_)))
   refine ab (br rfl (TR.cnt _ rl) (TR.agg _ rl)) (ab (v := .fn (.func 33) [] [.fp u, .fp w1, .fp (vi c2), .fp v0]) (za rfl rfl) ?_)
   refine cL f1 rfl rfl (aq (TR.clo _ rl) (aq (by simp [closedL, closed, TR.clo _ ru, TR.clo _ a0, TR.clo _ r0]) bg)) ?_
   refine ab (au rfl) (ab (ft rfl rfl) (ab (ft rfl rfl) ?_))
   refine dh (x := .agg [vi 0, nilS, vi 0, vi 0, nilS]) (Mem.nil _) rfl rfl (fun i1 a1 h1 M1 => ?_)
   refine db (k := 0) (v := d) M1 rfl rfl rfl (TR.cnt _ s1) (fun h2 M2 => ab (au rfl) (aw (ai ?_)))
   refine ah (af (ab (au rfl) (ab (io rfl) (ab (au rfl) (aw (ai ?_))))))
   exact dw (.tmp rfl .nil) (ck rfl) (by rw [hn]; rfl)
 exact h1
theorem eq9 {c0 : ak → Bool} {c1 : aa} {c2 : Int} {u w1 : PV} (ru : (tFn Tryz.prog ak.t tB).R c0 u) (a0 : aa.t.R c1 w1) {l : List ak} {vl : PV} (rl : (tSl ak.t).R l vl) : (tFn Tryz.prog ak.t tB).R (fun r => c0 r && !(da l (fun x => c0 x && dk c1 c2 x r)).2) (.fn (.func 32) [] [.fp u, .fp vl, .fp w1, .fp (vi c2)]) :=
 ⟨32, [], _, rfl, rfl, by simp [closedL, closed, TR.clo _ ru, TR.clo _ a0, TR.clo _ rl], fun a va ra => ⟨_, er5 ru a0 ra rl, rfl⟩⟩
theorem cs8 {l : List ak} {p : ak → Bool} (H : ∀ r ∈ l, SR r) : SR (da l p).1 := by
 have z : SR ({ ID := 0, Entry := ({ Keys := ([] : List bb), Priority := 0, Call := ({ Action := 0, Args := ([] : List (BitVec 32)) } : ax) } : av) } : ak) := ⟨by simp, by simp⟩
 have key : ∀ (m : Nat) (i : Int) (z0 : ak) (K0 : ak → ak × Bool), (∀ y, SR (K0 y).1) → m = Int.toNat ((l.length : Int) - i) → 0 ≤ i → SR (fq l p K0 m i z0).1 := by
  intro m
  induction m with
  | zero => intro i z0 K0 hK hm h0; exact hK _
  | succ m ih =>
   intro i z0 K0 hK hm h0
   rw [fq]
   split
   ·show SR (ix l i)
    rw [px h0 (by omega)]
    exact H _ (List.getElem_mem _)
   ·exact ih _ _ _ hK (by omega) (by omega)
 exact key _ 0 _ _ (fun _ => z) rfl (by omega)
theorem ck3 {x0 : aa} {x1 : Int} {x2 : List ak} {x3 : List (BitVec 32)} {v0 v2 v3 : PV} (r0 : aa.t.R x0 v0) (r2 : (tSl ak.t).R x2 v2) (r3 : (tSl lr).R x3 v3) (hb : ∀ r ∈ x2, SR r) : ∃ c0, FnR Tryz.prog 12 [v0, vi x1, v2, v3] (.tup [c0, vb (jm x0 x1 x2 x3).2]) ∧ ak.t.R (jm x0 x1 x2 x3).1 c0 := by
 obtain ⟨r, h1, c0, rfl, hr⟩ : ∃ r, FnR Tryz.prog 12 [v0, vi x1, v2, v3] r ∧ ∃ c0, r = .tup [c0, vb (jm x0 x1 x2 x3).2] ∧ ak.t.R (jm x0 x1 x2 x3).1 c0 := by
  refine fnE ca0 (by simp) ?_
  refine ah (af (ab (dt rfl (TR.cnt aa.t r0)) (ab (dt rfl rfl) (ab (dt rfl (TR.cnt _ r2)) (ab (dt rfl (TR.cnt _ r3)) ?_)))))
  refine dh (x := .agg [vi 0, nilS, vi 0, vi 0, nilS]) (Mem.nil _) rfl rfl (fun i8 w8 h8 M8 => ab (v := vb false) (au rfl) (aw (ai ?_)))
  refine ah (ah (af (ab (br rfl rfl rfl) (ab (v := vb (decide (x1 < 0))) (ba rfl rfl cy) (ab (au rfl) ?_)))))
  refine cn 6 (d := 21) (v := vb (decide (x1 < 0) || decide ((x0.Tables.length : Int) ≤ x1))) ?_ ?_
  ·intro S Q r
   cases decide (x1 < 0)
   ·intro k
    obtain ⟨wt, gt, rt⟩ := aa.g_Tables r0
    refine am rfl rfl (br rfl rfl rfl) (am rfl rfl (bz rfl gt) (am rfl rfl (br rfl (TR.cnt _ rt) (TR.agg _ rt)) (am rfl rfl (cw rfl (cf rt Tryz.underlying26 _)) (am rfl rfl (ba rfl rfl tn) ?_))))
    exact gK rfl rfl rfl rfl rfl k
   ·exact gN 5 rfl rfl rfl rfl rfl rfl
  refine aw (ai (bc rfl (fun hc => ?_) fun hc => ?_))
  ·have hs : jm x0 x1 x2 x3 = (({ ID := 0, Entry := ({ Keys := ([] : List bb), Priority := 0, Call := ({ Action := 0, Args := ([] : List (BitVec 32)) } : ax) } : av) } : ak), false) := by unfold jm; rw [if_pos hc]
   rw [hs]
   refine ah (af (ab (v := .agg [vi 0, nilS, vi 0, vi 0, nilS]) (nt (cs := [vi 0, nilS, vi 0, vi 0, nilS]) rfl rfl) ?_))
   refine db (k := 0) (v := .agg [vi 0, nilS, vi 0, vi 0, nilS]) M8 rfl rfl rfl rfl (fun h9 M9 => ab (v := vb false) (au rfl) (aw (ai ?_)))
   exact dw (.cell rfl (jk (k := 0) M9 rfl rfl) (.tmp rfl .nil)) (ck rfl) ⟨_, rfl, nilS, nilS, rfl, gu, gu⟩
  ·have hs : jm x0 x1 x2 x3 = da x2 (fun r => cq r.Entry x3 && !(da x2 (fun x => cq x.Entry x3 && dk x0 x1 x r)).2) := by unfold jm; rw [if_neg (by rw [hc]; simp)]
   rw [hs]
   have ru := eq3 r3
   have hcl := TR.clo _ ru
   obtain ⟨d, f1, s1⟩ := bi9 r2 (eq9 (c2 := x1) ru r0 r2)
   refine ay (ai (ah (af (ab (v := .fn (.func 29) [] [.fp v3]) (za rfl rfl) ?_))))
   refine dh (x := .sc .nilFunc) M8 rfl rfl (fun i9 w9 h9 M9 => ?_)
   refine db (k := 0) (v := .fn (.func 29) [] [.fp v3]) M9 rfl rfl rfl rfl (fun a7 a5 => aw (ai ?_))
   refine ah (nm ?_)
   refine ak3 (k := 0) (E' := [(10, .fp (.fn (.func 29) [] [.fp v3])), (9, vb false), (8, .op i8 w8 0), (6, .fp v2), (5, .fp (vi x1)), (4, .fp v0)]) a5 rfl (rm rfl (dg rfl (dg rfl (dg rfl (dg rfl (dg rfl vd)))))) (fun a4 a0 => ?_)
   replace a0 : Mem a4 [⟨.op i8 w8 0, 44, 5, [.agg [vi 0, nilS, vi 0, vi 0, nilS]]⟩] := a0
   refine de (ab (br rfl (TR.cnt _ r2) (TR.agg _ r2)) (dc (de (ab (v := .fn (.func 32) [] [.fp (.fn (.func 29) [] [.fp v3]), .fp v2, .fp v0, .fp (vi x1)]) (za rfl rfl) (dc ?_)))))
   refine de (cL f1 rfl rfl (aq (TR.clo _ r2) (aq (by simp [closedL, closed, TR.clo _ r0, TR.clo _ r2, TR.clo _ r3]) bg)) (dc ?_))
   refine de (ab (au rfl) (dc (de (ab (ft rfl rfl) (dc (de (ab (ft rfl rfl) (dc ?_))))))))
   refine de (dh (x := .agg [vi 0, nilS, vi 0, vi 0, nilS]) a0 rfl rfl (fun a9 a8 b0 a3 => dc ?_))
   refine de (db (k := 0) (v := d) a3 rfl rfl rfl (TR.cnt _ s1) (fun a6 a1 => dc (de (ab (au rfl) (dc (uy (ai ?_)))))))
   obtain ⟨d2, f2, s2⟩ := bz5 s1 (cs8 hb)
   refine ah (af (ab (fw (k := 0) a1 rfl rfl (TR.agg _ s1)) ?_))
   refine cL f2 rfl rfl (aq (TR.clo _ s1) bg) (ab (au rfl) ?_)
   refine db (k := 1) (v := d2) a1 rfl rfl rfl (TR.cnt _ s2) (fun b1 a2 => ab (au rfl) (aw (ai ?_)))
   exact dw (.cell rfl (jk (k := 1) a2 rfl (TR.agg _ s2)) (.tmp rfl .nil)) (ck (show closed (.tup _) = true from aq (TR.clo _ s2) (aq rfl bg))) ⟨_, rfl, s2⟩
 exact ⟨c0, h1, hr⟩

def RF72 (res : Bool) (r : PV) : Prop := r = vb res
theorem xa {S : List Fr} {res : Bool} {x0 : ax} {x1 : ax} {v0 v1 : PV} (r0 : ax.t.R x0 v0) (r1 : ax.t.R x1 v1) (a3 : ((!decide (x0.Action = x1.Action)) || (!decide ((x0.Args.length : Int) = (x1.Args.length : Int)))) = false) {K0 : Unit → Bool}
  (b3 : K0 () = res → PX Tryz.prog 0 S (QR Tryz.prog [(4, none)] (RF72 res)) [] ⟨0, []⟩) :
  ∀ {m : Nat} {a0 : Int} (a9 : m = Int.toNat ((x0.Args.length : Int) - a0)) (a4 : 0 ≤ a0), jg x0 x1 K0 m a0 = res → RC Tryz.prog (.loop cz6) S (QR Tryz.prog [(4, none)] (RF72 res)) [(5, vi a0), (3, .fp v1), (2, .fp v0)] ⟨0, []⟩ := by
 have a1 := a3
 try simp only [qa] at a1
 intro m
 induction m with
 | zero =>
  intro a0 a9 a4 hres
  rw [jg] at hres
  refine bt (ah (sR (mV rfl ?_)))
  obtain ⟨b2, a7, a2⟩ := ax.g_Args r0
  refine fA rfl a7 (lD a2 rfl rfl rfl (ab (cw rfl (cf a2 Tryz.underlying33 _)) (bN cy rfl rfl (nS ?_))))
  refine bc rfl ?_ ?_ <;> intro c <;> try simp only [qa] at c
  ·omega
  refine dm (fb (df ?_))
  exact wP (b3  hres) rfl
 | succ m ih =>
  intro a0 a9 a4 hres
  rw [jg] at hres
  refine bt (ah (sR (mV rfl (gL (ax.g_Args r0) rfl rfl rfl fun b4 a5 => (ab (cw rfl (cf a5 Tryz.underlying33 _)) (bN cy rfl rfl (nS ?_)))))))
  refine bc rfl ?_ ?_ <;> intro c <;> try simp only [qa] at c
  rotate_left
  ·omega
  refine ay (ai (ah (bd (sR (gL (ax.g_Args r0) rfl rfl rfl fun b0 a8 => (mV rfl (ab (bq rfl rfl (ap0 a8 (by first | omega | (have hk := bn (by assumption) (by assumption); omega) | (have hk := tck (by assumption) (by assumption); omega) | (have hk := rtck (by assumption) (by assumption); omega) | (have hk := eck (by assumption) (by assumption) (by assumption); omega) | (have hk := tv (by assumption) (by assumption); omega) | (have hk := rtv (by assumption) (by assumption); omega)) (by first | omega | (have hk := bn (by assumption) (by assumption); omega) | (have hk := tck (by assumption) (by assumption); omega) | (have hk := rtck (by assumption) (by assumption); omega) | (have hk := eck (by assumption) (by assumption) (by assumption); omega) | (have hk := tv (by assumption) (by assumption); omega) | (have hk := rtv (by assumption) (by assumption); omega)))) (lR rfl rfl rfl ?_))))))))
  refine gL (ax.g_Args r1) rfl rfl rfl fun b1 a6 => (mV rfl (ab (bq rfl rfl (ap0 a6 (by first | omega | (have hk := bn (by assumption) (by assumption); omega) | (have hk := tck (by assumption) (by assumption); omega) | (have hk := rtck (by assumption) (by assumption); omega) | (have hk := eck (by assumption) (by assumption) (by assumption); omega) | (have hk := tv (by assumption) (by assumption); omega) | (have hk := rtv (by assumption) (by assumption); omega)) (by first | omega | (have hk := bn (by assumption) (by assumption); omega) | (have hk := tck (by assumption) (by assumption); omega) | (have hk := rtck (by assumption) (by assumption); omega) | (have hk := eck (by assumption) (by assumption) (by assumption); omega) | (have hk := tv (by assumption) (by assumption); omega) | (have hk := rtv (by assumption) (by assumption); omega)))) (lR rfl rfl rfl (ab (ba (a := dx (ix x0.Args a0)) (b := dx (ix x1.Args a0)) rfl rfl br2) (nS ?_)))))
  refine di hres rfl ?_ ?_ <;> clear hres <;> intro c hres <;> try simp only [qa] at c
  ·refine sR (mB rfl (nS ?_))
   exact rR hres rfl rfl rfl
  ·refine ay (dj (ai (af (mV rfl (bN ep rfl rfl (mV rfl (aw (cx ?_))))))))
   have hbd := dv a5
   have hinc : wr (a0 + 1) = a0 + 1 := du (by omega) (by omega)
   erw [hinc]
   exact wC (ih   (by omega) (by omega) hres) rfl

theorem dr4 {x0 : ax} {x1 : ax} {v0 v1 : PV} (r0 : ax.t.R x0 v0) (r1 : ax.t.R x1 v1) : FnR Tryz.prog 72 [v0, v1] (vb (oc x0 x1)) := by
 refine fnS (R := RF72) dv2 (fun _ h => h) rfl fun res hres => ?_
 unfold oc at hres
 refine sR (ab (dt rfl (TR.cnt ax.t r0)) (ab (dt rfl (TR.cnt ax.t r1)) (mB rfl (nS (ah (sR (fL rfl (ax.g_Action r0) rfl rfl (fL rfl (ax.g_Action r1) rfl rfl ?_))))))))
 refine bN ma rfl rfl (mV rfl ?_)
 refine cn 8 (d := 19) (v := vb ((!decide (x0.Action = x1.Action)) || (!decide ((x0.Args.length : Int) = (x1.Args.length : Int))))) ?_ ?_
 ·intro S Q r
  cases a5 : (!decide (x0.Action = x1.Action))
  ·intro k
   have a4 := a5
   try simp only [qa] at a4
   obtain ⟨a8, a7, a2⟩ := ax.g_Args r0
   refine am rfl rfl (bz rfl a7) (am rfl rfl (br rfl (TR.cnt (tSl lr) a2) (TR.agg (tSl lr) a2)) (am rfl rfl (cw rfl (cf a2 Tryz.underlying33 _)) ?_))
   obtain ⟨a9, a6, a3⟩ := ax.g_Args r1
   refine am rfl rfl (bz rfl a6) (am rfl rfl (br rfl (TR.cnt (tSl lr) a3) (TR.agg (tSl lr) a3)) (am rfl rfl (cw rfl (cf a3 Tryz.underlying33 _)) (am rfl rfl (ba rfl rfl ma) ?_)))
   exact gK rfl rfl rfl rfl rfl k
  ·exact gN 7 rfl rfl rfl rfl rfl rfl
 refine nS ?_
 refine di hres rfl ?_ ?_ <;> clear hres <;> intro a0 hres <;> have a1 := a0 <;> try simp only [qa] at a1
 ·refine sR (mB rfl (nS ?_))
  exact rR hres rfl rfl rfl
 ·refine ay (ai (ah (sR (mI rfl (nS (bd ?_))))))
  refine wC (xa r0 r1 a0 ?_  rfl (by omega) hres) rfl
  ·intro  hres
   refine fe (ai (sR (mB rfl (nS ?_))))
   exact rR hres rfl rfl rfl

def RF38 (res : Bool) (r : PV) : Prop := r = vb res
theorem dj3 {x0 : av} {x1 : av} {v0 v1 : PV} (r0 : av.t.R x0 v0) (r1 : av.t.R x1 v1) : FnR Tryz.prog 38 [v0, v1] (vb (td x0 x1)) := by
 refine fnS (R := RF38) dw0 (fun _ h => h) rfl fun res hres => ?_
 unfold td at hres
 refine sR (ab (dt rfl (TR.cnt av.t r0)) (ab (dt rfl (TR.cnt av.t r1)) (mB rfl (nR (lD r0 rfl rfl rfl (lD r1 rfl rfl rfl ?_))))))
 obtain ⟨a4, a5, hres⟩ := dq hres
 have a6 := dn9  r0 r1 
 rw [a5] at a6
 refine cL a6 rfl rfl (aq (TR.clo av.t r0) (aq (TR.clo av.t r1) bg)) (mV rfl ?_)
 refine cn 6 (d := 14) (v := vb (a4 && (oc x0.Call x1.Call))) ?_ ?_
 ·intro S Q r
  cases a3 : a4
  ·exact gN 5 rfl rfl rfl rfl rfl rfl
  ·intro k
   have a2 := a3
   try simp only [qa] at a2
   obtain ⟨b1, a8, a0⟩ := av.g_Call r0
   refine am rfl rfl (bz rfl a8) (am rfl rfl (br rfl (TR.cnt ax.t a0) (TR.agg ax.t a0)) ?_)
   obtain ⟨b0, a9, a1⟩ := av.g_Call r1
   refine am rfl rfl (bz rfl a9) (am rfl rfl (br rfl (TR.cnt ax.t a1) (TR.agg ax.t a1)) ?_)
   have a7 := dr4  a0 a1 
   refine kp rfl rfl (sj rfl rfl (aq (TR.clo ax.t a0) (aq (TR.clo ax.t a1) bg)) a7) ?_
   exact gK rfl rfl rfl rfl rfl k
 refine mV rfl (nS ?_)
 exact rR hres rfl rfl rfl

def RF14 (res : Bool) (r : PV) : Prop := r = vb res
theorem dj8 {x0 : ak} {x1 : ak} {v0 v1 : PV} (r0 : ak.t.R x0 v0) (r1 : ak.t.R x1 v1) : FnR Tryz.prog 14 [v0, v1] (vb (rh x0 x1)) := by
 refine fnS (R := RF14) dr0 (fun _ h => h) rfl fun res hres => ?_
 unfold rh at hres
 refine sR (ab (dt rfl (TR.cnt ak.t r0)) (ab (dt rfl (TR.cnt ak.t r1)) (mB rfl (nR (fL rfl (ak.g_ID r0) rfl rfl (fL rfl (ak.g_ID r1) rfl rfl (bN oe rfl rfl (mV rfl ?_))))))))
 refine cn 6 (d := 16) (v := vb ((decide (x0.ID = x1.ID)) && (td x0.Entry x1.Entry))) ?_ ?_
 ·intro S Q r
  cases a3 : (decide (x0.ID = x1.ID))
  ·exact gN 5 rfl rfl rfl rfl rfl rfl
  ·intro k
   have a2 := a3
   try simp only [qa] at a2
   obtain ⟨a7, a6, a0⟩ := ak.g_Entry r0
   refine am rfl rfl (bz rfl a6) (am rfl rfl (br rfl (TR.cnt av.t a0) (TR.agg av.t a0)) ?_)
   obtain ⟨a8, a4, a1⟩ := ak.g_Entry r1
   refine am rfl rfl (bz rfl a4) (am rfl rfl (br rfl (TR.cnt av.t a1) (TR.agg av.t a1)) ?_)
   have a5 := dj3  a0 a1 
   refine kp rfl rfl (sj rfl rfl (aq (TR.clo av.t a0) (aq (TR.clo av.t a1) bg)) a5) ?_
   exact gK rfl rfl rfl rfl rfl k
 refine mV rfl (nS ?_)
 exact rR hres rfl rfl rfl

def RF7 (res : Bool) (r : PV) : Prop := r = vb res
theorem wm {S : List Fr} {res : Bool} {x0 : bm} {c0 : Bool} {a9 : (List Int) × Int} {e1 : (List (BitVec 32))} {v0 b8 c6 : PV} (r0 : bm.t.R x0 v0) (e5 : im x0 = c0) (c8 : c0 = false) (e4 : fj x0.Program x0.Table x0.Rows = a9) (d0 : (tSl tI).R a9.1 b8) (d2 : (!decide (a9.2 = 0)) = false) (e6 : lv x0 = e1) {K0 : (List ak) → Bool}
  (f3 : ∀ {a1 : List ak} {a0 : List PV} {a2 : PV} (a4 : All2 ak.t.R a1 a0) (a6 : isL a2 = true) (a3 : Wri a2 a0) (a5 : a1.length ≤ 4611686018427387904) (f7 : ∀ r ∈ a1, SR r) {h : Heap} (M0 : Mem h [⟨a2, 44, 5, a0⟩]), K0 a1 = res → PX Tryz.prog 0 S (QR Tryz.prog [(2, none)] (RF7 res)) [(1, .fp v0), (3, b8), (5, c6), (6, a2)] h) :
  ∀ {m : Nat} {a7 : Int} {a1 : List ak} {a0 : List PV} {a2 : PV} (a4 : All2 ak.t.R a1 a0) (a6 : isL a2 = true) (a3 : Wri a2 a0) (a5 : a1.length ≤ 4611686018427387904) (e7 : m = Int.toNat ((x0.Rows.length : Int) - a7)) (c5 : 0 ≤ a7) (b3 : ∀ r ∈ a1, SR r) (b2 : (a1.length : Int) ≤ a7) (b1 : a7 ≤ (x0.Rows.length : Int)) {h : Heap} (M0 : Mem h [⟨a2, 44, 5, a0⟩]), gb x0 a9 K0 m a7 a1 = res → RC Tryz.prog (.loop dt9) S (QR Tryz.prog [(2, none)] (RF7 res)) [(7, vi a7), (6, a2), (5, c6), (3, b8), (1, .fp v0)] h := by
 have b5 := c8
 try simp only [qa] at b5
 have b4 := d2
 try simp only [qa] at b4
 intro m
 induction m with
 | zero =>
  intro a7 a1 a0 a2 a4 a6 a3 a5 e7 c5 b3 b2 b1 h M0 hres
  rw [gb] at hres
  refine bt (ah (sR (mV rfl (gL (bm.g_Rows r0) rfl rfl rfl fun f6 d7 => (ab (cw rfl (cf d7 Tryz.underlying32 _)) (bN cy rfl rfl (nS ?_)))))))
  refine bc rfl ?_ ?_ <;> intro c <;> try simp only [qa] at c
  ·omega
  refine dm (fb (df ?_))
  exact wP (f3 a4 a6 a3 a5 (by assumption) (Mem.sub M0 (.cons_cons _ .slnil)) hres) rfl
 | succ m ih =>
  intro a7 a1 a0 a2 a4 a6 a3 a5 e7 c5 b3 b2 b1 h M0 hres
  rw [gb] at hres
  refine bt (ah (sR (mV rfl (gL (bm.g_Rows r0) rfl rfl rfl fun e8 b7 => (ab (cw rfl (cf b7 Tryz.underlying32 _)) (bN cy rfl rfl (nS ?_)))))))
  refine bc rfl ?_ ?_ <;> intro c <;> try simp only [qa] at c
  rotate_left
  ·omega
  refine ay (ai (ah (bd (sR (mV rfl (gL (bm.g_Rows r0) rfl rfl rfl fun f5 d5 => (mV rfl ?_)))))))
  obtain ⟨e9, d4, e0⟩ := dl (i := a7) d5 (by first | omega | (have hk := bn (by assumption) (by assumption); omega) | (have hk := tck (by assumption) (by assumption); omega) | (have hk := rtck (by assumption) (by assumption); omega) | (have hk := eck (by assumption) (by assumption) (by assumption); omega) | (have hk := tv (by assumption) (by assumption); omega) | (have hk := rtv (by assumption) (by assumption); omega)) (by first | omega | (have hk := bn (by assumption) (by assumption); omega) | (have hk := tck (by assumption) (by assumption); omega) | (have hk := rtck (by assumption) (by assumption); omega) | (have hk := eck (by assumption) (by assumption) (by assumption); omega) | (have hk := tv (by assumption) (by assumption); omega) | (have hk := rtv (by assumption) (by assumption); omega))
  refine ab (bq rfl rfl d4) (fL rfl (ak.g_ID e0) rfl rfl ?_)
  obtain ⟨f0, d1, hres⟩ := dq hres
  have c1 := ca3 (x1 := (ix x0.Rows a7).ID) d0 
  rw [d1] at c1
  refine cL c1 rfl rfl (aq (TR.clo (tSl tI) d0) (aq rfl bg)) (ab (io rfl) (nS ?_))
  refine di hres rfl ?_ ?_ <;> clear hres <;> intro c hres <;> try simp only [qa] at c
  ·refine af (mV rfl (gL (bm.g_Rows r0) rfl rfl rfl fun f2 e3 => (mV rfl ?_)))
   obtain ⟨c7, e2, b6⟩ := dl (i := a7) e3 (by first | omega | (have hk := bn (by assumption) (by assumption); omega) | (have hk := tck (by assumption) (by assumption); omega) | (have hk := rtck (by assumption) (by assumption); omega) | (have hk := eck (by assumption) (by assumption) (by assumption); omega) | (have hk := tv (by assumption) (by assumption); omega) | (have hk := rtv (by assumption) (by assumption); omega)) (by first | omega | (have hk := bn (by assumption) (by assumption); omega) | (have hk := tck (by assumption) (by assumption); omega) | (have hk := rtck (by assumption) (by assumption); omega) | (have hk := eck (by assumption) (by assumption) (by assumption); omega) | (have hk := tv (by assumption) (by assumption); omega) | (have hk := rtv (by assumption) (by assumption); omega))
   refine ab (bq rfl rfl e2) (lD b6 rfl rfl rfl (ab (v := .fs true [c7]) (iw rfl (all_cons (TR.cnt ak.t b6) lu)) ?_))
   have d9 : (tSl ak.t).R ([(ix x0.Rows a7)] : List ak) (.fs true [c7]) := tp ⟨b6, trivial⟩ (by simp)
   obtain ⟨a8, c9, b0⟩ := uv (t := ak.t) (h := h) d9
   have b9 : fits (a0.length + a8.length) 72 = true := by rw [All2.length_eq a4, All2.length_eq b0]; (try simp only [List.length_cons, List.length_nil]); exact oz (by (have hk := (tlb (by assumption) (by assumption)).2.1; omega)) (by (have hk := (tlb (by assumption) (by assumption)).2.1; omega))
   refine pt (k := 0) (es := a0) (news := a8) M0 rfl rfl rfl a6 a3 c9 b9 (fun f4 f1 d6 d3 d8 => ?_)
   have c4 : All2 ak.t.R (a1 ++ ([(ix x0.Rows a7)] : List ak)) (a0 ++ a8) := All2.app a4 b0
   have c3 : (a1 ++ ([(ix x0.Rows a7)] : List ak)).length ≤ 4611686018427387904 := by rw [← All2.length_eq c4, List.length_append]; exact ur b9
   refine mV rfl (aw (dj (ai (af (mV rfl (bN ep rfl rfl (mV rfl (aw ?_))))))))
   refine cx ?_
   have hbd := dv b7
   have hinc : wr (a7 + 1) = a7 + 1 := du (by omega) (by omega)
   erw [hinc]
   exact wC (ih  c4 d6 d3 c3 (by omega) (by omega) (by first | assumption | omega | (simp only [List.length_append, List.length_cons, List.length_nil]; omega) | exact srA (by assumption) (tl (by assumption) (by assumption) _ (se.2 ⟨_, by omega, by omega, rfl⟩)) | (intro r hr; cases hr)) (by first | assumption | omega | (simp only [List.length_append, List.length_cons, List.length_nil]; omega) | exact srA (by assumption) (tl (by assumption) (by assumption) _ (se.2 ⟨_, by omega, by omega, rfl⟩)) | (intro r hr; cases hr)) (by first | assumption | omega | (simp only [List.length_append, List.length_cons, List.length_nil]; omega) | exact srA (by assumption) (tl (by assumption) (by assumption) _ (se.2 ⟨_, by omega, by omega, rfl⟩)) | (intro r hr; cases hr)) (Mem.sub d8 (.cons_cons _ .slnil)) hres) rfl
  ·refine ay (dj (ai (af (mV rfl (bN ep rfl rfl (mV rfl (aw (cx ?_))))))))
   have hbd := dv b7
   have hinc : wr (a7 + 1) = a7 + 1 := du (by omega) (by omega)
   erw [hinc]
   exact wC (ih  a4 a6 a3 a5 (by omega) (by omega) (by first | assumption | omega | (simp only [List.length_append, List.length_cons, List.length_nil]; omega) | exact srA (by assumption) (tl (by assumption) (by assumption) _ (se.2 ⟨_, by omega, by omega, rfl⟩)) | (intro r hr; cases hr)) (by first | assumption | omega | (simp only [List.length_append, List.length_cons, List.length_nil]; omega) | exact srA (by assumption) (tl (by assumption) (by assumption) _ (se.2 ⟨_, by omega, by omega, rfl⟩)) | (intro r hr; cases hr)) (by first | assumption | omega | (simp only [List.length_append, List.length_cons, List.length_nil]; omega) | exact srA (by assumption) (tl (by assumption) (by assumption) _ (se.2 ⟨_, by omega, by omega, rfl⟩)) | (intro r hr; cases hr)) (Mem.sub M0 (.cons_cons _ .slnil)) hres) rfl

theorem ed8 {x0 : bm} {v0 : PV} (r0 : bm.t.R x0 v0) : FnR Tryz.prog 7 [v0] (vb (ng x0)) := by
 refine fnS (R := RF7) ea9 (fun _ h => h) rfl fun res hres => ?_
 unfold ng at hres
 refine sR (ab (dt rfl (TR.cnt bm.t r0)) (mB rfl (nS (ah (sR (lD r0 rfl rfl rfl ?_))))))
 obtain ⟨i5, c4, hres⟩ := dq hres
 have f8 := dj2  r0 
 rw [c4] at f8
 refine cL f8 rfl rfl (aq (TR.clo bm.t r0) bg) (nS ?_)
 refine di hres rfl ?_ ?_ <;> clear hres <;> intro b9 hres <;> have c7 := b9 <;> try simp only [qa] at c7
 ·refine sR ?_
  obtain ⟨i1, d6, hres⟩ := dq hres
  have f3 := bd9   
  rw [d6] at f3
  refine cL f3 rfl rfl bg (mV rfl (nS ?_))
  exact rR hres rfl rfl rfl
 ·refine ay (ai (sR (gL (bm.g_Program r0) rfl rfl rfl fun h7 e3 => (fL rfl (bm.g_Table r0) rfl rfl (gL (bm.g_Rows r0) rfl rfl rfl fun i3 f0 => ?_)))))
  obtain ⟨a9, c0, hres⟩ := dq hres
  obtain ⟨h5, g0, b6⟩ := dn1 (x1 := x0.Table) e3 f0 (by first | exact tl (by assumption) (by assumption) | exact (tlb (by assumption) (by assumption)).1 | exact (tlb (by assumption) (by assumption)).2.1) (by first | exact tl (by assumption) (by assumption) | exact (tlb (by assumption) (by assumption)).1 | exact (tlb (by assumption) (by assumption)).2.1) (by first | exact tl (by assumption) (by assumption) | exact (tlb (by assumption) (by assumption)).1 | exact (tlb (by assumption) (by assumption)).2.1)
  rw [c0] at g0 b6
  refine cL g0 rfl rfl (aq (TR.clo aa.t e3) (aq rfl (aq (TR.clo (tSl ak.t) f0) bg))) (mV rfl (xT rfl rfl (xT rfl rfl (mV rfl (mV rfl (nS (ah (sR ?_))))))))
  refine mV rfl (bN ma rfl rfl (nS ?_))
  refine di hres rfl ?_ ?_ <;> clear hres <;> intro c3 hres <;> have d4 := c3 <;> try simp only [qa] at d4
  ·refine sR ?_
   obtain ⟨i2, e6, hres⟩ := dq hres
   have d8 := bd9   
   rw [e6] at d8
   refine cL d8 rfl rfl bg (mV rfl (nS ?_))
   exact rR hres rfl rfl rfl
  ·refine ay (ai (sR (lD r0 rfl rfl rfl ?_)))
   obtain ⟨h9, c1, hres⟩ := dq hres
   obtain ⟨c8, h4, a7⟩ := dn2  r0 (by first | exact nvW (by assumption) (by assumption) | exact nvL (by assumption) (by assumption) | exact nvW (by assumption) (of_decide_eq_true (by simp_all)) | exact nvL (by assumption) (by simp_all)) (by first | exact nvW (by assumption) (by assumption) | exact nvL (by assumption) (by assumption) | exact nvW (by assumption) (of_decide_eq_true (by simp_all)) | exact nvL (by assumption) (by simp_all))
   rw [c1] at a7
   refine cL h4 rfl rfl (aq (TR.clo bm.t r0) bg) (mV rfl (nR (ab (v := nilS) (au rfl) (nS (ah (sR (mI rfl (nS ?_))))))))
   refine bd ?_
   have h0 := pq (sz := 5) (es := []) (Mem.nil ⟨0, []⟩) 44 (.inl ⟨none, rfl, rfl⟩) (by simp)
   refine wC (wm r0 c4 b9 c0 b6 c3 c1 ?_  aL rfl (.inl rfl) (by first | decide | simp) rfl (by omega) (by first | omega | (simp; done) | (simp only [List.length_append, List.length_cons, List.length_nil, List.length_set]; omega)) (by first | omega | (simp; done) | (simp only [List.length_append, List.length_cons, List.length_nil, List.length_set]; omega)) (by first | omega | (simp; done) | (simp only [List.length_append, List.length_cons, List.length_nil, List.length_set]; omega)) (Mem.sub h0 (.cons_cons _ .slnil)) hres) rfl
   ·intro a2 a3 b3 b4 b2 d5 a5 g1 h8 g6 hres
    refine fe (ai (sR (gL (bm.g_Program r0) rfl rfl rfl fun f2 e5 => (fL rfl (bm.g_Table r0) rfl rfl (gL (bm.g_Rows r0) rfl rfl rfl fun e2 f7 => (mV rfl ?_))))))
    obtain ⟨a0, d7, hres⟩ := dq hres
    obtain ⟨a1, f6, a4⟩ := ck3 (x1 := x0.Table) e5 f7 a7 (by first | exact tl (by assumption) (by assumption) | assumption)
    rw [d7] at f6 a4
    refine cL f6 rfl rfl (aq (TR.clo aa.t e5) (aq rfl (aq (TR.clo (tSl ak.t) f7) (aq (TR.clo (tSl lr) a7) bg)))) (mV rfl (xT rfl rfl (xT rfl rfl ?_)))
    refine dh (x := .agg [vi 0, nilS, vi 0, vi 0, nilS]) g6 rfl rfl (fun b7 b8 i0 g5 => ?_)
    refine db (k := 0) (v := a1) g5 rfl rfl rfl (TR.cnt ak.t a4) (fun g2 d0 => ?_)
    replace d0 : Mem g2 [⟨.op b7 b8 0, 44, 5, [a1]⟩, ⟨b3, 44, 5, a3⟩] := d0
    refine mV rfl (nS (ah (nm (de ?_))))
    obtain ⟨d9, h2, d1⟩ := bm.g_Program r0
    refine fA rfl h2 (dc (de (lD d1 rfl rfl rfl (dc (de (fA rfl (bm.g_Table r0) (dc (de ?_))))))))
    refine lR rfl rfl rfl (dc (de (mV rfl (dc (de (mV rfl (dc ?_)))))))
    refine yv (k := 1) (E' := fun b1 => [(71, c8), (70, b1), (69, vi x0.Table), (68, .fp (vi x0.Table)), (67, d9), (66, .fp d9), (9, vb a0.2), (8, .op b7 b8 0), (64, vb a0.2), (63, a1), (54, .tup [a1, vb a0.2]), (62, .tup [a1, vb a0.2]), (61, c8), (60, e2), (59, .fp e2), (58, vi x0.Table), (57, .fp (vi x0.Table)), (56, f2), (55, .fp f2), (1, .fp v0), (3, h5), (5, c8), (6, b1)]) d0 rfl b2 (fun b1 => (dg rfl (rm rfl (dg rfl (dg rfl (dg rfl (dg rfl (dg rfl (dg rfl (dg rfl (dg rfl (dg rfl (dg rfl (dg rfl (dg rfl (dg rfl (dg rfl (dg rfl (dg rfl (dg rfl (dg rfl (dg rfl (dg rfl (rm rfl vd)))))))))))))))))))))))) (fun b1 g9 g3 c9 => ?_)
    have f9 : (tSl ak.t).R a2 b1 := ⟨⟨_, g3, b4⟩, Nat.le_trans a5 (by decide)⟩
    replace c9 : Mem g9 [⟨.op b7 b8 0, 44, 5, [a1]⟩] := c9.sub (.cons_cons _ .slnil)
    refine de ?_
    obtain ⟨a8, e0, hres⟩ := dq hres
    obtain ⟨e7, e1, b0⟩ := ck3 (x1 := x0.Table) d1 f9 a7 (by first | exact tl (by assumption) (by assumption) | assumption)
    rw [e0] at e1 b0
    refine cL e1 rfl rfl (aq (TR.clo aa.t d1) (aq rfl (aq (TR.clo (tSl ak.t) f9) (aq (TR.clo (tSl lr) a7) bg)))) (dc (de (mV rfl (dc (de (xT rfl rfl (dc (de ?_))))))))
    refine xT rfl rfl (dc (de ?_))
    refine dh (x := .agg [vi 0, nilS, vi 0, vi 0, nilS]) c9 rfl rfl (fun h6 h3 i4 g4 => ?_)
    refine dc (de ?_)
    refine db (k := 0) (v := e7) g4 rfl rfl rfl (TR.cnt ak.t b0) (fun h1 b5 => ?_)
    replace b5 : Mem h1 [⟨.op h6 h3 0, 44, 5, [e7]⟩, ⟨.op b7 b8 0, 44, 5, [a1]⟩] := b5
    refine dc (de (mV rfl (dc (uy (ai (sR (ab (fw (k := 1) b5 rfl rfl (TR.agg ak.t a4)) (ab (fw (k := 0) b5 rfl rfl (TR.agg ak.t b0)) ?_))))))))
    obtain ⟨a6, f5, hres⟩ := dq hres
    have f1 := dj8  a4 b0 
    rw [f5] at f1
    refine cL f1 rfl rfl (aq (TR.clo ak.t a4) (aq (TR.clo ak.t b0) bg)) (mV rfl ?_)
    refine cn 4 (d := 82) (v := vb (a6 && (decide (a0.2 = a8.2)))) ?_ ?_
    ·intro S Q r
     cases e9 : a6
     ·exact gN 3 rfl rfl rfl rfl rfl rfl
     ·intro k
      have c5 := e9
      try simp only [qa] at c5
      refine am rfl rfl (au rfl) (am rfl rfl (au rfl) (am rfl rfl (ba rfl rfl (az6 (by rw [Tryz.underlying4]; rfl))) ?_))
      exact gK rfl rfl rfl rfl rfl k
    refine mV rfl ?_
    refine cn 10 (d := 93) (v := vb ((a6 && (decide (a0.2 = a8.2))) && ((!a0.2) || (!(lf a9.1 a0.1.ID))))) ?_ ?_
    ·intro S Q r
     cases f4 : (a6 && (decide (a0.2 = a8.2)))
     ·exact gN 9 rfl rfl rfl rfl rfl rfl
     ·intro k
      have c6 := f4
      try simp only [qa] at c6
      refine am rfl rfl (au rfl) (am rfl rfl (io rfl) (am rfl rfl (au rfl) ?_))
      refine cn 6 (d := 92) (v := vb ((!a0.2) || (!(lf a9.1 a0.1.ID)))) ?_ ?_
      ·intro S Q r
       cases e4 : (!a0.2)
       ·intro k
        have d2 := e4
        try simp only [qa] at d2
        refine am rfl rfl (au rfl) (am rfl rfl (bf rfl) (am rfl rfl (cp (k := 1) b5 rfl rfl (ak.g_ID a4)) ?_))
        have g7 := ca3 (x1 := a0.1.ID) b6 
        refine kp rfl rfl (sj rfl rfl (aq (TR.clo (tSl tI) b6) (aq rfl bg)) g7) (am rfl rfl (io rfl) (am (v := vb (!(lf a9.1 a0.1.ID))) rfl rfl (vc rfl rfl rfl rfl) ?_))
        exact wD k rfl
       ·intro k
        refine sx rfl rfl (sx rfl rfl (sx rfl rfl (sx rfl rfl (sx rfl rfl (am (v := vb true) rfl rfl (vc rfl rfl rfl rfl) ?_)))))
        exact wD k rfl
      exact gK rfl rfl rfl rfl rfl k
    refine mV rfl ?_
    refine cn 2 (d := 96) (v := vb (((a6 && (decide (a0.2 = a8.2))) && ((!a0.2) || (!(lf a9.1 a0.1.ID)))) && (lb))) ?_ ?_
    ·intro S Q r
     cases e8 : ((a6 && (decide (a0.2 = a8.2))) && ((!a0.2) || (!(lf a9.1 a0.1.ID))))
     ·exact gN 1 rfl rfl rfl rfl rfl rfl
     ·intro k
      have d3 := e8
      try simp only [qa] at d3
      have g8 := bd9   
      refine kp rfl rfl (sj rfl rfl bg g8) ?_
      exact gK rfl rfl rfl rfl rfl k
    refine mV rfl (nS ?_)
    exact rR hres rfl rfl rfl

end Go.Proofs.YthdnpgpnodgicaaGreat
