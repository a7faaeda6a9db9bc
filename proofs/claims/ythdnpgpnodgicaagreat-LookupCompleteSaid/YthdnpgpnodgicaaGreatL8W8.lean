/-
 The code of each function does what its plain program says.
-/
import Derived.Test.YthdnpgpnodgicaaGreatL8W7
set_option linter.unusedVariables false
set_option linter.unusedSimpArgs false
set_option maxRecDepth 100000
namespace Go.Proofs.YthdnpgpnodgicaaGreat
open Go Go.Pb Go.RowKit
def RF30 (res : Bool) (r : PV) : Prop := r = vb res
theorem ze {S : List Fr} {res : Bool} {x0 : aw} {x1 : List (BitVec 32)} {v1 a4 : PV} (r1 : (tSl nq).R x1 v1) (a6 : (!decide ((x1.length : Int) = (x0.Keys.length : Int))) = false) (a8 : (tSl ba.t).R x0.Keys a4) {K0 : Unit → Bool}
  (b6 : ∀ {h : Heap} (M0 : Mem h []), K0 () = res → PX Tryz.prog 0 S (QR Tryz.prog [(4, none)] (RF30 res)) [] h) :
  ∀ {m : Nat} {a0 : Int} (b4 : m = Int.toNat ((x0.Keys.length : Int) - a0)) (a7 : 0 ≤ a0) {h : Heap} (M0 : Mem h []), jb x0 x1 K0 m a0 = res → RC Tryz.prog (.loop cs6) S (QR Tryz.prog [(4, none)] (RF30 res)) [(16, vi a0), (15, vi (x0.Keys.length : Int)), (14, a4), (1, v1)] h := by
 have a3 := a6
 try simp only [qa] at a3
 intro m
 induction m with
 | zero =>
  intro a0 b4 a7 h M0 hres
  rw [jb] at hres
  refine bw (sR (bN cy rfl rfl (nS (ah ?_))))
  refine bc rfl ?_ ?_ <;> intro c <;> try simp only [qa] at c
  ·omega
  refine dt (fj (df ?_))
  exact wP (b6 (Mem.sub M0 .slnil) hres) rfl
 | succ m ih =>
  intro a0 b4 a7 h M0 hres
  rw [jb] at hres
  refine bw (sR (bN cy rfl rfl (nS (ah ?_))))
  refine bc rfl ?_ ?_ <;> intro c <;> try simp only [qa] at c
  rotate_left
  ·omega
  refine ay (ai (ah (bf (sR (mV rfl ?_)))))
  obtain ⟨a5, b0, a2⟩ := dk (i := a0) a8 (by first | omega | (have hk := bn (by assumption) (by assumption); omega) | (have hk := tck (by assumption) (by assumption); omega) | (have hk := rtck (by assumption) (by assumption); omega) | (have hk := eck (by assumption) (by assumption) (by assumption); omega) | (have hk := tv (by assumption) (by assumption); omega) | (have hk := rtv (by assumption) (by assumption); omega)) (by first | omega | (have hk := bn (by assumption) (by assumption); omega) | (have hk := tck (by assumption) (by assumption); omega) | (have hk := rtck (by assumption) (by assumption); omega) | (have hk := eck (by assumption) (by assumption) (by assumption); omega) | (have hk := tv (by assumption) (by assumption); omega) | (have hk := rtv (by assumption) (by assumption); omega))
  refine ab (bp rfl rfl b0) (lD a2 rfl rfl rfl ?_)
  refine dc (x := .agg [fb 0#32, fb 0#32]) M0 rfl rfl (fun a9 b1 b5 b3 => ?_)
  refine mV rfl ?_
  refine db (k := 0) (v := a5) b3 rfl rfl rfl (TR.cnt ba.t a2) (fun b2 a1 => ?_)
  replace a1 : Mem b2 [⟨.op a9 b1 0, 127, 2, [a5]⟩] := a1
  refine nR (mV rfl (mV rfl (ab (bp rfl rfl (cj8 r1 (by first | omega | (have hk := bn (by assumption) (by assumption); omega) | (have hk := tck (by assumption) (by assumption); omega) | (have hk := rtck (by assumption) (by assumption); omega) | (have hk := eck (by assumption) (by assumption) (by assumption); omega) | (have hk := tv (by assumption) (by assumption); omega) | (have hk := rtv (by assumption) (by assumption); omega)) (by first | omega | (have hk := bn (by assumption) (by assumption); omega) | (have hk := tck (by assumption) (by assumption); omega) | (have hk := rtck (by assumption) (by assumption); omega) | (have hk := eck (by assumption) (by assumption) (by assumption); omega) | (have hk := tv (by assumption) (by assumption); omega) | (have hk := rtv (by assumption) (by assumption); omega)))) (lR rfl rfl rfl (ab (bd rfl) (ab (co (k := 0) a1 rfl rfl (ba.g_Value a2)) (ab (az (a := fb (ix x1 a0)) (b := fb ((ix x0.Keys a0).Value)) rfl rfl eg5) (ab (bd rfl) ?_))))))))
  refine ab (co (k := 0) a1 rfl rfl (ba.g_Mask a2)) (ab (az (a := fb ((ix x1 a0) ^^^ ((ix x0.Keys a0).Value))) (b := fb ((ix x0.Keys a0).Mask)) rfl rfl by6) (ab (az (a := fb (((ix x1 a0) ^^^ ((ix x0.Keys a0).Value)) &&& ((ix x0.Keys a0).Mask))) (b := fb 0#32) rfl rfl ci3) (nS ?_)))
  refine dg hres rfl ?_ ?_ <;> clear hres <;> intro c hres <;> try simp only [qa] at c
  ·refine sR (mB rfl (nS ?_))
   exact rR hres rfl rfl rfl
  ·refine ay (dh (ai (af (bN fa rfl rfl (mV rfl (av (cx ?_)))))))
   have hbd := ee a8
   have hinc : wr (a0 + 1) = a0 + 1 := dm (by omega) (by omega)
   erw [hinc]
   exact wC (ih   (by omega) (by omega) (Mem.sub a1 (.cons _ .slnil)) hres) rfl

theorem du7 {x0 : aw} {x1 : List (BitVec 32)} {v0 v1 : PV} (r0 : aw.t.R x0 v0) (r1 : (tSl nq).R x1 v1) : FnR Tryz.prog 30 [v0, v1] (vb (cq x0 x1)) := by
 refine fnS (R := RF30) cn0 (fun _ h => h) rfl fun res hres => ?_
 unfold cq at hres
 refine sR (ab (dz rfl (TR.cnt aw.t r0)) (mB rfl (nS (ah (sR (mV rfl (ab (cw rfl (cg r1 Tryz.underlying33 _)) (gL (aw.g_Keys r0) rfl rfl rfl fun a6 a3 => ?_))))))))
 refine ab (cw rfl (cg a3 Tryz.underlying38 _)) (bN nf rfl rfl (nS ?_))
 refine dg hres rfl ?_ ?_ <;> clear hres <;> intro a0 hres <;> have a1 := a0 <;> try simp only [qa] at a1
 ·refine sR (mB rfl (nS ?_))
  exact rR hres rfl rfl rfl
 ·refine ay (ai (ah (sR (gL (aw.g_Keys r0) rfl rfl rfl fun a7 a2 => (ab (cw rfl (cg a2 Tryz.underlying38 _)) (mI rfl (nS (bf ?_))))))))
  refine wC (ze r1 a0 a2 ?_  rfl (by omega) (Mem.sub (Mem.nil ⟨0, []⟩) .slnil) hres) rfl
  ·intro a5 a4 hres
   refine ft (ai (sR (mB rfl (nS ?_))))
   exact rR hres rfl rfl rfl


theorem er2 {x0 : am} {c0 : List (BitVec 32)} {v0 w0 : PV} (r0 : am.t.R x0 v0) (a0 : (tSl nq).R c0 w0) : FnR Tryz.prog 29 [v0, .fp w0] (vb (cq x0.Entry c0)) := by
 obtain ⟨r, h1, rfl⟩ : ∃ r, FnR Tryz.prog 29 [v0, .fp w0] r ∧ r = vb (cq x0.Entry c0) := by
  refine fnE cd6 (by simp) ?_
  refine ah (af (ab (dz rfl (TR.cnt am.t r0)) (ab (v := vb false) (au rfl) (av (ai ?_)))))
  obtain ⟨we, ge, re⟩ := am.g_Entry r0
  refine ah (af (ab (ck rfl ge) (ab (bt rfl (TR.cnt _ re) (TR.agg _ re)) (ab (bt rfl (TR.cnt _ a0) (TR.agg _ a0)) ?_))))
  refine cL (du7 re a0) rfl rfl (aq (TR.clo _ re) (aq (TR.clo _ a0) bh)) (ab (au rfl) (av (ai ?_)))
  exact dw (.tmp rfl .nil) (cf rfl) rfl
 exact h1
theorem ep9 {c0 : List (BitVec 32)} {w0 : PV} (a0 : (tSl nq).R c0 w0) : (tFn Tryz.prog am.t tB).R (fun r => cq r.Entry c0) (.fn (.func 29) [] [.fp w0]) :=
 ⟨29, [], _, rfl, rfl, by simp [closedL, closed, TR.clo _ a0], fun a va ra => ⟨_, er2 ra a0, rfl⟩⟩
theorem ep4 {c0 : am → Bool} {c1 : aa} {c2 : Int} {u w1 : PV} (ru : (tFn Tryz.prog am.t tB).R c0 u) (a0 : aa.t.R c1 w1) {x0 c3 : am} {v0 w3 : PV} (r0 : am.t.R x0 v0) (a1 : am.t.R c3 w3) : FnR Tryz.prog 33 [v0, .fp u, .fp w1, .fp (vi c2), .fp w3] (vb (c0 x0 && de c1 c2 x0 c3)) := by
 obtain ⟨r, h1, rfl⟩ : ∃ r, FnR Tryz.prog 33 [v0, .fp u, .fp w1, .fp (vi c2), .fp w3] r ∧ r = vb (c0 x0 && de c1 c2 x0 c3) := by
  refine fnE cb6 (by simp) ?_
  refine ah (af (ab (dz rfl (TR.cnt am.t r0)) (ab (v := vb false) (au rfl) (av (ai ?_)))))
  refine ah (af (ab (bt rfl (TR.cnt _ ru) (TR.agg _ ru)) (lD r0 rfl rfl rfl ?_)))
  obtain ⟨vr, hc, hvr⟩ := as7 (E := (8, v0) :: (7, u) :: _) (f := .tmp 7) (args := [.tmp 8]) (hf := false) (h := ⟨0, []⟩) rfl ru rfl r0
  have hvr : vr = vb (c0 x0) := hvr
  subst hvr
  refine vk hc (ab (au rfl) ?_)
  refine cp 6 (d := 16) (v := vb (c0 x0 && de c1 c2 x0 c3)) ?_ ?_
  ·intro S Q r
   cases c0 x0
   ·exact gN 5 rfl rfl rfl rfl rfl rfl
   ·intro k
    refine ak rfl rfl (bt rfl (TR.cnt _ a0) (TR.agg _ a0)) (ak rfl rfl (bt rfl rfl rfl) (ak rfl rfl (bt rfl (TR.cnt _ r0) (TR.agg _ r0)) (ak rfl rfl (bt rfl (TR.cnt _ a1) (TR.agg _ a1)) ?_)))
    refine mq rfl rfl (vd rfl rfl (aq (TR.clo _ a0) (aq rfl (aq (TR.clo _ r0) (aq (TR.clo _ a1) bh)))) (cf8 (x1 := c2) a0 r0 a1)) ?_
    exact gK rfl rfl rfl rfl rfl k
  refine ab (au rfl) (av (ai ?_))
  exact dw (.tmp rfl .nil) (cf rfl) rfl
 exact h1
theorem eq8 {c0 : am → Bool} {c1 : aa} {c2 : Int} {u w1 : PV} (ru : (tFn Tryz.prog am.t tB).R c0 u) (a0 : aa.t.R c1 w1) {c3 : am} {w3 : PV} (a1 : am.t.R c3 w3) : (tFn Tryz.prog am.t tB).R (fun x => c0 x && de c1 c2 x c3) (.fn (.func 33) [] [.fp u, .fp w1, .fp (vi c2), .fp w3]) :=
 ⟨33, [], _, rfl, rfl, by simp [closedL, closed, TR.clo _ ru, TR.clo _ a0, TR.clo _ a1], fun a va ra => ⟨_, ep4 ru a0 ra a1, rfl⟩⟩
theorem ep1 {c0 : am → Bool} {c1 : aa} {c2 : Int} {u w1 : PV} (ru : (tFn Tryz.prog am.t tB).R c0 u) (a0 : aa.t.R c1 w1) {x0 : am} {l : List am} {v0 vl : PV} (r0 : am.t.R x0 v0) (rl : (tSl am.t).R l vl) : FnR Tryz.prog 32 [v0, .fp u, .fp vl, .fp w1, .fp (vi c2)] (vb (c0 x0 && !(da l (fun x => c0 x && de c1 c2 x x0)).2)) := by
 obtain ⟨r, h1, rfl⟩ : ∃ r, FnR Tryz.prog 32 [v0, .fp u, .fp vl, .fp w1, .fp (vi c2)] r ∧ r = vb (c0 x0 && !(da l (fun x => c0 x && de c1 c2 x x0)).2) := by
  refine fnE by4 (by simp) ?_
  refine ah (af (ab (dz rfl (TR.cnt am.t r0)) (ab (v := vb false) (au rfl) (av (ai ?_)))))
  refine ah (ah (af (ab (bt rfl (TR.cnt _ ru) (TR.agg _ ru)) (lD r0 rfl rfl rfl ?_))))
  obtain ⟨vr, hc, hvr⟩ := as7 (E := (10, v0) :: (9, u) :: _) (f := .tmp 9) (args := [.tmp 10]) (hf := false) (h := ⟨0, []⟩) rfl ru rfl r0
  have hvr : vr = vb (c0 x0) := hvr
  subst hvr
  refine vk hc (ab (jy rfl) (av (ai (bc rfl (fun hn => ?_) fun hn => ?_))))
  ·refine ah (af (ab (v := vb false) (au rfl) (av (ai ?_))))
   have hn : c0 x0 = false := by simpa using hn
   exact dw (.tmp rfl .nil) (cf rfl) (by rw [hn]; rfl)
  ·have hn : c0 x0 = true := by simpa using hn
   obtain ⟨d, f1, s1⟩ := bf9 rl (eq8 (c2 := c2) ru a0 r0)
   refine ay (ai (ah (af ?_)))
   refine ab (bt rfl (TR.cnt _ rl) (TR.agg _ rl)) (ab (v := .fn (.func 33) [] [.fp u, .fp w1, .fp (vi c2), .fp v0]) (yp rfl rfl) ?_)
   refine cL f1 rfl rfl (aq (TR.clo _ rl) (aq (by simp [closedL, closed, TR.clo _ ru, TR.clo _ a0, TR.clo _ r0]) bh)) ?_
   refine ab (au rfl) (ab (fy rfl rfl) (ab (fy rfl rfl) ?_))
   refine dc (x := .agg [vi 0, nilS, vi 0, vi 0, nilS]) (Mem.nil _) rfl rfl (fun i1 a1 h1 M1 => ?_)
   refine db (k := 0) (v := d) M1 rfl rfl rfl (TR.cnt _ s1) (fun h2 M2 => ab (au rfl) (av (ai ?_)))
   refine ah (af (ab (au rfl) (ab (jy rfl) (ab (au rfl) (av (ai ?_))))))
   exact dw (.tmp rfl .nil) (cf rfl) (by rw [hn]; rfl)
 exact h1
theorem en8 {c0 : am → Bool} {c1 : aa} {c2 : Int} {u w1 : PV} (ru : (tFn Tryz.prog am.t tB).R c0 u) (a0 : aa.t.R c1 w1) {l : List am} {vl : PV} (rl : (tSl am.t).R l vl) : (tFn Tryz.prog am.t tB).R (fun r => c0 r && !(da l (fun x => c0 x && de c1 c2 x r)).2) (.fn (.func 32) [] [.fp u, .fp vl, .fp w1, .fp (vi c2)]) :=
 ⟨32, [], _, rfl, rfl, by simp [closedL, closed, TR.clo _ ru, TR.clo _ a0, TR.clo _ rl], fun a va ra => ⟨_, ep1 ru a0 ra rl, rfl⟩⟩
theorem dc0 {l : List am} {p : am → Bool} (H : ∀ r ∈ l, SR r) : SR (da l p).1 := by
 have z : SR ({ ID := 0, Entry := ({ Keys := ([] : List ba), Priority := 0, Call := ({ Action := 0, Args := ([] : List (BitVec 32)) } : bb) } : aw) } : am) := ⟨by simp, by simp⟩
 have key : ∀ (m : Nat) (i : Int) (z0 : am) (K0 : am → am × Bool), (∀ y, SR (K0 y).1) → m = Int.toNat ((l.length : Int) - i) → 0 ≤ i → SR (fm l p K0 m i z0).1 := by
  intro m
  induction m with
  | zero => intro i z0 K0 hK hm h0; exact hK _
  | succ m ih =>
   intro i z0 K0 hK hm h0
   rw [fm]
   split
   ·show SR (ix l i)
    rw [qv h0 (by omega)]
    exact H _ (List.getElem_mem _)
   ·exact ih _ _ _ hK (by omega) (by omega)
 exact key _ 0 _ _ (fun _ => z) rfl (by omega)
theorem dk1 {x0 : aa} {x1 : Int} {x2 : List am} {x3 : List (BitVec 32)} {v0 v2 v3 : PV} (r0 : aa.t.R x0 v0) (r2 : (tSl am.t).R x2 v2) (r3 : (tSl nq).R x3 v3) (hb : ∀ r ∈ x2, SR r) : ∃ c0, FnR Tryz.prog 12 [v0, vi x1, v2, v3] (.tup [c0, vb (ga x0 x1 x2 x3).2]) ∧ am.t.R (ga x0 x1 x2 x3).1 c0 := by
 obtain ⟨r, h1, c0, rfl, hr⟩ : ∃ r, FnR Tryz.prog 12 [v0, vi x1, v2, v3] r ∧ ∃ c0, r = .tup [c0, vb (ga x0 x1 x2 x3).2] ∧ am.t.R (ga x0 x1 x2 x3).1 c0 := by
  refine fnE co1 (by simp) ?_
  refine ah (af (ab (dz rfl (TR.cnt aa.t r0)) (ab (dz rfl rfl) (ab (dz rfl (TR.cnt _ r2)) (ab (dz rfl (TR.cnt _ r3)) ?_)))))
  refine dc (x := .agg [vi 0, nilS, vi 0, vi 0, nilS]) (Mem.nil _) rfl rfl (fun i8 w8 h8 M8 => ab (v := vb false) (au rfl) (av (ai ?_)))
  refine ah (ah (af (ab (bt rfl rfl rfl) (ab (v := vb (decide (x1 < 0))) (az rfl rfl cy) (ab (au rfl) ?_)))))
  refine cp 6 (d := 21) (v := vb (decide (x1 < 0) || decide ((x0.Tables.length : Int) ≤ x1))) ?_ ?_
  ·intro S Q r
   cases decide (x1 < 0)
   ·intro k
    obtain ⟨wt, gt, rt⟩ := aa.g_Tables r0
    refine ak rfl rfl (bt rfl rfl rfl) (ak rfl rfl (ck rfl gt) (ak rfl rfl (bt rfl (TR.cnt _ rt) (TR.agg _ rt)) (ak rfl rfl (cw rfl (cg rt Tryz.underlying26 _)) (ak rfl rfl (az rfl rfl sw) ?_))))
    exact gK rfl rfl rfl rfl rfl k
   ·exact gN 5 rfl rfl rfl rfl rfl rfl
  refine av (ai (bc rfl (fun hc => ?_) fun hc => ?_))
  ·have hs : ga x0 x1 x2 x3 = (({ ID := 0, Entry := ({ Keys := ([] : List ba), Priority := 0, Call := ({ Action := 0, Args := ([] : List (BitVec 32)) } : bb) } : aw) } : am), false) := by unfold ga; rw [if_pos hc]
   rw [hs]
   refine ah (af (ab (v := .agg [vi 0, nilS, vi 0, vi 0, nilS]) (ni (cs := [vi 0, nilS, vi 0, vi 0, nilS]) rfl rfl) ?_))
   refine db (k := 0) (v := .agg [vi 0, nilS, vi 0, vi 0, nilS]) M8 rfl rfl rfl rfl (fun h9 M9 => ab (v := vb false) (au rfl) (av (ai ?_)))
   exact dw (.cell rfl (ji (k := 0) M9 rfl rfl) (.tmp rfl .nil)) (cf rfl) ⟨_, rfl, nilS, nilS, rfl, ii, ii⟩
  ·have hs : ga x0 x1 x2 x3 = da x2 (fun r => cq r.Entry x3 && !(da x2 (fun x => cq x.Entry x3 && de x0 x1 x r)).2) := by unfold ga; rw [if_neg (by rw [hc]; simp)]
   rw [hs]
   have ru := ep9 r3
   have hcl := TR.clo _ ru
   obtain ⟨d, f1, s1⟩ := bf9 r2 (en8 (c2 := x1) ru r0 r2)
   refine ay (ai (ah (af (ab (v := .fn (.func 29) [] [.fp v3]) (yp rfl rfl) ?_))))
   refine dc (x := .sc .nilFunc) M8 rfl rfl (fun i9 w9 h9 M9 => ?_)
   refine db (k := 0) (v := .fn (.func 29) [] [.fp v3]) M9 rfl rfl rfl rfl (fun a6 a5 => av (ai ?_))
   refine ah (oc ?_)
   refine am6 (k := 0) (E' := [(10, .fp (.fn (.func 29) [] [.fp v3])), (9, vb false), (8, .op i8 w8 0), (6, .fp v2), (5, .fp (vi x1)), (4, .fp v0)]) a5 rfl (ug rfl (fw rfl (fw rfl (fw rfl (fw rfl (fw rfl xa)))))) (fun a2 a0 => ?_)
   replace a0 : Mem a2 [⟨.op i8 w8 0, 44, 5, [.agg [vi 0, nilS, vi 0, vi 0, nilS]]⟩] := a0
   refine dq (ab (bt rfl (TR.cnt _ r2) (TR.agg _ r2)) (dp (dq (ab (v := .fn (.func 32) [] [.fp (.fn (.func 29) [] [.fp v3]), .fp v2, .fp v0, .fp (vi x1)]) (yp rfl rfl) (dp ?_)))))
   refine dq (cL f1 rfl rfl (aq (TR.clo _ r2) (aq (by simp [closedL, closed, TR.clo _ r0, TR.clo _ r2, TR.clo _ r3]) bh)) (dp ?_))
   refine dq (ab (au rfl) (dp (dq (ab (fy rfl rfl) (dp (dq (ab (fy rfl rfl) (dp ?_))))))))
   refine dq (dc (x := .agg [vi 0, nilS, vi 0, vi 0, nilS]) a0 rfl rfl (fun a7 b0 b1 a3 => dp ?_))
   refine dq (db (k := 0) (v := d) a3 rfl rfl rfl (TR.cnt _ s1) (fun a9 a1 => dp (dq (ab (au rfl) (dp (vt (ai ?_)))))))
   obtain ⟨d2, f2, s2⟩ := co5 s1 (dc0 hb)
   refine ah (af (ab (gi (k := 0) a1 rfl rfl (TR.agg _ s1)) ?_))
   refine cL f2 rfl rfl (aq (TR.clo _ s1) bh) (ab (au rfl) ?_)
   refine db (k := 1) (v := d2) a1 rfl rfl rfl (TR.cnt _ s2) (fun a8 a4 => ab (au rfl) (av (ai ?_)))
   exact dw (.cell rfl (ji (k := 1) a4 rfl (TR.agg _ s2)) (.tmp rfl .nil)) (cf (show closed (.tup _) = true from aq (TR.clo _ s2) (aq rfl bh))) ⟨_, rfl, s2⟩
 exact ⟨c0, h1, hr⟩

def RF23 (res : Bool) (r : PV) : Prop := r = vb res
theorem ad1 {S : List Fr} {res : Bool} {x0 : List Int} {x1 : Int} {v0 : PV} (r0 : (tSl tI).R x0 v0) {K0 : Unit → Bool}
  (a3 : K0 () = res → PX Tryz.prog 0 S (QR Tryz.prog [(4, none)] (RF23 res)) [] ⟨0, []⟩) :
  ∀ {m : Nat} {a0 : Int} (a2 : m = Int.toNat ((x0.length : Int) - a0)) (a1 : 0 ≤ a0), ld x0 x1 K0 m a0 = res → RC Tryz.prog (.loop db1) S (QR Tryz.prog [(4, none)] (RF23 res)) [(5, vi a0), (1, vi x1), (0, v0)] ⟨0, []⟩ := by
 intro m
 induction m with
 | zero =>
  intro a0 a2 a1 hres
  rw [ld] at hres
  refine bw (ah (sR (mV rfl (mV rfl (ab (cw rfl (cg r0 Tryz.underlying29 _)) (bN cy rfl rfl (nS ?_)))))))
  refine bc rfl ?_ ?_ <;> intro c <;> try simp only [qa] at c
  ·omega
  refine dt (fj (df ?_))
  exact wP (a3  hres) rfl
 | succ m ih =>
  intro a0 a2 a1 hres
  rw [ld] at hres
  refine bw (ah (sR (mV rfl (mV rfl (ab (cw rfl (cg r0 Tryz.underlying29 _)) (bN cy rfl rfl (nS ?_)))))))
  refine bc rfl ?_ ?_ <;> intro c <;> try simp only [qa] at c
  rotate_left
  ·omega
  refine ay (ai (ah (bf (sR (mV rfl (mV rfl (ab (bp rfl rfl (slI r0 (by first | omega | (have hk := bn (by assumption) (by assumption); omega) | (have hk := tck (by assumption) (by assumption); omega) | (have hk := rtck (by assumption) (by assumption); omega) | (have hk := eck (by assumption) (by assumption) (by assumption); omega) | (have hk := tv (by assumption) (by assumption); omega) | (have hk := rtv (by assumption) (by assumption); omega)) (by first | omega | (have hk := bn (by assumption) (by assumption); omega) | (have hk := tck (by assumption) (by assumption); omega) | (have hk := rtck (by assumption) (by assumption); omega) | (have hk := eck (by assumption) (by assumption) (by assumption); omega) | (have hk := tv (by assumption) (by assumption); omega) | (have hk := rtv (by assumption) (by assumption); omega)))) (lR rfl rfl rfl ?_))))))))
  refine mV rfl (bN nd rfl rfl (nS ?_))
  refine dg hres rfl ?_ ?_ <;> clear hres <;> intro c hres <;> try simp only [qa] at c
  ·refine sR (mB rfl (nS ?_))
   exact rR hres rfl rfl rfl
  ·refine ay (dh (ai (af (mV rfl (bN fa rfl rfl (mV rfl (av (cx ?_))))))))
   have hbd := ee r0
   have hinc : wr (a0 + 1) = a0 + 1 := dm (by omega) (by omega)
   erw [hinc]
   exact wC (ih   (by omega) (by omega) hres) rfl

theorem bx7 {x0 : List Int} {x1 : Int} {v0 : PV} (r0 : (tSl tI).R x0 v0) : FnR Tryz.prog 23 [v0, vi x1] (vb (nr x0 x1)) := by
 refine fnS (R := RF23) dw4 (fun _ h => h) rfl fun res hres => ?_
 unfold nr at hres
 refine sR (mB rfl (nS (ah (sR (mI rfl (nS (bf ?_)))))))
 refine wC (ad1 r0 ?_  rfl (by omega) hres) rfl
 ·intro  hres
  refine ft (ai (sR (mB rfl (nS ?_))))
  exact rR hres rfl rfl rfl

def RF8 (res : Bool) (r : PV) : Prop := r = vb res
theorem ul {S : List Fr} {res : Bool} {x0 : bm} {d1 : Bool} {a0 : (List Int)} {a9 : Int} {e4 : (List Int) × Int} {v0 c6 c8 : PV} (r0 : bm.t.R x0 v0) (f8 : gc x0 = d1) (e5 : (d1 || (decide (10 < (x0.Rows.length : Int)))) = false) (f6 : br x0.Program x0.Table = a0) (c7 : (tSl tI).R a0 c6) (f9 : fx x0.Program x0.Table = a9) (f7 : dn x0.Program x0.Table x0.Rows = e4) (d2 : ((((!decide (e4.2 = 0)) || (decide ((a0.length : Int) = 0))) || (decide (2 < (a0.length : Int)))) || (decide (8 < a9))) = false) {K0 : (List Int) → Bool}
  (g6 : ∀ {a3 : List Int} {a1 : List PV} {a2 : PV} (a7 : All2 tI.R a3 a1) (a8 : isL a2 = true) (a4 : Wri a2 a1) (a6 : a3.length ≤ 4611686018427387904) {h : Heap} (M0 : Mem h [⟨a2, 3, 1, a1⟩]), K0 a3 = res → PX Tryz.prog 0 S (QR Tryz.prog [(2, none)] (RF8 res)) [(1, .fp v0), (5, c8), (7, a2)] h) :
  ∀ {m : Nat} {a5 : Int} {a3 : List Int} {a1 : List PV} {a2 : PV} (a7 : All2 tI.R a3 a1) (a8 : isL a2 = true) (a4 : Wri a2 a1) (a6 : a3.length ≤ 4611686018427387904) (g0 : m = Int.toNat ((shlI 1 a9) - a5)) (e1 : 0 ≤ a5) (c0 : (a3.length : Int) ≤ a5) (b8 : 0 ≤ a9) (c1 : shlI 1 a9 ≤ 256) (c3 : ∀ j : Int, 0 ≤ j → j < a0.length → 1 ≤ ix a0 j ∧ ix a0 j ≤ 32) {h : Heap} (M0 : Mem h [⟨a2, 3, 1, a1⟩]), dv x0 a0 K0 m a5 a3 = res → RC Tryz.prog (.loop dl4) S (QR Tryz.prog [(2, none)] (RF8 res)) [(8, vi a5), (7, a2), (5, c8), (4, vi a9), (3, c6), (1, .fp v0)] h := by
 have c9 := e5
 try simp only [qa] at c9
 have c4 := d2
 try simp only [qa] at c4
 intro m
 induction m with
 | zero =>
  intro a5 a3 a1 a2 a7 a8 a4 a6 g0 e1 c0 b8 c1 c3 h M0 hres
  rw [dv] at hres
  refine bw (ah (sR (mV rfl (mV rfl (ab (az (a := vi 1) (b := vi a9) rfl rfl (bv7 (by first | omega | (have hq := ‹∀ j : Int, 0 ≤ j → j < a0.length → 1 ≤ ix a0 j ∧ ix a0 j ≤ 32› 1 (by omega) (by omega); omega)))) (bN cy rfl rfl (nS ?_)))))))
  refine bc rfl ?_ ?_ <;> intro c <;> try simp only [qa] at c
  ·omega
  refine dt (fj (df ?_))
  exact wP (g6 a7 a8 a4 a6 (Mem.sub M0 (.cons_cons _ .slnil)) hres) rfl
 | succ m ih =>
  intro a5 a3 a1 a2 a7 a8 a4 a6 g0 e1 c0 b8 c1 c3 h M0 hres
  rw [dv] at hres
  refine bw (ah (sR (mV rfl (mV rfl (ab (az (a := vi 1) (b := vi a9) rfl rfl (bv7 (by first | omega | (have hq := ‹∀ j : Int, 0 ≤ j → j < a0.length → 1 ≤ ix a0 j ∧ ix a0 j ≤ 32› 1 (by omega) (by omega); omega)))) (bN cy rfl rfl (nS ?_)))))))
  refine bc rfl ?_ ?_ <;> intro c <;> try simp only [qa] at c
  rotate_left
  ·omega
  refine ay (ai (ah (bf (sR (mV rfl (ab (tf (a := vi a5) rfl (c_iw Tryz.underlying3 Tryz.underlying64)) (ab (v := .fs true [fb (BitVec.ofInt 32 a5)]) (ir rfl (all_cons rfl lf)) ?_)))))))
  have f4 : (tSl nq).R ([(BitVec.ofInt 32 a5)] : List (BitVec 32)) (.fs true [fb (BitVec.ofInt 32 a5)]) := sm ⟨rfl, trivial⟩ (by simp)
  refine mV rfl (nS (ah (sR (mV rfl (ab (cw rfl (cg c7 Tryz.underlying29 _)) (bN nd rfl rfl (nS ?_)))))))
  obtain ⟨f1, d8, hres⟩ := dl hres
  refine vc (F := fun b S Q => ∀ (b1 : List (BitVec 32)) (b2 : PV) (b0 : (tSl nq).R b1 b2) (b3 : Heap) (b9 : Mem b3 [⟨a2, 3, 1, a1⟩]), f1 b1 = res → RC Tryz.prog b S Q [(9, b2), (8, vi a5), (7, a2), (5, c8), (4, vi a9), (3, c6), (1, .fp v0)] b3) ?_ ?_
  ·intro b1 b2 b0 b3 b9 hres
   rw [← d8] at hres
   refine sR (gL (bm.g_Program r0) rfl rfl rfl fun g1 d3 => (fL rfl (bm.g_Table r0) rfl rfl (gL (bm.g_Rows r0) rfl rfl rfl fun g3 e6 => (mV rfl ?_))))
   obtain ⟨b6, e3, hres⟩ := dl hres
   obtain ⟨d6, d4, c5⟩ := dk1 (x1 := x0.Table) d3 e6 b0 (by first | exact tl2 (by assumption) (by assumption) | assumption)
   rw [e3] at d4 c5
   refine cL d4 rfl rfl (aq (TR.clo aa.t d3) (aq rfl (aq (TR.clo (tSl am.t) e6) (aq (TR.clo (tSl nq) b0) bh)))) (mV rfl (xT rfl rfl (xT rfl rfl ?_)))
   refine dc (x := .agg [vi 0, nilS, vi 0, vi 0, nilS]) b9 rfl rfl (fun e7 f3 g2 e8 => ?_)
   refine db (k := 0) (v := d6) e8 rfl rfl rfl (TR.cnt am.t c5) (fun d0 b5 => ?_)
   replace b5 : Mem d0 [⟨.op e7 f3 0, 44, 5, [d6]⟩, ⟨a2, 3, 1, a1⟩] := b5
   refine mV rfl (nR (mV rfl (nS ?_)))
   refine dg hres rfl ?_ ?_ <;> clear hres <;> intro c hres <;> try simp only [qa] at c
   ·refine af (mV rfl (ab (bd rfl) (ab (co (k := 0) b5 rfl rfl (am.g_ID c5)) (ab (v := .fs true [vi b6.1.ID]) (ir rfl (all_cons rfl lf)) ?_))))
    have f5 : (tSl tI).R ([b6.1.ID] : List Int) (.fs true [vi b6.1.ID]) := sm ⟨rfl, trivial⟩ (by simp)
    obtain ⟨b4, d5, b7⟩ := vm (t := tI) (h := d0) f5
    have e2 : fits (a1.length + b4.length) 8 = true := by rw [All2.length_eq a7, All2.length_eq b7]; (try simp only [List.length_cons, List.length_nil]); exact pe (by omega) (by omega)
    refine pz (k := 1) (es := a1) (news := b4) b5 rfl rfl rfl a8 a4 d5 e2 (fun g4 g5 f2 d9 f0 => ?_)
    have e0 : All2 tI.R (a3 ++ ([b6.1.ID] : List Int)) (a1 ++ b4) := All2.app a7 b7
    have d7 : (a3 ++ ([b6.1.ID] : List Int)).length ≤ 4611686018427387904 := by rw [← All2.length_eq e0, List.length_append]; exact vz e2
    refine mV rfl (av (dh (ai (af (mV rfl (bN fa rfl rfl (mV rfl (av ?_))))))))
    refine cx ?_
    have hinc : wr (a5 + 1) = a5 + 1 := dm (by omega) (by omega)
    erw [hinc]
    exact wC (ih  e0 f2 d9 d7 (by omega) (by omega) (by first | assumption | omega | exact (lcC (by assumption) (by assumption) (by assumption) (by assumption)).1.1 | exact (lcC (by assumption) (by assumption) (by assumption) (by assumption)).1.2.2 | exact (lcC (by assumption) (by assumption) (by assumption) (by assumption)).2.2 | (simp only [List.length_append, List.length_cons, List.length_nil]; omega)) (by first | assumption | omega | exact (lcC (by assumption) (by assumption) (by assumption) (by assumption)).1.1 | exact (lcC (by assumption) (by assumption) (by assumption) (by assumption)).1.2.2 | exact (lcC (by assumption) (by assumption) (by assumption) (by assumption)).2.2 | (simp only [List.length_append, List.length_cons, List.length_nil]; omega)) (by first | assumption | omega | exact (lcC (by assumption) (by assumption) (by assumption) (by assumption)).1.1 | exact (lcC (by assumption) (by assumption) (by assumption) (by assumption)).1.2.2 | exact (lcC (by assumption) (by assumption) (by assumption) (by assumption)).2.2 | (simp only [List.length_append, List.length_cons, List.length_nil]; omega)) (by first | assumption | omega | exact (lcC (by assumption) (by assumption) (by assumption) (by assumption)).1.1 | exact (lcC (by assumption) (by assumption) (by assumption) (by assumption)).1.2.2 | exact (lcC (by assumption) (by assumption) (by assumption) (by assumption)).2.2 | (simp only [List.length_append, List.length_cons, List.length_nil]; omega)) (Mem.sub f0 (.cons _ (.cons_cons _ .slnil))) hres) rfl
   ·refine ay (dh (ai (af (mV rfl (bN fa rfl rfl (mV rfl (av (cx ?_))))))))
    have hinc : wr (a5 + 1) = a5 + 1 := dm (by omega) (by omega)
    erw [hinc]
    exact wC (ih  a7 a8 a4 a6 (by omega) (by omega) (by first | assumption | omega | exact (lcC (by assumption) (by assumption) (by assumption) (by assumption)).1.1 | exact (lcC (by assumption) (by assumption) (by assumption) (by assumption)).1.2.2 | exact (lcC (by assumption) (by assumption) (by assumption) (by assumption)).2.2 | (simp only [List.length_append, List.length_cons, List.length_nil]; omega)) (by first | assumption | omega | exact (lcC (by assumption) (by assumption) (by assumption) (by assumption)).1.1 | exact (lcC (by assumption) (by assumption) (by assumption) (by assumption)).1.2.2 | exact (lcC (by assumption) (by assumption) (by assumption) (by assumption)).2.2 | (simp only [List.length_append, List.length_cons, List.length_nil]; omega)) (by first | assumption | omega | exact (lcC (by assumption) (by assumption) (by assumption) (by assumption)).1.1 | exact (lcC (by assumption) (by assumption) (by assumption) (by assumption)).1.2.2 | exact (lcC (by assumption) (by assumption) (by assumption) (by assumption)).2.2 | (simp only [List.length_append, List.length_cons, List.length_nil]; omega)) (by first | assumption | omega | exact (lcC (by assumption) (by assumption) (by assumption) (by assumption)).1.1 | exact (lcC (by assumption) (by assumption) (by assumption) (by assumption)).1.2.2 | exact (lcC (by assumption) (by assumption) (by assumption) (by assumption)).2.2 | (simp only [List.length_append, List.length_cons, List.length_nil]; omega)) (Mem.sub b5 (.cons _ (.cons_cons _ .slnil))) hres) rfl
  ·intro J
   refine dg hres rfl ?_ ?_ <;> clear hres <;> intro c hres <;> try simp only [qa] at c
   ·refine af (mV rfl (mV rfl (ab (bp rfl rfl (slI (i := 1) c7 (by first | omega | omega) (by first | omega | omega))) (lR rfl rfl rfl (ab (az (a := vi a5) (b := vi (ix a0 1)) rfl rfl (ee0 (by first | omega | (have hq := ‹∀ j : Int, 0 ≤ j → j < a0.length → 1 ≤ ix a0 j ∧ ix a0 j ≤ 32› 1 (by omega) (by omega); omega)))) (ab (tf (a := vi (shrI a5 (ix a0 1))) rfl (c_iw Tryz.underlying3 Tryz.underlying64)) (mV rfl (mV rfl ?_))))))))
    refine ab (bp rfl rfl (slI (i := 1) c7 (by first | omega | omega) (by first | omega | omega))) (lR rfl rfl rfl (ab (az (a := vi 1) (b := vi (ix a0 1)) rfl rfl (bv7 (by first | omega | (have hq := ‹∀ j : Int, 0 ≤ j → j < a0.length → 1 ≤ ix a0 j ∧ ix a0 j ≤ 32› 1 (by omega) (by omega); omega)))) (bN (eb0 (by (have hq := ‹∀ j : Int, 0 ≤ j → j < a0.length → 1 ≤ ix a0 j ∧ ix a0 j ≤ 32› 1 (by omega) (by omega); exact do1 hq))) rfl rfl (ab (tf (a := vi (Int.tmod a5 (shlI 1 (ix a0 1)))) rfl (c_iw Tryz.underlying3 Tryz.underlying64)) (ab (v := .fs true [fb (BitVec.ofInt 32 (shrI a5 (ix a0 1))), fb (BitVec.ofInt 32 (Int.tmod a5 (shlI 1 (ix a0 1))))]) (ir rfl (all_cons rfl (all_cons rfl lf))) ?_)))))
    have e9 : (tSl nq).R ([(BitVec.ofInt 32 (shrI a5 (ix a0 1))), (BitVec.ofInt 32 (Int.tmod a5 (shlI 1 (ix a0 1))))] : List (BitVec 32)) (.fs true [fb (BitVec.ofInt 32 (shrI a5 (ix a0 1))), fb (BitVec.ofInt 32 (Int.tmod a5 (shlI 1 (ix a0 1))))]) := sm ⟨rfl, ⟨rfl, trivial⟩⟩ (by simp)
    refine mV rfl (av ?_)
    refine ai (wC (J _ _ e9 _ (Mem.sub M0 (.cons_cons _ .slnil)) hres) rfl)
   ·refine ay ?_
    refine ai (wC (J _ _ f4 _ (Mem.sub M0 (.cons_cons _ .slnil)) hres) rfl)

theorem uj {S : List Fr} {res : Bool} {x0 : bm} {b3 : Bool} {b0 : (List Int)} {c0 : Int} {a7 : (List Int) × Int} {a2 : List Int} {v0 c3 : PV} {a1 : List PV} {a0 : PV} (r0 : bm.t.R x0 v0) (d5 : gc x0 = b3) (c4 : (b3 || (decide (10 < (x0.Rows.length : Int)))) = false) (d4 : br x0.Program x0.Table = b0) (d8 : fx x0.Program x0.Table = c0) (d6 : dn x0.Program x0.Table x0.Rows = a7) (b6 : (tSl tI).R a7.1 c3) (b5 : ((((!decide (a7.2 = 0)) || (decide ((b0.length : Int) = 0))) || (decide (2 < (b0.length : Int)))) || (decide (8 < c0))) = false) (a6 : All2 tI.R a2 a1) (a5 : isL a0 = true) (b1 : Wri a0 a1) (a4 : a2.length ≤ 4611686018427387904) {K2 : Unit → Bool}
  (e2 : ∀ {h : Heap} (M0 : Mem h [⟨a0, 3, 1, a1⟩]), K2 () = res → PX Tryz.prog 2 S (QR Tryz.prog [(2, none)] (RF8 res)) [] h) :
  ∀ {m : Nat} {a3 : Int} (d7 : m = Int.toNat ((x0.Rows.length : Int) - a3)) (b4 : 0 ≤ a3) {h : Heap} (M0 : Mem h [⟨a0, 3, 1, a1⟩]), gh x0 a7 a2 K2 m a3 = res → RC Tryz.prog (.loop dk2) S (QR Tryz.prog [(2, none)] (RF8 res)) [(12, vi a3), (7, a0), (5, c3), (1, .fp v0)] h := by
 have a9 := c4
 try simp only [qa] at a9
 have a8 := b5
 try simp only [qa] at a8
 intro m
 induction m with
 | zero =>
  intro a3 d7 b4 h M0 hres
  rw [gh] at hres
  refine bw (ah (sR (mV rfl (gL (bm.g_Rows r0) rfl rfl rfl fun e3 c9 => (ab (cw rfl (cg c9 Tryz.underlying32 _)) (bN cy rfl rfl (nS ?_)))))))
  refine bc rfl ?_ ?_ <;> intro c <;> try simp only [qa] at c
  ·omega
  refine dt (fj (df ?_))
  exact wP (e2 (Mem.sub M0 (.cons_cons _ .slnil)) hres) rfl
 | succ m ih =>
  intro a3 d7 b4 h M0 hres
  rw [gh] at hres
  refine bw (ah (sR (mV rfl (gL (bm.g_Rows r0) rfl rfl rfl fun d9 b8 => (ab (cw rfl (cg b8 Tryz.underlying32 _)) (bN cy rfl rfl (nS ?_)))))))
  refine bc rfl ?_ ?_ <;> intro c <;> try simp only [qa] at c
  rotate_left
  ·omega
  refine ay (ai (ah (bf (sR (mV rfl (gL (bm.g_Rows r0) rfl rfl rfl fun e0 c8 => (mV rfl ?_)))))))
  obtain ⟨e1, d1, d0⟩ := dk (i := a3) c8 (by first | omega | omega) (by first | omega | omega)
  refine ab (bp rfl rfl d1) (fL rfl (am.g_ID d0) rfl rfl ?_)
  obtain ⟨e7, d3, d2⟩ := xk (P := Tryz.prog) (k := 0) (t := tI) M0 rfl a5 a6 (Nat.le_trans a4 (by decide))
  obtain ⟨e5, b9, hres⟩ := dl hres
  have b7 := bx7 (x1 := (ix x0.Rows a3).ID) d2 
  rw [b9] at b7
  refine vk (ah6 rfl rfl (td d3 (td (cf rfl) av8)) b7 rfl) (mV rfl (gL (bm.g_Rows r0) rfl rfl rfl fun e8 c5 => (mV rfl ?_)))
  obtain ⟨e4, c7, c6⟩ := dk (i := a3) c5 (by first | omega | omega) (by first | omega | omega)
  refine ab (bp rfl rfl c7) (fL rfl (am.g_ID c6) rfl rfl ?_)
  obtain ⟨e6, c1, hres⟩ := dl hres
  have b2 := bx7 (x1 := (ix x0.Rows a3).ID) b6 
  rw [c1] at b2
  refine cL b2 rfl rfl (aq (TR.clo (tSl tI) b6) (aq rfl bh)) (bN (az2 (by rw [Tryz.underlying4]; rfl)) rfl rfl (nS ?_))
  refine dg hres rfl ?_ ?_ <;> clear hres <;> intro c hres <;> try simp only [qa] at c
  ·refine sR (mB rfl (nS ?_))
   exact rR hres rfl rfl rfl
  ·refine ay (dh (ai (af (mV rfl (bN fa rfl rfl (mV rfl (av (cx ?_))))))))
   have hbd := ee b8
   have hinc : wr (a3 + 1) = a3 + 1 := dm (by omega) (by omega)
   erw [hinc]
   exact wC (ih   (by omega) (by omega) (Mem.sub M0 (.cons_cons _ .slnil)) hres) rfl

theorem eh7 {x0 : bm} {v0 : PV} (r0 : bm.t.R x0 v0) : FnR Tryz.prog 8 [v0] (vb (kw x0)) := by
 refine fnS (R := RF8) ed4 (fun _ h => h) rfl fun res hres => ?_
 unfold kw at hres
 refine sR (ab (dz rfl (TR.cnt bm.t r0)) (mB rfl (nS (ah (sR (lD r0 rfl rfl rfl ?_))))))
 obtain ⟨c5, a5, hres⟩ := dl hres
 have d8 := dt4  r0 
 rw [a5] at d8
 refine cL d8 rfl rfl (aq (TR.clo bm.t r0) bh) (mV rfl ?_)
 refine cp 5 (d := 20) (v := vb (c5 || (decide (10 < (x0.Rows.length : Int))))) ?_ ?_
 ·intro S Q r
  cases c7 : c5
  ·intro k
   have b4 := c7
   try simp only [qa] at b4
   obtain ⟨f1, e4, b9⟩ := bm.g_Rows r0
   refine ak rfl rfl (ck rfl e4) (ak rfl rfl (bt rfl (TR.cnt (tSl am.t) b9) (TR.agg (tSl am.t) b9)) (ak rfl rfl (cw rfl (cg b9 Tryz.underlying32 _)) (ak rfl rfl (az rfl rfl ig) ?_)))
   exact gK rfl rfl rfl rfl rfl k
  ·exact gN 4 rfl rfl rfl rfl rfl rfl
 refine nS ?_
 refine dg hres rfl ?_ ?_ <;> clear hres <;> intro a9 hres <;> have b5 := a9 <;> try simp only [qa] at b5
 ·refine sR ?_
  obtain ⟨g0, c6, hres⟩ := dl hres
  have c3 := bd9   
  rw [c6] at c3
  refine cL c3 rfl rfl bh (mV rfl (nS ?_))
  exact rR hres rfl rfl rfl
 ·refine ay (ai (sR (gL (bm.g_Program r0) rfl rfl rfl fun f4 d9 => (fL rfl (bm.g_Table r0) rfl rfl ?_))))
  obtain ⟨a0, a4, hres⟩ := dl hres
  obtain ⟨e8, e3, b2⟩ := ck8 (x1 := x0.Table) d9 
  rw [a4] at b2
  refine cL e3 rfl rfl (aq (TR.clo aa.t d9) (aq rfl bh)) (mV rfl (nR (gL (bm.g_Program r0) rfl rfl rfl fun f8 d2 => (fL rfl (bm.g_Table r0) rfl rfl ?_))))
  obtain ⟨e6, a8, hres⟩ := dl hres
  have d4 := dp9 (x1 := x0.Table) d2 
  rw [a8] at d4
  refine cL d4 rfl rfl (aq (TR.clo aa.t d2) (aq rfl bh)) (mV rfl (nR (gL (bm.g_Program r0) rfl rfl rfl fun f2 c9 => (fL rfl (bm.g_Table r0) rfl rfl (gL (bm.g_Rows r0) rfl rfl rfl fun e9 e2 => ?_)))))
  obtain ⟨a3, a7, hres⟩ := dl hres
  obtain ⟨f7, d7, c8⟩ := dp2 (x1 := x0.Table) c9 e2 (by first | exact tl2 (by assumption) (by assumption) | exact (bt7 (by assumption) (by assumption)).1 | exact (bt7 (by assumption) (by assumption)).2.1) (by first | exact tl2 (by assumption) (by assumption) | exact (bt7 (by assumption) (by assumption)).1 | exact (bt7 (by assumption) (by assumption)).2.1) (by first | exact tl2 (by assumption) (by assumption) | exact (bt7 (by assumption) (by assumption)).1 | exact (bt7 (by assumption) (by assumption)).2.1)
  rw [a7] at d7 c8
  refine cL d7 rfl rfl (aq (TR.clo aa.t c9) (aq rfl (aq (TR.clo (tSl am.t) e2) bh))) (mV rfl (xT rfl rfl (xT rfl rfl (mV rfl (mV rfl (nS (ah (sR ?_))))))))
  refine mV rfl (bN nf rfl rfl (mV rfl ?_))
  refine cp 4 (d := 48) (v := vb ((!decide (a3.2 = 0)) || (decide ((a0.length : Int) = 0)))) ?_ ?_
  ·intro S Q r
   cases d5 : (!decide (a3.2 = 0))
   ·intro k
    have b7 := d5
    try simp only [qa] at b7
    refine ak rfl rfl (au rfl) (ak rfl rfl (cw rfl (cg b2 Tryz.underlying29 _)) (ak rfl rfl (az rfl rfl nd) ?_))
    exact gK rfl rfl rfl rfl rfl k
   ·exact gN 3 rfl rfl rfl rfl rfl rfl
  refine mV rfl ?_
  refine cp 4 (d := 53) (v := vb (((!decide (a3.2 = 0)) || (decide ((a0.length : Int) = 0))) || (decide (2 < (a0.length : Int))))) ?_ ?_
  ·intro S Q r
   cases d6 : ((!decide (a3.2 = 0)) || (decide ((a0.length : Int) = 0)))
   ·intro k
    have b6 := d6
    try simp only [qa] at b6
    refine ak rfl rfl (au rfl) (ak rfl rfl (cw rfl (cg b2 Tryz.underlying29 _)) (ak rfl rfl (az rfl rfl ig) ?_))
    exact gK rfl rfl rfl rfl rfl k
   ·exact gN 3 rfl rfl rfl rfl rfl rfl
  refine mV rfl ?_
  refine cp 3 (d := 57) (v := vb ((((!decide (a3.2 = 0)) || (decide ((a0.length : Int) = 0))) || (decide (2 < (a0.length : Int)))) || (decide (8 < e6)))) ?_ ?_
  ·intro S Q r
   cases e0 : (((!decide (a3.2 = 0)) || (decide ((a0.length : Int) = 0))) || (decide (2 < (a0.length : Int))))
   ·intro k
    have b8 := e0
    try simp only [qa] at b8
    refine ak rfl rfl (au rfl) (ak rfl rfl (az rfl rfl ig) ?_)
    exact gK rfl rfl rfl rfl rfl k
   ·exact gN 2 rfl rfl rfl rfl rfl rfl
  refine nS ?_
  refine dg hres rfl ?_ ?_ <;> clear hres <;> intro a6 hres <;> have b3 := a6 <;> try simp only [qa] at b3
  ·refine sR ?_
   obtain ⟨f5, e1, hres⟩ := dl hres
   have c4 := bd9   
   rw [e1] at c4
   refine cL c4 rfl rfl bh (mV rfl (nS ?_))
   exact rR hres rfl rfl rfl
  ·refine ay (ai (sR (ab (v := nilS) (au rfl) (nS (ah (sR (mI rfl (nS ?_))))))))
   refine bf ?_
   have e7 := qc (sz := 1) (es := []) (Mem.nil ⟨0, []⟩) 3 (.inl ⟨none, rfl, rfl⟩) (by simp)
   refine wC (ul r0 a5 a9 a4 b2 a8 a7 a6 ?_  aL rfl (.inl rfl) (by first | decide | simp) rfl (by omega) (by first | omega | (simp; done) | exact (lcC (by assumption) (by assumption) (by assumption) (by assumption)).1.1 | exact (lcC (by assumption) (by assumption) (by assumption) (by assumption)).1.2.2 | exact (lcC (by assumption) (by assumption) (by assumption) (by assumption)).2.2) (by first | omega | (simp; done) | exact (lcC (by assumption) (by assumption) (by assumption) (by assumption)).1.1 | exact (lcC (by assumption) (by assumption) (by assumption) (by assumption)).1.2.2 | exact (lcC (by assumption) (by assumption) (by assumption) (by assumption)).2.2) (by first | omega | (simp; done) | exact (lcC (by assumption) (by assumption) (by assumption) (by assumption)).1.1 | exact (lcC (by assumption) (by assumption) (by assumption) (by assumption)).1.2.2 | exact (lcC (by assumption) (by assumption) (by assumption) (by assumption)).2.2) (by first | omega | (simp; done) | exact (lcC (by assumption) (by assumption) (by assumption) (by assumption)).1.1 | exact (lcC (by assumption) (by assumption) (by assumption) (by assumption)).1.2.2 | exact (lcC (by assumption) (by assumption) (by assumption) (by assumption)).2.2) (Mem.sub e7 (.cons_cons _ .slnil)) hres) rfl
   ·intro c1 c0 d1 b1 b0 a1 a2 f3 e5 hres
    refine ft (ai (ah (sR (mI rfl (nS (bf ?_))))))
    refine wC (uj r0 a5 a9 a4 a8 a7 c8 a6 b1 b0 a1 a2 ?_  rfl (by omega) (Mem.sub e5 (.cons_cons _ .slnil)) hres) rfl
    ·intro f6 f9 hres
     refine ft (ai (sR ?_))
     obtain ⟨f0, d3, hres⟩ := dl hres
     have d0 := bd9   
     rw [d3] at d0
     refine cL d0 rfl rfl bh (mV rfl (nS ?_))
     exact rR hres rfl rfl rfl

end Go.Proofs.YthdnpgpnodgicaaGreat
