/-
 The code of each function does what its plain program says.
-/
import Derived.Test.YthdnpgpnodgicaaGreatL8W2
set_option linter.unusedVariables false
set_option linter.unusedSimpArgs false
set_option maxRecDepth 100000
namespace Go.Proofs.YthdnpgpnodgicaaGreat
open Go Go.Pb Go.RowKit
def RF49 (res : Bool) (r : PV) : Prop := r = vb res
def RF16 (res : Int) (r : PV) : Prop := r = vi res
def RF31 (res : am × Bool) (r : PV) : Prop := ∃ c0, r = .tup [c0, vb res.2] ∧ am.t.R res.1 c0
theorem uq {S : List Fr} {res : am × Bool} {x0 : List am} {x1 : am → Bool} {v0 v1 : PV} {a7 a6 : Nat} (r0 : (tSl am.t).R x0 v0) (r1 : (tFn Tryz.prog am.t tB).R x1 v1) {K0 : am → (am × Bool)}
  (c1 : ∀ {a2 : am} {a0 : PV} (a4 : am.t.R a2 a0) {h : Heap} (M0 : Mem h [⟨.op a7 a6 0, 44, 5, [a0]⟩]), K0 a2 = res → PX Tryz.prog 0 S (QR Tryz.prog [(4, some (5, true)), (5, none)] (RF31 res)) [(4, .op a7 a6 0)] h) :
  ∀ {m : Nat} {a1 : Int} {a2 : am} {a0 : PV} (a4 : am.t.R a2 a0) (b9 : m = Int.toNat ((x0.length : Int) - a1)) (b3 : 0 ≤ a1) {h : Heap} (M0 : Mem h [⟨.op a7 a6 0, 44, 5, [a0]⟩]), fm x0 x1 K0 m a1 a2 = res → RC Tryz.prog (.loop de1) S (QR Tryz.prog [(4, some (5, true)), (5, none)] (RF31 res)) [(11, vi a1), (10, vi (x0.length : Int)), (9, v0), (4, .op a7 a6 0), (1, v1)] h := by
 intro m
 induction m with
 | zero =>
  intro a1 a2 a0 a4 b9 b3 h M0 hres
  rw [fm] at hres
  refine bw (sR (bN cy rfl rfl (nS (ah ?_))))
  refine bc rfl ?_ ?_ <;> intro c <;> try simp only [qa] at c
  ·omega
  refine dt (fj (df ?_))
  exact wP (c1 a4 (Mem.sub M0 (.cons_cons _ .slnil)) hres) rfl
 | succ m ih =>
  intro a1 a2 a0 a4 b9 b3 h M0 hres
  rw [fm] at hres
  refine bw (sR (bN cy rfl rfl (nS (ah ?_))))
  refine bc rfl ?_ ?_ <;> intro c <;> try simp only [qa] at c
  rotate_left
  ·omega
  refine ay (ai (ah (bf (sR ?_))))
  obtain ⟨a5, b5, a3⟩ := dk (i := a1) r0 (by first | omega | (have hk := bn (by assumption) (by assumption); omega) | (have hk := tck (by assumption) (by assumption); omega) | (have hk := rtck (by assumption) (by assumption); omega) | (have hk := eck (by assumption) (by assumption) (by assumption); omega) | (have hk := tv (by assumption) (by assumption); omega) | (have hk := rtv (by assumption) (by assumption); omega)) (by first | omega | (have hk := bn (by assumption) (by assumption); omega) | (have hk := tck (by assumption) (by assumption); omega) | (have hk := rtck (by assumption) (by assumption); omega) | (have hk := eck (by assumption) (by assumption) (by assumption); omega) | (have hk := tv (by assumption) (by assumption); omega) | (have hk := rtv (by assumption) (by assumption); omega))
  refine ab (bp rfl rfl b5) (lD a3 rfl rfl rfl ?_)
  refine dc (x := .agg [vi 0, nilS, vi 0, vi 0, nilS]) M0 rfl rfl (fun b1 b2 c0 b4 => ?_)
  refine db (k := 0) (v := a5) b4 rfl rfl rfl (TR.cnt am.t a3) (fun b6 a8 => ?_)
  replace a8 : Mem b6 [⟨.op b1 b2 0, 44, 5, [a5]⟩, ⟨.op a7 a6 0, 44, 5, [a0]⟩] := a8
  refine nR (mV rfl (ab (gi (k := 0) a8 rfl rfl (TR.agg am.t a3)) ?_))
  refine bb2 rfl r1 rfl (show am.t.R (ix x0 a1) a5 from a3) (fun b8 b0 => ?_)
  have b0 : b8 = vb (x1 (ix x0 a1)) := b0; subst b0
  refine nS ?_
  refine dg hres rfl ?_ ?_ <;> clear hres <;> intro c hres <;> try simp only [qa] at c
  ·refine sR (ab (gi (k := 0) a8 rfl rfl (TR.agg am.t a3)) ?_)
   refine db (k := 1) (v := a5) a8 rfl rfl rfl (TR.cnt am.t a3) (fun b7 a9 => ?_)
   replace a9 : Mem b7 [⟨.op b1 b2 0, 44, 5, [a5]⟩, ⟨.op a7 a6 0, 44, 5, [a5]⟩] := a9
   refine mB rfl (nS ?_)
   subst hres
   exact dw (.cell rfl (ji (k := 1) a9 rfl (TR.agg am.t a3)) (.tmp rfl .nil)) (cf (show closed (.tup _) = true from (aq (TR.clo am.t a3) (aq rfl bh)))) ⟨a5, rfl, a3⟩
  ·refine ay (dh (ai (af (bN fa rfl rfl (mV rfl (av (cx ?_)))))))
   have hbd := ee r0
   have hinc : wr (a1 + 1) = a1 + 1 := dm (by omega) (by omega)
   erw [hinc]
   exact wC (ih  a4 (by omega) (by omega) (Mem.sub a8 (.cons _ (.cons_cons _ .slnil))) hres) rfl

theorem bf9 {x0 : List am} {x1 : am → Bool} {v0 v1 : PV} (r0 : (tSl am.t).R x0 v0) (r1 : (tFn Tryz.prog am.t tB).R x1 v1) : ∃ c0, FnR Tryz.prog 31 [v0, v1] (.tup [c0, vb ((da x0 x1).2)]) ∧ am.t.R (da x0 x1).1 c0 := by
 obtain ⟨res, hres⟩ : ∃ res, da x0 x1 = res := ⟨_, rfl⟩
 suffices H : RC Tryz.prog dt1 [] (QR Tryz.prog [(4, some (5, true)), (5, none)] (RF31 res)) (argE 0 [v0, v1]) ⟨0, []⟩ by
  rw [hres]
  obtain ⟨r, h1, c0, rfl, a9⟩ := fnE ce3 (by simp) H
  exact ⟨c0, h1, a9⟩
 unfold da at hres
 refine sR ?_
 refine dc (x := .agg [vi 0, nilS, vi 0, vi 0, nilS]) (Mem.nil ⟨0, []⟩) rfl rfl (fun a6 a5 b1 a4 => ?_)
 refine mB rfl (nS (ah (sR (mV rfl (ab (cw rfl (cg r0 Tryz.underlying32 _)) (mI rfl (nS (bf ?_))))))))
 refine wC (uq r0 r1 ?_  (show am.t.R ({ ID := 0, Entry := ({ Keys := ([] : List ba), Priority := 0, Call := ({ Action := 0, Args := ([] : List (BitVec 32)) } : bb) } : aw) } : am) (.agg [vi 0, nilS, vi 0, vi 0, nilS]) from ⟨nilS, nilS, rfl, ii, ii⟩) rfl (by omega) (Mem.sub a4 (.cons_cons _ .slnil)) hres) rfl
 ·intro a1 a2 a3 b0 a8 hres
  refine ft (ai (sR (ab (ad5 (x := .agg [vi 0, nilS, vi 0, vi 0, nilS]) rfl rfl) (nR (lR rfl rfl rfl ?_)))))
  refine db (k := 0) (v := .agg [vi 0, nilS, vi 0, vi 0, nilS]) a8 rfl rfl rfl rfl (fun a7 a0 => ?_)
  replace a0 : Mem a7 [⟨.op a6 a5 0, 44, 5, [.agg [vi 0, nilS, vi 0, vi 0, nilS]]⟩] := a0
  refine mB rfl (nS ?_)
  subst hres
  exact dw (.cell rfl (ji (k := 0) a0 rfl rfl) (.tmp rfl .nil)) (cf (show closed (.tup _) = true from (aq (TR.clo am.t (show am.t.R ({ ID := 0, Entry := ({ Keys := ([] : List ba), Priority := 0, Call := ({ Action := 0, Args := ([] : List (BitVec 32)) } : bb) } : aw) } : am) (.agg [vi 0, nilS, vi 0, vi 0, nilS]) from ⟨nilS, nilS, rfl, ii, ii⟩)) (aq rfl bh)))) ⟨.agg [vi 0, nilS, vi 0, vi 0, nilS], rfl, ⟨nilS, nilS, rfl, ii, ii⟩⟩

def RF107 (res : Int) (r : PV) : Prop := r = vi res
theorem xg {S : List Fr} {res : Int} {x0 : BitVec 32} {K0 : Int → Int}
  (a4 : ∀ {a1 : Int}, K0 a1 = res → PX Tryz.prog 0 S (QR Tryz.prog [(2, none)] (RF107 res)) [(3, vi a1)] ⟨0, []⟩) :
  ∀ {m : Nat} {a1 a0 : Int} (a3 : m = Int.toNat (32 - a0)) (a2 : 0 ≤ a0), jg x0 K0 m a1 a0 = res → RC Tryz.prog (.loop ch8) S (QR Tryz.prog [(2, none)] (RF107 res)) [(5, vi a0), (3, vi a1), (0, fb x0)] ⟨0, []⟩ := by
 intro m
 induction m with
 | zero =>
  intro a1 a0 a3 a2 hres
  rw [jg] at hres
  refine bw (sR (bN cy rfl rfl (nS (ah ?_))))
  refine bc rfl ?_ ?_ <;> intro c <;> try simp only [qa] at c
  ·omega
  refine dt (fj (df ?_))
  exact wP (a4  hres) rfl
 | succ m ih =>
  intro a1 a0 a3 a2 hres
  rw [jg] at hres
  refine bw (sR (bN cy rfl rfl (nS (ah ?_))))
  refine bc rfl ?_ ?_ <;> intro c <;> try simp only [qa] at c
  rotate_left
  ·omega
  refine ay (ai (ah (bf (sR (mV rfl (mV rfl (nS (af ?_))))))))
  refine mV rfl (mV rfl (mV rfl (ab (az (a := fb x0) (b := vi a0) rfl rfl (bp1 (by first | omega | (rw [dm (by omega) (by omega)]; omega)))) (ab (az (a := fb (x0 >>> a0.toNat)) (b := fb 1#32) rfl rfl by6) (ab (tf (a := fb ((x0 >>> a0.toNat) &&& 1#32)) rfl (c_wi Tryz.underlying64 Tryz.underlying3)) (bN fa rfl rfl (mV rfl (av ?_))))))))
  refine dh (ai (af (bN fa rfl rfl (mV rfl (av (cx ?_))))))
  have hinc : wr (a0 + 1) = a0 + 1 := dm (by omega) (by omega)
  erw [hinc]
  exact wC (ih   (by omega) (by omega) hres) rfl

theorem cw6 {x0 : BitVec 32} : FnR Tryz.prog 107 [fb x0] (vi (nm x0)) := by
 refine fnS (R := RF107) bl5 (fun _ h => h) rfl fun res hres => ?_
 unfold nm at hres
 refine sR (mI rfl (nR (mI rfl (nS (ah (sR (mI rfl (nS ?_))))))))
 refine bf ?_
 refine wC (xg  ?_  rfl (by omega) hres) rfl
 ·intro a0 hres
  refine ft (ai (sR (mV rfl (mV rfl (nS ?_)))))
  exact rR hres rfl rfl rfl

def RF68 (res : Int) (r : PV) : Prop := r = vi res
theorem zn {S : List Fr} {res : Int} {x0 : aa} {x1 : Int} {x2 : aw} {v2 a4 : PV} (r2 : aw.t.R x2 v2) (a6 : ((decide (x1 < 0)) || (decide ((x0.Tables.length : Int) ≤ x1))) = false) (a9 : (tSl bg.t).R ((ix x0.Tables x1).Keys) a4) {K0 : Unit → Int}
  (c4 : ∀ {h : Heap} (M0 : Mem h []), K0 () = res → PX Tryz.prog 0 S (QR Tryz.prog [(6, none)] (RF68 res)) [] h) :
  ∀ {m : Nat} {a0 : Int} (c0 : m = Int.toNat ((((ix x0.Tables x1).Keys).length : Int) - a0)) (a8 : 0 ≤ a0) {h : Heap} (M0 : Mem h []), li x0 x1 x2 K0 m a0 = res → RC Tryz.prog (.loop cw5) S (QR Tryz.prog [(6, none)] (RF68 res)) [(25, vi a0), (24, vi (((ix x0.Tables x1).Keys).length : Int)), (23, a4), (5, .fp v2)] h := by
 have a2 := a6
 try simp only [qa] at a2
 intro m
 induction m with
 | zero =>
  intro a0 c0 a8 h M0 hres
  rw [li] at hres
  refine bw (sR (bN cy rfl rfl (nS (ah ?_))))
  refine bc rfl ?_ ?_ <;> intro c <;> try simp only [qa] at c
  ·omega
  refine dt (fj (df ?_))
  exact wP (c4 (Mem.sub M0 .slnil) hres) rfl
 | succ m ih =>
  intro a0 c0 a8 h M0 hres
  rw [li] at hres
  refine bw (sR (bN cy rfl rfl (nS (ah ?_))))
  refine bc rfl ?_ ?_ <;> intro c <;> try simp only [qa] at c
  rotate_left
  ·omega
  refine ay (ai (ah (bf (sR (mV rfl ?_)))))
  obtain ⟨b0, b2, a3⟩ := dk (i := a0) a9 (by first | omega | (have hk := bn (by assumption) (by assumption); omega) | (have hk := tck (by assumption) (by assumption); omega) | (have hk := rtck (by assumption) (by assumption); omega) | (have hk := eck (by assumption) (by assumption) (by assumption); omega) | (have hk := tv (by assumption) (by assumption); omega) | (have hk := rtv (by assumption) (by assumption); omega)) (by first | omega | (have hk := bn (by assumption) (by assumption); omega) | (have hk := tck (by assumption) (by assumption); omega) | (have hk := rtck (by assumption) (by assumption); omega) | (have hk := eck (by assumption) (by assumption) (by assumption); omega) | (have hk := tv (by assumption) (by assumption); omega) | (have hk := rtv (by assumption) (by assumption); omega))
  refine ab (bp rfl rfl b2) (lD a3 rfl rfl rfl ?_)
  refine dc (x := .agg [vi 0, vi 0, vi 0]) M0 rfl rfl (fun b3 b8 c5 b1 => ?_)
  refine mV rfl ?_
  refine db (k := 0) (v := b0) b1 rfl rfl rfl (TR.cnt bg.t a3) (fun b7 a1 => ?_)
  replace a1 : Mem b7 [⟨.op b3 b8 0, 112, 3, [b0]⟩] := a1
  refine nR (ab (bd rfl) (ab (co (k := 0) a1 rfl rfl (bg.g_Kind a3)) (bN nd rfl rfl (nS ?_))))
  refine dg hres rfl ?_ ?_ <;> clear hres <;> intro c hres <;> try simp only [qa] at c
  ·refine ah (sR (mV rfl (gL (aw.g_Keys r2) rfl rfl rfl fun c6 b5 => (ab (cw rfl (cg b5 Tryz.underlying38 _)) (bN cy rfl rfl (nS ?_))))))
   refine dg hres rfl ?_ ?_ <;> clear hres <;> intro c hres <;> try simp only [qa] at c
   ·refine sR (gL (aw.g_Keys r2) rfl rfl rfl fun c7 b6 => (mV rfl ?_))
    obtain ⟨c1, b9, b4⟩ := dk (i := a0) b6 (by first | omega | (have hk := bn (by assumption) (by assumption); omega) | (have hk := tck (by assumption) (by assumption); omega) | (have hk := rtck (by assumption) (by assumption); omega) | (have hk := eck (by assumption) (by assumption) (by assumption); omega) | (have hk := tv (by assumption) (by assumption); omega) | (have hk := rtv (by assumption) (by assumption); omega)) (by first | omega | (have hk := bn (by assumption) (by assumption); omega) | (have hk := tck (by assumption) (by assumption); omega) | (have hk := rtck (by assumption) (by assumption); omega) | (have hk := eck (by assumption) (by assumption) (by assumption); omega) | (have hk := tv (by assumption) (by assumption); omega) | (have hk := rtv (by assumption) (by assumption); omega))
    refine ab (bp rfl rfl b9) (fL rfl (ba.g_Mask b4) rfl rfl ?_)
    obtain ⟨c3, a7, hres⟩ := dl hres
    have a5 := cw6 (x0 := (ix x2.Keys a0).Mask)  
    rw [a7] at a5
    refine cL a5 rfl rfl (aq rfl bh) (mV rfl (nS ?_))
    exact rR hres rfl rfl rfl
   ·refine ay (ai (sR (mI rfl (nS ?_))))
    exact rR hres rfl rfl rfl
  ·refine ay (dh (ai (af (bN fa rfl rfl (mV rfl (av (cx ?_)))))))
   have hbd := ee a9
   have hinc : wr (a0 + 1) = a0 + 1 := dm (by omega) (by omega)
   erw [hinc]
   exact wC (ih   (by omega) (by omega) (Mem.sub a1 (.cons _ .slnil)) hres) rfl

theorem cl0 {x0 : aa} {x1 : Int} {x2 : aw} {v0 v2 : PV} (r0 : aa.t.R x0 v0) (r2 : aw.t.R x2 v2) : FnR Tryz.prog 68 [v0, vi x1, v2] (vi (jp x0 x1 x2)) := by
 refine fnS (R := RF68) ce8 (fun _ h => h) rfl fun res hres => ?_
 unfold jp at hres
 refine sR (ab (dz rfl (TR.cnt aa.t r0)) (ab (dz rfl (TR.cnt aw.t r2)) (mI rfl (nS (ah (sR (mV rfl (bN cy rfl rfl ?_))))))))
 refine mV rfl ?_
 refine cp 6 (d := 17) (v := vb ((decide (x1 < 0)) || (decide ((x0.Tables.length : Int) ≤ x1)))) ?_ ?_
 ·intro S Q r
  cases a6 : (decide (x1 < 0))
  ·intro k
   have a2 := a6
   try simp only [qa] at a2
   refine ak rfl rfl (au rfl) ?_
   obtain ⟨b2, b0, a1⟩ := aa.g_Tables r0
   refine ak rfl rfl (ck rfl b0) (ak rfl rfl (bt rfl (TR.cnt (tSl ax.t) a1) (TR.agg (tSl ax.t) a1)) (ak rfl rfl (cw rfl (cg a1 Tryz.underlying26 _)) (ak rfl rfl (az rfl rfl sw) ?_)))
   exact gK rfl rfl rfl rfl rfl k
  ·exact gN 5 rfl rfl rfl rfl rfl rfl
 refine nS ?_
 refine dg hres rfl ?_ ?_ <;> clear hres <;> intro a0 hres <;> have a3 := a0 <;> try simp only [qa] at a3
 ·refine sR (mI rfl (nS ?_))
  exact rR hres rfl rfl rfl
 ·refine ay (ai (ah (sR ?_)))
  obtain ⟨b5, a7, a5⟩ := aa.g_Tables r0
  refine fA rfl a7 (lD a5 rfl rfl rfl (mV rfl ?_))
  obtain ⟨b7, a8, b1⟩ := dk (i := x1) a5 (by first | omega | (have hk := bn (by assumption) (by assumption); omega) | (have hk := tck (by assumption) (by assumption); omega) | (have hk := rtck (by assumption) (by assumption); omega) | (have hk := eck (by assumption) (by assumption) (by assumption); omega) | (have hk := tv (by assumption) (by assumption); omega) | (have hk := rtv (by assumption) (by assumption); omega)) (by first | omega | (have hk := bn (by assumption) (by assumption); omega) | (have hk := tck (by assumption) (by assumption); omega) | (have hk := rtck (by assumption) (by assumption); omega) | (have hk := eck (by assumption) (by assumption) (by assumption); omega) | (have hk := tv (by assumption) (by assumption); omega) | (have hk := rtv (by assumption) (by assumption); omega))
  refine ab (bp rfl rfl a8) ?_
  obtain ⟨b4, a9, a4⟩ := ax.g_Keys b1
  refine fA rfl a9 (lD a4 rfl rfl rfl (ab (cw rfl (cg a4 Tryz.underlying85 _)) (mI rfl (nS (bf ?_)))))
  refine wC (zn r2 a0 a4 ?_  rfl (by omega) (Mem.sub (Mem.nil ⟨0, []⟩) .slnil) hres) rfl
  ·intro b3 b6 hres
   refine ft (ai (sR (mI rfl (nS ?_))))
   exact rR hres rfl rfl rfl

def RF34 (res : Bool) (r : PV) : Prop := r = vb res
theorem cf8 {x0 : aa} {x1 : Int} {x2 : am} {x3 : am} {v0 v2 v3 : PV} (r0 : aa.t.R x0 v0) (r2 : am.t.R x2 v2) (r3 : am.t.R x3 v3) : FnR Tryz.prog 34 [v0, vi x1, v2, v3] (vb (de x0 x1 x2 x3)) := by
 refine fnS (R := RF34) ch2 (fun _ h => h) rfl fun res hres => ?_
 unfold de at hres
 refine sR (ab (dz rfl (TR.cnt aa.t r0)) (ab (dz rfl (TR.cnt am.t r2)) (ab (dz rfl (TR.cnt am.t r3)) (mB rfl (nS (ah (sR ?_)))))))
 obtain ⟨c1, b2, b3⟩ := am.g_Entry r2
 refine fA rfl b2 (fL rfl (aw.g_Priority b3) rfl rfl ?_)
 obtain ⟨b5, b0, a7⟩ := am.g_Entry r3
 refine fA rfl b0 (fL rfl (aw.g_Priority a7) rfl rfl (bN nf rfl rfl (nS ?_)))
 refine dg hres rfl ?_ ?_ <;> clear hres <;> intro c hres <;> try simp only [qa] at c
 ·refine sR ?_
  obtain ⟨b8, a8, a6⟩ := am.g_Entry r2
  refine fA rfl a8 (fL rfl (aw.g_Priority a6) rfl rfl ?_)
  obtain ⟨b9, a9, b1⟩ := am.g_Entry r3
  refine fA rfl a9 (fL rfl (aw.g_Priority b1) rfl rfl (bN ig rfl rfl (mV rfl (nS ?_))))
  exact rR hres rfl rfl rfl
 ·refine ay (ai (ah (sR (lD r0 rfl rfl rfl (mV rfl (gL (am.g_Entry r2) rfl rfl rfl fun b7 a5 => ?_))))))
  obtain ⟨c0, a1, hres⟩ := dl hres
  have a2 := cl0 (x1 := x1) r0 a5 
  rw [a1] at a2
  refine cL a2 rfl rfl (aq (TR.clo aa.t r0) (aq rfl (aq (TR.clo aw.t a5) bh))) (lD r0 rfl rfl rfl (mV rfl (gL (am.g_Entry r3) rfl rfl rfl fun b4 a0 => ?_)))
  obtain ⟨b6, a4, hres⟩ := dl hres
  have a3 := cl0 (x1 := x1) r0 a0 
  rw [a4] at a3
  refine cL a3 rfl rfl (aq (TR.clo aa.t r0) (aq rfl (aq (TR.clo aw.t a0) bh))) (mV rfl (mV rfl (nR (mV rfl (mV rfl (bN nf rfl rfl (nS ?_)))))))
  refine dg hres rfl ?_ ?_ <;> clear hres <;> intro c hres <;> try simp only [qa] at c
  ·refine sR (mV rfl (mV rfl (bN ig rfl rfl (mV rfl (nS ?_)))))
   exact rR hres rfl rfl rfl
  ·refine ay (ai (sR (fL rfl (am.g_ID r2) rfl rfl (fL rfl (am.g_ID r3) rfl rfl (bN cy rfl rfl (mV rfl (nS ?_)))))))
   exact rR hres rfl rfl rfl

def RF109 (res : Bool) (r : PV) : Prop := r = vb res
theorem bl1 {x0 : UInt8} : FnR Tryz.prog 109 [vu8 x0] (vb (ku x0)) := by
 refine fnS (R := RF109) bm1 (fun _ h => h) rfl fun res hres => ?_
 unfold ku at hres
 refine sR (mB rfl (nR (mV rfl (ab (az (a := vu8 x0) (b := vu8 (97 : UInt8)) rfl rfl as0) (mV rfl ?_)))))
 refine cp 3 (d := 8) (v := vb ((decide ((97 : UInt8) ≤ x0)) && (decide (x0 ≤ (122 : UInt8))))) ?_ ?_
 ·intro S Q r
  cases a4 : (decide ((97 : UInt8) ≤ x0))
  ·exact gN 2 rfl rfl rfl rfl rfl rfl
  ·intro k
   have a1 := a4
   try simp only [qa] at a1
   refine ak rfl rfl (au rfl) (ak rfl rfl (az (a := vu8 x0) (b := vu8 (122 : UInt8)) rfl rfl aq2) ?_)
   exact gK rfl rfl rfl rfl rfl k
 refine mV rfl ?_
 refine cp 7 (d := 16) (v := vb (((decide ((97 : UInt8) ≤ x0)) && (decide (x0 ≤ (122 : UInt8)))) || ((decide ((65 : UInt8) ≤ x0)) && (decide (x0 ≤ (90 : UInt8)))))) ?_ ?_
 ·intro S Q r
  cases a3 : ((decide ((97 : UInt8) ≤ x0)) && (decide (x0 ≤ (122 : UInt8))))
  ·intro k
   have a2 := a3
   try simp only [qa] at a2
   refine ak rfl rfl (au rfl) (ak rfl rfl (az (a := vu8 x0) (b := vu8 (65 : UInt8)) rfl rfl as0) (ak rfl rfl (au rfl) ?_))
   refine cp 3 (d := 15) (v := vb ((decide ((65 : UInt8) ≤ x0)) && (decide (x0 ≤ (90 : UInt8))))) ?_ ?_
   ·intro S Q r
    cases a5 : (decide ((65 : UInt8) ≤ x0))
    ·intro k
     refine aa9 rfl rfl (aa9 rfl rfl (ak (v := vb false) rfl rfl (yq rfl rfl rfl rfl) ?_))
     exact wD k rfl
    ·intro k
     have a0 := a5
     try simp only [qa] at a0
     refine ak rfl rfl (au rfl) (ak rfl rfl (az (a := vu8 x0) (b := vu8 (90 : UInt8)) rfl rfl aq2) (ak (v := vb (decide (x0 ≤ (90 : UInt8)))) rfl rfl (yq rfl rfl rfl rfl) ?_))
     exact wD k rfl
   exact gK rfl rfl rfl rfl rfl k
  ·exact gN 6 rfl rfl rfl rfl rfl rfl
 refine mV rfl (nS ?_)
 exact rR hres rfl rfl rfl

def RF110 (res : Int) (r : PV) : Prop := r = vi res
theorem zr {S : List Fr} {res : Int} {x0 : List UInt8} {x1 : UInt8 → Bool} {v1 : PV} (r1 : (tFn Tryz.prog tU8 tB).R x1 v1) (hs : x0.length ≤ 1000) {K0 : Int → Int}
  (b0 : ∀ {a0 : Int}, K0 a0 = res → PX Tryz.prog 0 S (QR Tryz.prog [(4, none)] (RF110 res)) [(5, vi a0)] ⟨0, []⟩) :
  ∀ {m : Nat} {a0 : Int} (b1 : m = Int.toNat ((x0.length : Int) - a0)) (a5 : 0 ≤ a0), lj x0 x1 K0 m a0 = res → RC Tryz.prog (.loop bz2) S (QR Tryz.prog [(4, none)] (RF110 res)) [(5, vi a0), (1, v1), (0, vs x0)] ⟨0, []⟩ := by
 intro m
 induction m with
 | zero =>
  intro a0 b1 a5 hres
  rw [lj] at hres
  refine bw (ah (sR (mV rfl (mV rfl (ab (cw rfl (pf Tryz.underlying9)) (bN cy rfl rfl (mV rfl ?_)))))))
  refine cp 6 (d := 16) (v := vb ((decide (a0 < (x0.length : Int))) && (x1 (ix x0 a0)))) ?_ ?_
  ·intro S Q r
   cases a6 : (decide (a0 < (x0.length : Int)))
   ·exact gN 5 rfl rfl rfl rfl rfl rfl
   ·intro k
    have a3 := a6
    try simp only [qa] at a3
    refine ak rfl rfl (au rfl) (ak rfl rfl (au rfl) (ak rfl rfl (au rfl) (ak rfl rfl (qw rfl rfl (xd Tryz.underlying9 (by first | omega | (have hk := bn (by assumption) (by assumption); omega) | (have hk := tck (by assumption) (by assumption); omega) | (have hk := rtck (by assumption) (by assumption); omega) | (have hk := eck (by assumption) (by assumption) (by assumption); omega) | (have hk := tv (by assumption) (by assumption); omega) | (have hk := rtv (by assumption) (by assumption); omega)) (by first | omega | (have hk := bn (by assumption) (by assumption); omega) | (have hk := tck (by assumption) (by assumption); omega) | (have hk := rtck (by assumption) (by assumption); omega) | (have hk := eck (by assumption) (by assumption) (by assumption); omega) | (have hk := tv (by assumption) (by assumption); omega) | (have hk := rtv (by assumption) (by assumption); omega)))) ?_)))
    refine ap7 rfl rfl rfl r1 rfl (show tU8.R (ix x0 a0) (vu8 (ix x0 a0)) from rfl) (fun a8 a2 => ?_)
    have a2 : a8 = vb (x1 (ix x0 a0)) := a2; subst a2
    exact gK rfl rfl rfl rfl rfl k
  refine nS ?_
  refine bc rfl ?_ ?_ <;> intro c <;> try simp only [qa] at c
  ·omega
  refine dt (fj (df ?_))
  exact wP (b0  hres) rfl
 | succ m ih =>
  intro a0 b1 a5 hres
  rw [lj] at hres
  refine bw (ah (sR (mV rfl (mV rfl (ab (cw rfl (pf Tryz.underlying9)) (bN cy rfl rfl (mV rfl ?_)))))))
  refine cp 6 (d := 16) (v := vb ((decide (a0 < (x0.length : Int))) && (x1 (ix x0 a0)))) ?_ ?_
  ·intro S Q r
   cases a7 : (decide (a0 < (x0.length : Int)))
   ·exact gN 5 rfl rfl rfl rfl rfl rfl
   ·intro k
    have a1 := a7
    try simp only [qa] at a1
    refine ak rfl rfl (au rfl) (ak rfl rfl (au rfl) (ak rfl rfl (au rfl) (ak rfl rfl (qw rfl rfl (xd Tryz.underlying9 (by first | omega | (have hk := bn (by assumption) (by assumption); omega) | (have hk := tck (by assumption) (by assumption); omega) | (have hk := rtck (by assumption) (by assumption); omega) | (have hk := eck (by assumption) (by assumption) (by assumption); omega) | (have hk := tv (by assumption) (by assumption); omega) | (have hk := rtv (by assumption) (by assumption); omega)) (by first | omega | (have hk := bn (by assumption) (by assumption); omega) | (have hk := tck (by assumption) (by assumption); omega) | (have hk := rtck (by assumption) (by assumption); omega) | (have hk := eck (by assumption) (by assumption) (by assumption); omega) | (have hk := tv (by assumption) (by assumption); omega) | (have hk := rtv (by assumption) (by assumption); omega)))) ?_)))
    refine ap7 rfl rfl rfl r1 rfl (show tU8.R (ix x0 a0) (vu8 (ix x0 a0)) from rfl) (fun a9 a4 => ?_)
    have a4 : a9 = vb (x1 (ix x0 a0)) := a4; subst a4
    exact gK rfl rfl rfl rfl rfl k
  refine nS ?_
  refine dg hres rfl ?_ ?_ <;> clear hres <;> intro c hres <;> try simp only [qa] at c
  ·refine ay (ai (bf (af (mV rfl (bN fa rfl rfl (mV rfl (av (dh ?_))))))))
   refine cx ?_
   have hinc : wr (a0 + 1) = a0 + 1 := dm (by omega) (by omega)
   erw [hinc]
   exact wC (ih   (by omega) (by omega) hres) rfl
  ·refine dt (fj (df ?_))
   exact wP (b0  hres) rfl

theorem cr6 {x0 : List UInt8} {x1 : UInt8 → Bool} {v1 : PV} (r1 : (tFn Tryz.prog tU8 tB).R x1 v1) (hs : x0.length ≤ 1000) : FnR Tryz.prog 110 [vs x0, v1] (vi (sy x0 x1)) := by
 refine fnS (R := RF110) bj3 (fun _ h => h) rfl fun res hres => ?_
 unfold sy at hres
 refine sR (mI rfl (nR (mI rfl (nS (ah (bf ?_))))))
 refine wC (zr r1 hs ?_  rfl (by omega) hres) rfl
 ·intro a0 hres
  refine ft (ai (sR (mV rfl (mV rfl (nS ?_)))))
  exact rR hres rfl rfl rfl

def RF112 (res : Bool) (r : PV) : Prop := r = vb res
theorem ct1 {x0 : UInt8} : FnR Tryz.prog 112 [vu8 x0] (vb (lq x0)) := by
 refine fnS (R := RF112) bn9 (fun _ h => h) rfl fun res hres => ?_
 unfold lq at hres
 refine sR (mB rfl (nR (mV rfl (ab (az (a := vu8 x0) (b := vu8 (48 : UInt8)) rfl rfl as0) (mV rfl ?_)))))
 refine cp 3 (d := 8) (v := vb ((decide ((48 : UInt8) ≤ x0)) && (decide (x0 ≤ (57 : UInt8))))) ?_ ?_
 ·intro S Q r
  cases a1 : (decide ((48 : UInt8) ≤ x0))
  ·exact gN 2 rfl rfl rfl rfl rfl rfl
  ·intro k
   have a0 := a1
   try simp only [qa] at a0
   refine ak rfl rfl (au rfl) (ak rfl rfl (az (a := vu8 x0) (b := vu8 (57 : UInt8)) rfl rfl aq2) ?_)
   exact gK rfl rfl rfl rfl rfl k
 refine mV rfl (nS ?_)
 exact rR hres rfl rfl rfl

def RF111 (res : Bool) (r : PV) : Prop := r = vb res
theorem da3 {x0 : UInt8} : FnR Tryz.prog 111 [vu8 x0] (vb (jv x0)) := by
 refine fnS (R := RF111) bq1 (fun _ h => h) rfl fun res hres => ?_
 unfold jv at hres
 refine sR (mB rfl (nR (mV rfl ?_)))
 obtain ⟨a0, a6, hres⟩ := dl hres
 have a5 := bl1 (x0 := x0)  
 rw [a6] at a5
 refine cL a5 rfl rfl (aq rfl bh) (mV rfl ?_)
 refine cp 3 (d := 8) (v := vb (a0 || (lq x0))) ?_ ?_
 ·intro S Q r
  cases a3 : a0
  ·intro k
   have a2 := a3
   try simp only [qa] at a2
   refine ak rfl rfl (au rfl) ?_
   have a7 := ct1 (x0 := x0)  
   refine mq rfl rfl (vd rfl rfl (aq rfl bh) a7) ?_
   exact gK rfl rfl rfl rfl rfl k
  ·exact gN 2 rfl rfl rfl rfl rfl rfl
 refine mV rfl ?_
 refine cp 3 (d := 12) (v := vb ((a0 || (lq x0)) || (decide (x0 = (95 : UInt8))))) ?_ ?_
 ·intro S Q r
  cases a4 : (a0 || (lq x0))
  ·intro k
   have a1 := a4
   try simp only [qa] at a1
   refine ak rfl rfl (au rfl) (ak rfl rfl (az (a := vu8 x0) (b := vu8 (95 : UInt8)) rfl rfl eg7) ?_)
   exact gK rfl rfl rfl rfl rfl k
  ·exact gN 2 rfl rfl rfl rfl rfl rfl
 refine mV rfl (nS ?_)
 exact rR hres rfl rfl rfl

theorem dv7 : (tFn Tryz.prog tU8 tB).R jv (.fn (.func 111) [] []) := dn4 fun a va ra => by obtain rfl := ra; exact ⟨_, da3, rfl⟩

def RF73 (res : Bool) (r : PV) : Prop := r = vb res
theorem dn0 {x0 : List UInt8} : FnR Tryz.prog 73 [vs x0] (vb (mc x0)) := by
 refine fnS (R := RF73) cg1 (fun _ h => h) rfl fun res hres => ?_
 unfold mc at hres
 refine sR (mB rfl (nS (ah (sR (mV rfl (ab (cw rfl (pf Tryz.underlying9)) (bN nd rfl rfl (mV rfl ?_))))))))
 refine cp 4 (d := 10) (v := vb ((decide ((x0.length : Int) = 0)) || (decide (16 < (x0.length : Int))))) ?_ ?_
 ·intro S Q r
  cases a5 : (decide ((x0.length : Int) = 0))
  ·intro k
   have a1 := a5
   try simp only [qa] at a1
   refine ak rfl rfl (au rfl) (ak rfl rfl (cw rfl (pf Tryz.underlying9)) (ak rfl rfl (az rfl rfl ig) ?_))
   exact gK rfl rfl rfl rfl rfl k
  ·exact gN 3 rfl rfl rfl rfl rfl rfl
 refine mV rfl ?_
 refine cp 5 (d := 16) (v := vb (((decide ((x0.length : Int) = 0)) || (decide (16 < (x0.length : Int)))) || (!(ku (ix x0 0))))) ?_ ?_
 ·intro S Q r
  cases a4 : ((decide ((x0.length : Int) = 0)) || (decide (16 < (x0.length : Int))))
  ·intro k
   have a0 := a4
   try simp only [qa] at a0
   refine ak rfl rfl (au rfl) (ak rfl rfl (qw rfl rfl (xd (i := 0) Tryz.underlying9 (by first | omega | (have hk := bn (by assumption) (by assumption); omega) | (have hk := tck (by assumption) (by assumption); omega) | (have hk := rtck (by assumption) (by assumption); omega) | (have hk := eck (by assumption) (by assumption) (by assumption); omega) | (have hk := tv (by assumption) (by assumption); omega) | (have hk := rtv (by assumption) (by assumption); omega)) (by first | omega | (have hk := bn (by assumption) (by assumption); omega) | (have hk := tck (by assumption) (by assumption); omega) | (have hk := rtck (by assumption) (by assumption); omega) | (have hk := eck (by assumption) (by assumption) (by assumption); omega) | (have hk := tv (by assumption) (by assumption); omega) | (have hk := rtv (by assumption) (by assumption); omega)))) ?_)
   have a6 := bl1 (x0 := (ix x0 0))  
   refine mq rfl rfl (vd rfl rfl (aq rfl bh) a6) (ak rfl rfl (jy rfl) ?_)
   exact gK rfl rfl rfl rfl rfl k
  ·exact gN 4 rfl rfl rfl rfl rfl rfl
 refine nS ?_
 refine dg hres rfl ?_ ?_ <;> clear hres <;> intro c hres <;> try simp only [qa] at c
 ·refine sR (mB rfl (nS ?_))
  exact rR hres rfl rfl rfl
 ·refine ay (ai (sR (mV rfl ?_)))
  obtain ⟨a7, a3, hres⟩ := dl hres
  have a2 := cr6 (x0 := x0) dv7 (by first | assumption | omega | (have := rv (by assumption) (by assumption); omega) | (rw [dm (by omega) (by omega)]; omega) | (simp only [List.length_cons, List.length_nil]; omega))
  rw [a3] at a2
  refine cL a2 rfl rfl (aq rfl (aq rfl bh)) (mV rfl (ab (cw rfl (pf Tryz.underlying9)) (bN nd rfl rfl (mV rfl (nS ?_)))))
  exact rR hres rfl rfl rfl

def RF144 (res : ct) (r : PV) : Prop := ct.t.R res r
theorem cv2 {x0 : List ct} {x1 : Int} {v0 : PV} (r0 : (tSl ct.t).R x0 v0) : ∃ r, FnR Tryz.prog 144 [v0, vi x1] r ∧ ct.t.R (iq x0 x1) r := by
 refine fnT (R := RF144) bn3 rfl fun res hres => ?_
 unfold iq at hres
 refine sR ?_
 refine dc (x := .agg [vs [], nilS]) (Mem.nil ⟨0, []⟩) rfl rfl (fun a6 a5 b2 a4 => ?_)
 refine nR (ab (ad5 (x := .agg [vs [], nilS]) rfl rfl) (nS (ah (sR (mV rfl (bN cy rfl rfl (mV rfl ?_)))))))
 refine cp 5 (d := 13) (v := vb ((decide (x1 < 0)) || (decide ((x0.length : Int) ≤ x1)))) ?_ ?_
 ·intro S Q r
  cases a8 : (decide (x1 < 0))
  ·intro k
   have a1 := a8
   try simp only [qa] at a1
   refine ak rfl rfl (au rfl) (ak rfl rfl (au rfl) (ak rfl rfl (cw rfl (cg r0 Tryz.underlying22 _)) (ak rfl rfl (az rfl rfl sw) ?_)))
   exact gK rfl rfl rfl rfl rfl k
  ·exact gN 4 rfl rfl rfl rfl rfl rfl
 refine nS ?_
 refine dg hres rfl ?_ ?_ <;> clear hres <;> intro c hres <;> try simp only [qa] at c
 ·refine sR (lR rfl rfl rfl ?_)
  refine db (k := 0) (v := .agg [vs [], nilS]) a4 rfl rfl rfl rfl (fun a9 a2 => ?_)
  replace a2 : Mem a9 [⟨.op a6 a5 0, 116, 2, [.agg [vs [], nilS]]⟩] := a2
  refine nS ?_
  subst hres
  exact dw (.cell rfl (ji (k := 0) a2 rfl rfl) .nil) (cf (TR.clo ct.t (show ct.t.R ({ Name := ([] : List UInt8), Fields := ([] : List bz) } : ct) (.agg [vs [], nilS]) from ⟨nilS, rfl, ii⟩))) (show ct.t.R ({ Name := ([] : List UInt8), Fields := ([] : List bz) } : ct) (.agg [vs [], nilS]) from ⟨nilS, rfl, ii⟩)
 ·refine ay (ai (sR (mV rfl (mV rfl ?_))))
  obtain ⟨a7, b1, a0⟩ := dk (i := x1) r0 (by first | omega | (have hk := bn (by assumption) (by assumption); omega) | (have hk := tck (by assumption) (by assumption); omega) | (have hk := rtck (by assumption) (by assumption); omega) | (have hk := eck (by assumption) (by assumption) (by assumption); omega) | (have hk := tv (by assumption) (by assumption); omega) | (have hk := rtv (by assumption) (by assumption); omega)) (by first | omega | (have hk := bn (by assumption) (by assumption); omega) | (have hk := tck (by assumption) (by assumption); omega) | (have hk := rtck (by assumption) (by assumption); omega) | (have hk := eck (by assumption) (by assumption) (by assumption); omega) | (have hk := tv (by assumption) (by assumption); omega) | (have hk := rtv (by assumption) (by assumption); omega))
  refine ab (bp rfl rfl b1) (lD a0 rfl rfl rfl ?_)
  refine db (k := 0) (v := a7) a4 rfl rfl rfl (TR.cnt ct.t a0) (fun b0 a3 => ?_)
  replace a3 : Mem b0 [⟨.op a6 a5 0, 116, 2, [a7]⟩] := a3
  refine nS ?_
  subst hres
  exact dw (.cell rfl (ji (k := 0) a3 rfl (TR.agg ct.t a0)) .nil) (cf (TR.clo ct.t a0)) a0

end Go.Proofs.YthdnpgpnodgicaaGreat
