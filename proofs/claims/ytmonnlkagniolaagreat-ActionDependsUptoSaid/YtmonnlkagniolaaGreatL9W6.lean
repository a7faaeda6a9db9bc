/-
 The code of each function does what its plain program says.
-/
import Derived.Test.YtmonnlkagniolaaGreatL9W5
set_option linter.unusedVariables false
set_option linter.unusedSimpArgs false
set_option maxRecDepth 100000
namespace Go.Proofs.YtmonnlkagniolaaGreat
open Go Go.Pb Go.RowKit
theorem cm1 (l : List Bool) : nk [l] = l := by
 simp [nk, jq, ix]
theorem cu5 (l : List (BitVec 32)) : lx [l] = l := by
 simp [lx, iv, ix]
theorem ch4 (l : List UInt8) : nl [l] = l := by
 simp [nl, jn, ix]
theorem sl1 {α : Type} {t : TR α} {l : α} {c : PV} (h : t.R l c) : (tSl t).R [l] (.fs true [c]) := qw (t := t) (l := [l]) ⟨h, trivial⟩ (by simp)
theorem jn_b {l : List Bool} {c : PV} (q : (tSl tB).R l c) (hl : l.length ≤ 1048576) : ∃ r k es, FnX Tryz.prog 185 [.fs true [c]] ⟨0, []⟩ r k ∧ Mem k [⟨r, 4, 1, es⟩] ∧ All2 tB.R l es ∧ isL r = true ∧ Wri r es := by
 obtain ⟨r, k, h1, a, es, h2, h3, h4, h5, h6, rfl⟩ := ce5 (x0 := [l]) (sl1 q) (Mem.nil ⟨0, []⟩) (by simpa using hl) (by simp)
 rw [cm1] at h3
 exact ⟨_, k, es, h1, h2, h3, h4, h6⟩
theorem jn_w {l : List (BitVec 32)} {c : PV} (q : (tSl dm).R l c) (hl : l.length ≤ 1048576) : ∃ r k es, FnX Tryz.prog 186 [.fs true [c]] ⟨0, []⟩ r k ∧ Mem k [⟨r, 89, 1, es⟩] ∧ All2 dm.R l es ∧ isL r = true ∧ Wri r es := by
 obtain ⟨r, k, h1, a, es, h2, h3, h4, h5, h6, rfl⟩ := bw3 (x0 := [l]) (sl1 q) (Mem.nil ⟨0, []⟩) (by simpa using hl) (by simp)
 rw [cu5] at h3
 exact ⟨_, k, es, h1, h2, h3, h4, h6⟩
theorem jn_y {l : List UInt8} {c : PV} (q : (tSl tU8).R l c) (hl : l.length ≤ 1048576) : ∃ r k es, FnX Tryz.prog 187 [.fs true [c]] ⟨0, []⟩ r k ∧ Mem k [⟨r, 5, 1, es⟩] ∧ All2 tU8.R l es ∧ isL r = true ∧ Wri r es := by
 obtain ⟨r, k, h1, a, es, h2, h3, h4, h5, h6, rfl⟩ := cd0 (x0 := [l]) (sl1 q) (Mem.nil ⟨0, []⟩) (by simpa using hl) (by simp)
 rw [ch4] at h3
 exact ⟨_, k, es, h1, h2, h3, h4, h6⟩
theorem bz8 {g : Ent} {X I R : List Ent} : (g :: (X ++ (I ++ R))).Perm (X ++ ((I ++ [g]) ++ R)) := by
 have e1 : X ++ ((I ++ [g]) ++ R) = (X ++ I) ++ g :: R := by simp
 have e2 : X ++ (I ++ R) = (X ++ I) ++ R := by simp
 rw [e1, e2]
 exact List.perm_middle.symm
def CQ (x0 : av) (R_ : List Ent) (r : PV) (h : Heap) : Prop := ∃ a b c d eb ef em ep I, r = .agg [a, b, c, d] ∧ OE h x0 a b c d eb ef em ep I R_
theorem cy8 {S : List Fr} {Q : Post} {x0 : av} {c1 : PV} (q1 : (tSl (tSl dm)).R x0.Fields c1) (hE : EB x0) {a c d : PV} {e1 e2 e3 : List PV} {i2 w2 i3 w3 : Nat} {R_ : List Ent} (na : isL a = true) (nc : isL c = true) (nd : isL d = true)
  (K : ∀ {h : Heap} {zv : PV} {ze : List PV} {I : List Ent}, Ns dm 89 x0.Fields ze I → isL zv = true → Wri zv ze → Mem h (⟨.op i3 w3 0, 46, 4, [.agg [a, zv, c, d]]⟩ :: ⟨zv, 43, 1, ze⟩ :: ⟨d, 5, 1, e3⟩ :: ⟨c, 89, 1, e2⟩ :: ⟨a, 4, 1, e1⟩ :: ⟨.op i2 w2 0, 46, 4, [.agg [nilS, nilS, nilS, nilS]]⟩ :: (I ++ R_)) → PX Tryz.prog 0 S Q [(3, .op i3 w3 0), (2, .op i2 w2 0)] h) :
  ∀ (m : Nat) {i : Int} {zv : PV} {ze : List PV} {I : List Ent} {h : Heap}, m = Int.toNat ((x0.Fields.length : Int) - i) → 0 ≤ i → i ≤ x0.Fields.length → Ns dm 89 (x0.Fields.take i.toNat) ze I → isL zv = true → Wri zv ze →
   Mem h (⟨.op i3 w3 0, 46, 4, [.agg [a, zv, c, d]]⟩ :: ⟨zv, 43, 1, ze⟩ :: ⟨d, 5, 1, e3⟩ :: ⟨c, 89, 1, e2⟩ :: ⟨a, 4, 1, e1⟩ :: ⟨.op i2 w2 0, 46, 4, [.agg [nilS, nilS, nilS, nilS]]⟩ :: (I ++ R_)) →
   RC Tryz.prog (.loop bx0) S Q [(22, vi i), (21, vi (x0.Fields.length : Int)), (20, c1), (3, .op i3 w3 0), (2, .op i2 w2 0)] h
 | 0, i, zv, ze, I, h, hm, h0, h1, hn, nz, wz, M => by
  refine ct ?_
  refine aq (ax (ab (bz rfl rfl cz) (bp (am (aq (cj rfl (fun hc => ?_) fun hc => ?_))))))
  ·simp only [decide_eq_true_eq] at hc; omega
  ·have e : i = x0.Fields.length := by omega
   subst e
   rw [Int.toNat_natCast, List.take_length] at hn
   exact ft (gk (ej (wP (K hn nz wz M) rfl)))
 | m + 1, i, zv, ze, I, h, hm, h0, h1, hn, nz, wz, M => by
  have hlt : i < (x0.Fields.length : Int) := by omega
  refine ct ?_
  refine aq (ax (ab (bz rfl rfl cz) (bp (am (aq (cj rfl (fun hc => ?_) fun hc => ?_))))))
  ·refine bb (am (aq (br ?_)))
   obtain ⟨g0, e0, q0⟩ := dt (i := i) q1 h0 hlt
   refine aq (ax (ab (bh rfl rfl e0) (ab (ca rfl (TR.cnt _ q0) (TR.agg _ q0)) (ab (au rfl) (bp (am (ah0 ?_)))))))
   refine rm_q (bf rfl) (rm_q (cg (k := 0) M rfl rfl (mk1 (fb (k := 1) M rfl nz).2)) (rm_q (au rfl) (rm_q (jh rfl (all_cons (TR.cnt _ q0) lw)) ?_)))
   obtain ⟨r1, k1, es, X1, N1, A1, L1, W1⟩ := jn_w q0 (pk hE.i h0 hlt)
   refine yv X1 N1 L1 A1.clo W1 M rfl rfl (ai (by simp [closed, closedL, TR.clo _ q0]) bg) (fun g a1 ng wg M1 => ?_)
   refine rm_q (jh rfl (all_cons (og (k := 0) M1 rfl ng) lw)) ?_
   have hzl := hn.len
   refine cs8 (k := 2) (es := ze) (news := [g]) M1 rfl rfl rfl nz wz (cb5 (.inr ⟨true, rfl⟩) (fun y hy => by rw [List.mem_singleton.1 hy]; exact og (k := 0) M1 rfl ng)) (by have hl := hn.len.1; have hf := hE.f; simp only [List.length_take] at hl; exact lr (by simp only [List.length_cons, List.length_nil]; omega) (by simp only [List.length_cons, List.length_nil]; omega)) (fun z' a0 nz' wz' M2 => ?_)
   refine rm_q (bf rfl) ?_
   refine bq2 (k := 1) (v := z') M2 rfl rfl rfl (fb (k := 2) M2 rfl nz').1 rfl (by simp) (fun a2 M3 => ?_)
   refine ca7 (de (am ?_))
   refine ax (ab (bz rfl rfl gm) (ab (au rfl) (bp (di ?_))))
   have M4 := Mem.perm (L := ⟨g, 89, 1, es⟩ :: ([⟨.op i3 w3 0, 46, 4, [.agg [a, z', c, d]]⟩, ⟨z', 43, 1, ze ++ [g]⟩, ⟨d, 5, 1, e3⟩, ⟨c, 89, 1, e2⟩, ⟨a, 4, 1, e1⟩, ⟨.op i2 w2 0, 46, 4, [.agg [nilS, nilS, nilS, nilS]]⟩] ++ (I ++ R_))) M3 bz8
   have hinc : wr (i + 1) = i + 1 := gb (by omega) (by have := hE.f; omega)
   refine pf ?_ (cy8 q1 hE na nc nd K m (i := i + 1) (zv := z') (ze := ze ++ [g]) (I := I ++ [(⟨g, 89, 1, es⟩ : Ent)]) (by omega) (by omega) (by omega) ?_ nz' wz' M4)
   ·exact fg (by show some (vi (wr (i + 1))) = _; rw [hinc]) (sB rfl)
   ·have e : x0.Fields.take (i + 1).toNat = x0.Fields.take i.toNat ++ [ix x0.Fields i] := by
     rw [ut h0 hlt, show (i + 1).toNat = i.toNat + 1 by omega, List.take_succ_eq_append_getElem]
    rw [e]
    exact hn.app1 ⟨rfl, rfl, rfl, A1, ng, by have := pk hE.i h0 hlt; omega, wg⟩
  ·simp only [decide_eq_false_iff_not] at hc; omega
theorem ai1 {x0 : av} {v0 : PV} {R_ : List Ent} {h_ : Heap} (r0 : av.t.R x0 v0) (hE : EB x0) (M_ : Mem h_ R_) : ∃ r k, FnX Tryz.prog 116 [v0] h_ r k ∧ CQ x0 R_ r k := by
 refine fnX bf2 (by simp) ?_
 obtain ⟨c0, c1, c2, c3, rfl, q0, q1, q2, q3⟩ := r0
 refine aq (ax ?_)
 refine ab (dq rfl rfl) ?_
 refine dz (x := .agg [nilS, nilS, nilS, nilS]) M_ rfl rfl (fun i2 w2 h2 M2 => ?_)
 refine bp (am ?_)
 refine aq (ah0 ?_)
 refine rm_q (cd rfl (mk1 (TR.agg _ q0))) (rm_q (ca rfl (TR.cnt _ q0) (TR.agg _ q0)) (rm_q (jh rfl (all_cons (TR.cnt _ q0) lw)) ?_))
 obtain ⟨r1, k1, e1, X1, N1, A1, L1, W1⟩ := jn_b q0 hE.v
 refine yv X1 N1 L1 A1.clo W1 M2 rfl rfl (ai (by simp [closed, closedL, TR.clo _ q0]) bg) (fun a h3 na wa M3 => ?_)
 refine rm_q (cd rfl (mk1 (TR.agg _ q2))) (rm_q (ca rfl (TR.cnt _ q2) (TR.agg _ q2)) (rm_q (jh rfl (all_cons (TR.cnt _ q2) lw)) ?_))
 obtain ⟨r2, k2, e2, X2, N2, A2, L2, W2⟩ := jn_w q2 hE.m
 refine yv X2 N2 L2 A2.clo W2 M3 rfl rfl (ai (by simp [closed, closedL, TR.clo _ q2]) bg) (fun c h4 nc wc M4 => ?_)
 refine rm_q (cd rfl (mk1 (TR.agg _ q3))) (rm_q (ca rfl (TR.cnt _ q3) (TR.agg _ q3)) (rm_q (jh rfl (all_cons (TR.cnt _ q3) lw)) ?_))
 obtain ⟨r3, k3, e3, X3, N3, A3, L3, W3⟩ := jn_y q3 hE.p
 refine yv X3 N3 L3 A3.clo W3 M4 rfl rfl (ai (by simp [closed, closedL, TR.clo _ q3]) bg) (fun d h5 nd wd M5 => ?_)
 refine rm_q (v := .agg [a, nilS, c, d]) (fu (cs := [a, nilS, c, d]) rfl (by simp only [buildV, (fb (k := 2) M5 rfl na).1, (fb (k := 1) M5 rfl nc).1, (fb (k := 0) M5 rfl nd).1]; rfl)) ?_
 refine br6 (x := .agg [nilS, nilS, nilS, nilS]) M5 rfl rfl (fun i3 w3 h6 M6 => ?_)
 refine bq3 (k := 0) (v := .agg [a, nilS, c, d]) M6 rfl rfl rfl rfl (fun h7 M7 => ?_)
 replace M7 : Mem h7 (⟨.op i3 w3 0, 46, 4, [.agg [a, nilS, c, d]]⟩ :: ⟨d, 5, 1, e3⟩ :: ⟨c, 89, 1, e2⟩ :: ⟨a, 4, 1, e1⟩ :: ⟨.op i2 w2 0, 46, 4, [.agg [nilS, nilS, nilS, nilS]]⟩ :: R_) := M7
 refine ca7 ?_
 refine am (aq (aq (ax ?_)))
 refine ab (cd rfl (mk1 (TR.agg _ q1))) (ab (ca rfl (TR.cnt _ q1) (TR.agg _ q1)) (ab (cy rfl (cm q1 Tryz.underlying42 _)) (ab (au rfl) ?_)))
 refine bp (am (br ?_))
 have M8 := nm (sz := 1) (es := []) M7 43 (.inl ⟨none, rfl, rfl⟩) (by simp)
 refine wC (cy8 (x0 := x0) q1 hE na nc nd ?_ x0.Fields.length (i := 0) (zv := nilS) (ze := []) (I := []) (h := h7) (by omega) (by omega) (by omega) trivial rfl (.inl rfl) (Mem.front (k := 1) M8 rfl)) rfl
 ·intro h zv ze I hn nz wz M
  refine gw (am ?_)
  refine aq (ax ?_)
  refine ab (iw (k := 0) M rfl rfl rfl) ?_
  refine cw (k := 5) (v := .agg [a, zv, c, d]) M rfl rfl rfl rfl (fun h' M' => ?_)
  refine bp (am ?_)
  refine ji (.cell rfl (dn (k := 5) M' rfl rfl) .nil) ⟨a, zv, c, d, _, _, _, _, I, rfl, ?_, A1, hn, A2, A3, na, nz, nc, nd, wa, wz, wc⟩
  exact Mem.front (k := 3) (Mem.front (k := 2) (Mem.front (k := 2) (Mem.front (k := 1) (Mem.sub M' (.cons _ (.cons_cons _ (.cons_cons _ (.cons_cons _ (.cons_cons _ (.cons _ (List.Sublist.refl _)))))))) rfl) rfl) rfl) rfl
theorem cg6 {x0 : av} {v0 : PV} (r0 : av.t.R x0 v0) (hE : EB x0) : ∃ r, FnR Tryz.prog 116 [v0] r ∧ av.t.R (vj x0) r := by
 obtain ⟨r, k, X, a, b, c, d, eb, ef, em, ep, I, rfl, H⟩ := ai1 r0 hE (Mem.nil ⟨0, []⟩)
 obtain ⟨d', hd, hr⟩ := H.deep hE
 exact ⟨d', FnR.of_X X hd, hr⟩

def RF233 (res : co) (r : PV) : Prop := co.t.R res r
theorem ck2 {x0 : List co} {x1 : Int} {v0 : PV} (r0 : (tSl co.t).R x0 v0) : ∃ r, FnR Tryz.prog 233 [v0, vi x1] r ∧ co.t.R (ot x0 x1) r := by
 refine fnT (R := RF233) bi6 rfl fun res s => ?_
 unfold ot at s
 refine sR ?_
 refine dz (x := .agg [vs [], nilS]) (Mem.nil ⟨0, []⟩) rfl rfl (fun a7 a6 b2 a4 => ?_)
 refine nR (ab (am6 (x := .agg [vs [], nilS]) rfl rfl) (nS (aq (sR (mV rfl (bN cz rfl rfl (mV rfl ?_)))))))
 refine cn 5 (d := 13) (v := vb ((decide (x1 < 0)) || (decide ((x0.length : Int) ≤ x1)))) ?_ ?_
 ·intro S Q r
  cases a5 : (decide (x1 < 0))
  ·intro k
   have a1 := a5
   try simp only [qa] at a1
   refine ah rfl rfl (au rfl) (ah rfl rfl (au rfl) (ah rfl rfl (cy rfl (cm r0 Tryz.underlying22 _)) (ah rfl rfl (bz rfl rfl mc) ?_)))
   exact gK rfl rfl rfl rfl rfl k
  ·exact gN 4 rfl rfl rfl rfl rfl rfl
 refine nS ?_
 refine ci s rfl ?_ ?_ <;> clear s <;> intro c s <;> try simp only [qa] at c
 ·refine sR (lR rfl rfl rfl ?_)
  refine cw (k := 0) (v := .agg [vs [], nilS]) a4 rfl rfl rfl rfl (fun b1 a3 => ?_)
  replace a3 : Mem b1 [⟨.op a7 a6 0, 92, 2, [.agg [vs [], nilS]]⟩] := a3
  refine nS ?_
  subst s
  exact fy (.cell rfl (dn (k := 0) a3 rfl rfl) .nil) (cv (TR.clo co.t (show co.t.R ({ Name := ([] : List UInt8), Fields := ([] : List ay) } : co) (.agg [vs [], nilS]) from ⟨nilS, rfl, ro⟩))) (show co.t.R ({ Name := ([] : List UInt8), Fields := ([] : List ay) } : co) (.agg [vs [], nilS]) from ⟨nilS, rfl, ro⟩)
 ·refine bb (am (sR (mV rfl (mV rfl ?_))))
  obtain ⟨a8, a9, a0⟩ := dt (i := x1) r0 (by omega) (by omega)
  refine ab (bh rfl rfl a9) (lD a0 rfl rfl rfl ?_)
  refine cw (k := 0) (v := a8) a4 rfl rfl rfl (TR.cnt co.t a0) (fun b0 a2 => ?_)
  replace a2 : Mem b0 [⟨.op a7 a6 0, 92, 2, [a8]⟩] := a2
  refine nS ?_
  subst s
  exact fy (.cell rfl (dn (k := 0) a2 rfl (TR.agg co.t a0)) .nil) (cv (TR.clo co.t a0)) a0

def RF203 (res : (List ay)) (r : PV) : Prop := (tSl ay.t).R res r
theorem ck6 {x0 : ae} {x1 : Int} {v0 : PV} (r0 : ae.t.R x0 v0) : ∃ r, FnR Tryz.prog 203 [v0, vi x1] r ∧ (tSl ay.t).R (tr x0 x1) r := by
 refine fnT (R := RF203) be4 rfl fun res s => ?_
 unfold tr at s
 refine sR (ab (dq rfl (TR.cnt ae.t r0)) (ab (v := nilS) (au rfl) (nS (aq (sR (mV rfl (bN (fe (b := -1)) rfl rfl (nS ?_))))))))
 refine ci s rfl ?_ ?_ <;> clear s <;> intro c s <;> try simp only [qa] at c
 ·refine sR ?_
  obtain ⟨b1, a6, a1⟩ := ae.g_Metadata r0
  refine fA rfl a6 (lD a1 rfl rfl rfl (mV rfl (nS ?_)))
  exact rR s rfl (TR.clo (tSl ay.t) a1) a1
 ·refine bb (am (sR ?_))
  obtain ⟨b0, a7, a0⟩ := ae.g_Headers r0
  refine fA rfl a7 (lD a0 rfl rfl rfl (mV rfl ?_))
  obtain ⟨b2, a2, s⟩ := bn s
  obtain ⟨a9, a8, a4⟩ := ck2 (x1 := x1) a0 
  rw [a2] at a4
  refine cL a8 rfl rfl (ai (TR.clo (tSl co.t) a0) (ai rfl bg)) ?_
  obtain ⟨b3, a5, a3⟩ := co.g_Fields a4
  refine ab (ag1 rfl a5) (mV rfl (nS ?_))
  exact rR s rfl (TR.clo (tSl ay.t) a3) a3

def RF202 (res : ay) (r : PV) : Prop := ay.t.R res r
theorem cm9 {x0 : List ay} {x1 : Int} {v0 : PV} (r0 : (tSl ay.t).R x0 v0) : ∃ r, FnR Tryz.prog 202 [v0, vi x1] r ∧ ay.t.R (ik x0 x1) r := by
 refine fnT (R := RF202) bi1 rfl fun res s => ?_
 unfold ik at s
 refine sR ?_
 refine dz (x := .agg [vs [], vi 0]) (Mem.nil ⟨0, []⟩) rfl rfl (fun a7 a6 b2 a4 => ?_)
 refine nR (ab (am6 (x := .agg [vs [], vi 0]) rfl rfl) (nS (aq (sR (mV rfl (bN cz rfl rfl (mV rfl ?_)))))))
 refine cn 5 (d := 13) (v := vb ((decide (x1 < 0)) || (decide ((x0.length : Int) ≤ x1)))) ?_ ?_
 ·intro S Q r
  cases a5 : (decide (x1 < 0))
  ·intro k
   have a1 := a5
   try simp only [qa] at a1
   refine ah rfl rfl (au rfl) (ah rfl rfl (au rfl) (ah rfl rfl (cy rfl (cm r0 Tryz.underlying23 _)) (ah rfl rfl (bz rfl rfl mc) ?_)))
   exact gK rfl rfl rfl rfl rfl k
  ·exact gN 4 rfl rfl rfl rfl rfl rfl
 refine nS ?_
 refine ci s rfl ?_ ?_ <;> clear s <;> intro c s <;> try simp only [qa] at c
 ·refine sR (lR rfl rfl rfl ?_)
  refine cw (k := 0) (v := .agg [vs [], vi 0]) a4 rfl rfl rfl rfl (fun b1 a3 => ?_)
  replace a3 : Mem b1 [⟨.op a7 a6 0, 166, 2, [.agg [vs [], vi 0]]⟩] := a3
  refine nS ?_
  subst s
  exact fy (.cell rfl (dn (k := 0) a3 rfl rfl) .nil) (cv (TR.clo ay.t (show ay.t.R ({ Name := ([] : List UInt8), Width := 0 } : ay) (.agg [vs [], vi 0]) from rfl))) (show ay.t.R ({ Name := ([] : List UInt8), Width := 0 } : ay) (.agg [vs [], vi 0]) from rfl)
 ·refine bb (am (sR (mV rfl (mV rfl ?_))))
  obtain ⟨a8, a9, a0⟩ := dt (i := x1) r0 (by omega) (by omega)
  refine ab (bh rfl rfl a9) (lD a0 rfl rfl rfl ?_)
  refine cw (k := 0) (v := a8) a4 rfl rfl rfl (TR.cnt ay.t a0) (fun b0 a2 => ?_)
  replace a2 : Mem b0 [⟨.op a7 a6 0, 166, 2, [a8]⟩] := a2
  refine nS ?_
  subst s
  exact fy (.cell rfl (dn (k := 0) a2 rfl (TR.agg ay.t a0)) .nil) (cv (TR.clo ay.t a0)) a0

def RF136 (res : Int) (r : PV) : Prop := r = vi res
theorem cg5 {x0 : ae} {x1 : aa} {v0 v1 : PV} (r0 : ae.t.R x0 v0) (r1 : aa.t.R x1 v1) : FnR Tryz.prog 136 [v0, v1] (vi (ju x0 x1)) := by
 refine fnS (R := RF136) bh3 (fun _ h => h) rfl fun res s => ?_
 unfold ju at s
 refine sR (ab (dq rfl (TR.cnt ae.t r0)) (ab (dq rfl (TR.cnt aa.t r1)) (mI rfl (nR (lD r0 rfl rfl rfl (fL rfl (aa.g_Header r1) rfl rfl ?_))))))
 obtain ⟨b1, a1, s⟩ := bn s
 obtain ⟨b2, a7, a0⟩ := ck6 (x1 := x1.Header) r0 
 rw [a1] at a0
 refine cL a7 rfl rfl (ai (TR.clo ae.t r0) (ai rfl bg)) (fL rfl (aa.g_Field r1) rfl rfl ?_)
 obtain ⟨a8, a4, s⟩ := bn s
 obtain ⟨b0, a6, a2⟩ := cm9 (x1 := x1.Field) a0 
 rw [a4] at a2
 refine cL a6 rfl rfl (ai (TR.clo (tSl ay.t) a0) (ai rfl bg)) (ab (ag1 rfl (ay.g_Width a2)) (mV rfl (nS (aq (sR (mV rfl ?_))))))
 obtain ⟨a9, a3, s⟩ := bn s
 have a5 := lc (x0 := a8.Width)  
 rw [a3] at a5
 refine cL a5 rfl rfl (ai rfl bg) (ab (bz (a := bm a9) (b := bm 0#32) rfl rfl bs3) (nS ?_))
 refine ci s rfl ?_ ?_ <;> clear s <;> intro c s <;> try simp only [qa] at c
 ·refine sR (mI rfl (nS ?_))
  exact rR s rfl rfl rfl
 ·refine bb (am (sR (mV rfl (mV rfl (nS ?_)))))
  exact rR s rfl rfl rfl

def RF270 (res : Bool) (r : PV) : Prop := r = vb res
theorem af0 {x0 : List (BitVec 32)} {x1 : Int} {v0 : PV} (r0 : (tSl dm).R x0 v0) : FnR Tryz.prog 270 [v0, vi x1] (vb (gj x0 x1)) := by
 refine fnS (R := RF270) bh8 (fun _ h => h) rfl fun res s => ?_
 unfold gj at s
 refine sR (mB rfl (nR (mV rfl (bN mc rfl rfl (mV rfl ?_)))))
 refine cn 5 (d := 12) (v := vb ((decide (0 ≤ x1)) && (decide (x1 < (x0.length : Int))))) ?_ ?_
 ·intro S Q r
  cases a1 : (decide (0 ≤ x1))
  ·exact gN 4 rfl rfl rfl rfl rfl rfl
  ·intro k
   have a0 := a1
   try simp only [qa] at a0
   refine ah rfl rfl (au rfl) (ah rfl rfl (au rfl) (ah rfl rfl (cy rfl (cm r0 Tryz.underlying43 _)) (ah rfl rfl (bz rfl rfl cz) ?_)))
   exact gK rfl rfl rfl rfl rfl k
 refine mV rfl (nS ?_)
 exact rR s rfl rfl rfl

def RF271 (res : (List (BitVec 32))) (r : PV) : Prop := (tSl dm).R res r
theorem ct8 {x0 : List (List (BitVec 32))} {x1 : Int} {v0 : PV} (r0 : (tSl (tSl dm)).R x0 v0) : ∃ r, FnR Tryz.prog 271 [v0, vi x1] r ∧ (tSl dm).R (ib x0 x1) r := by
 refine fnT (R := RF271) ao1 rfl fun res s => ?_
 unfold ib at s
 refine sR (ab (v := nilS) (au rfl) (nR (ab (v := nilS) (au rfl) (nS (aq (sR (mV rfl (bN cz rfl rfl ?_))))))))
 refine mV rfl ?_
 refine cn 5 (d := 13) (v := vb ((decide (x1 < 0)) || (decide ((x0.length : Int) ≤ x1)))) ?_ ?_
 ·intro S Q r
  cases a2 : (decide (x1 < 0))
  ·intro k
   have a1 := a2
   try simp only [qa] at a1
   refine ah rfl rfl (au rfl) (ah rfl rfl (au rfl) (ah rfl rfl (cy rfl (cm r0 Tryz.underlying42 _)) (ah rfl rfl (bz rfl rfl mc) ?_)))
   exact gK rfl rfl rfl rfl rfl k
  ·exact gN 4 rfl rfl rfl rfl rfl rfl
 refine nS ?_
 refine ci s rfl ?_ ?_ <;> clear s <;> intro c s <;> try simp only [qa] at c
 ·refine sR (mV rfl (mV rfl (nS ?_)))
  exact rR s rfl (TR.clo (tSl dm) ro) ro
 ·refine bb (am (sR (mV rfl (mV rfl ?_))))
  obtain ⟨a4, a3, a0⟩ := dt (i := x1) r0 (by omega) (by omega)
  refine ab (bh rfl rfl a3) (lD a0 rfl rfl rfl (mV rfl (nS ?_)))
  exact rR s rfl (TR.clo (tSl dm) a0) a0

def RF272 (res : Bool) (r : PV) : Prop := r = vb res
theorem bk6 {x0 : List Bool} {x1 : Int} {v0 : PV} (r0 : (tSl tB).R x0 v0) : FnR Tryz.prog 272 [v0, vi x1] (vb (nf x0 x1)) := by
 refine fnS (R := RF272) bb7 (fun _ h => h) rfl fun res s => ?_
 unfold nf at s
 refine sR (mB rfl (nR (mB rfl (nS (aq (sR (mV rfl (bN cz rfl rfl ?_))))))))
 refine mV rfl ?_
 refine cn 5 (d := 13) (v := vb ((decide (x1 < 0)) || (decide ((x0.length : Int) ≤ x1)))) ?_ ?_
 ·intro S Q r
  cases a1 : (decide (x1 < 0))
  ·intro k
   have a0 := a1
   try simp only [qa] at a0
   refine ah rfl rfl (au rfl) (ah rfl rfl (au rfl) (ah rfl rfl (cy rfl (cm r0 Tryz.underlying41 _)) (ah rfl rfl (bz rfl rfl mc) ?_)))
   exact gK rfl rfl rfl rfl rfl k
  ·exact gN 4 rfl rfl rfl rfl rfl rfl
 refine nS ?_
 refine ci s rfl ?_ ?_ <;> clear s <;> intro c s <;> try simp only [qa] at c
 ·refine sR (mV rfl (mV rfl (nS ?_)))
  exact rR s rfl rfl rfl
 ·refine bb (am (sR (mV rfl (mV rfl (ab (bh rfl rfl (slB r0 (by omega) (by omega))) (lR rfl rfl rfl (mV rfl (nS ?_))))))))
  exact rR s rfl rfl rfl

def RF227 (res : (List (BitVec 32)) × Bool) (r : PV) : Prop := ∃ c0, r = .tup [c0, vb res.2] ∧ (tSl dm).R res.1 c0
theorem cs5 {x0 : av} {x1 : aa} {v0 v1 : PV} (r0 : av.t.R x0 v0) (r1 : aa.t.R x1 v1) : ∃ c0, FnR Tryz.prog 227 [v0, v1] (.tup [c0, vb ((fm x0 x1).2)]) ∧ (tSl dm).R (fm x0 x1).1 c0 := by
 obtain ⟨res, s⟩ : ∃ res, fm x0 x1 = res := ⟨_, rfl⟩
 suffices H : RC Tryz.prog cy6 [] (QR Tryz.prog [(4, none), (5, none)] (RF227 res)) (argE 0 [v0, v1]) ⟨0, []⟩ by
  rw [s]
  obtain ⟨r, h1, c0, rfl, b9⟩ := fnE ap9 (by simp) H
  exact ⟨c0, h1, b9⟩
 unfold fm at s
 refine sR (ab (dq rfl (TR.cnt av.t r0)) (ab (dq rfl (TR.cnt aa.t r1)) (ab (v := nilS) (au rfl) (mB rfl (nS (aq (sR (lD r1 rfl rfl rfl ?_))))))))
 refine fL rfl (aa.g_Field r1) rfl rfl (ab (v := .agg [vi (-1), vi x1.Field]) (fu (cs := [vi (-1), vi x1.Field]) rfl rfl) (bN (aa.eql_87 r1 (show aa.t.R ({ Header := (-1), Field := x1.Field } : aa) (.agg [vi (-1), vi x1.Field]) from rfl)) rfl rfl (nS ?_)))
 refine ci s rfl ?_ ?_ <;> clear s <;> intro c s <;> try simp only [qa] at c
 ·refine sR (gL (av.g_Meta r0) rfl rfl rfl fun b5 a7 => (gL (av.g_Meta r0) rfl rfl rfl fun c2 a2 => (fL rfl (aa.g_Field r1) rfl rfl ?_)))
  obtain ⟨c3, a4, s⟩ := bn s
  have a8 := af0 (x1 := x1.Field) a2 
  rw [a4] at a8
  refine cL a8 rfl rfl (ai (TR.clo (tSl dm) a2) (ai rfl bg)) (mV rfl (mV rfl (nS ?_)))
  subst s
  exact fy (.tmp rfl (.tmp rfl .nil)) (cv (show closed (.tup _) = true from (ai (TR.clo (tSl dm) a7) (ai rfl bg)))) ⟨b5, rfl, a7⟩
 ·refine bb (am (sR (gL (av.g_Fields r0) rfl rfl rfl fun c1 a5 => (fL rfl (aa.g_Header r1) rfl rfl ?_))))
  obtain ⟨b7, a3, s⟩ := bn s
  obtain ⟨b4, b6, a0⟩ := ct8 (x1 := x1.Header) a5 
  rw [a3] at a0
  refine cL b6 rfl rfl (ai (TR.clo (tSl (tSl dm)) a5) (ai rfl bg)) (mV rfl (nR (mV rfl (gL (av.g_Valid r0) rfl rfl rfl fun b8 a9 => (fL rfl (aa.g_Header r1) rfl rfl ?_)))))
  obtain ⟨b0, a6, s⟩ := bn s
  have b1 := bk6 (x1 := x1.Header) a9 
  rw [a6] at b1
  refine cL b1 rfl rfl (ai (TR.clo (tSl tB) a9) (ai rfl bg)) (mV rfl ?_)
  refine cn 5 (d := 35) (v := vb (b0 && (gj b7 x1.Field))) ?_ ?_
  ·intro S Q r
   cases b2 : b0
   ·exact gN 4 rfl rfl rfl rfl rfl rfl
   ·intro k
    have a1 := b2
    try simp only [qa] at a1
    refine ah rfl rfl (au rfl) (ah rfl rfl (cd rfl (aa.g_Field r1)) (ah rfl rfl (ca rfl rfl rfl) ?_))
    have b3 := af0 (x1 := x1.Field) a0 
    refine mb rfl rfl (si rfl rfl (ai (TR.clo (tSl dm) a0) (ai rfl bg)) b3) ?_
    exact gK rfl rfl rfl rfl rfl k
  refine mV rfl (mV rfl (nS ?_))
  subst s
  exact fy (.tmp rfl (.tmp rfl .nil)) (cv (show closed (.tup _) = true from (ai (TR.clo (tSl dm) a0) (ai rfl bg)))) ⟨b4, rfl, a0⟩

section
variable {h : Heap} {e : av} {a b c d : PV} {eb ef em ep : List PV} {I R : List Ent}
theorem cw8 {L : List Ent} {k : Nat} (M : Mem h L) (hk : L[k]? = some ⟨b, 43, 1, ef⟩) (nb : isL b = true) (wb : Wri b ef) (ha : ∀ x ∈ ef, x.isAgg = false) {i : Int} :
  FnX Tryz.prog 271 [b, vi i] h (if 0 ≤ i ∧ i < (ef.length : Int) then ef.getD i.toNat nilS else nilS) h := by
 obtain ⟨r, h', X, rfl, rfl⟩ := fnX (P := Tryz.prog) (h := h) ao1 (args := [b, vi i]) (Φ := fun r k => r = (if 0 ≤ i ∧ i < (ef.length : Int) then ef.getD i.toNat nilS else nilS) ∧ k = h) (by simp) (by
  refine sR (ab (v := nilS) (au rfl) (nR (ab (v := nilS) (au rfl) (nS ?_))))
  refine aq (sR (mV rfl (bN cz rfl rfl (mV rfl ?_))))
  refine cn 5 (d := 13) (v := vb ((decide (i < 0)) || (decide ((ef.length : Int) ≤ i)))) ?_ ?_
  ·intro S Q r
   cases a0 : (decide (i < 0))
   ·intro k
    refine ah rfl rfl (au rfl) (ah rfl rfl (au rfl) (ah rfl rfl (cy rfl (be8 (M.at hk) Tryz.underlying42 nb _)) (ah rfl rfl (bz rfl rfl mc) ?_)))
    exact gK rfl rfl rfl rfl rfl k
   ·exact gN 4 rfl rfl rfl rfl rfl rfl
  refine nS (cj rfl (fun hc => ?_) fun hc => ?_)
  ·simp only [Bool.or_eq_true, decide_eq_true_eq] at hc
   refine sR (mV rfl (mV rfl (nS ?_)))
   exact ji (.tmp rfl .nil) ⟨by rw [if_neg (by omega)]; rfl, rfl⟩
  ·simp only [Bool.or_eq_false_iff, decide_eq_false_iff_not] at hc
   refine bb (am (sR (mV rfl (mV rfl ?_))))
   have hlt : i.toNat < ef.length := by omega
   rcases wb with rfl | ⟨id, ver, n, rfl⟩
   ·simp at hlt
   have hn := qr M hk
   refine ab (bh rfl rfl (qg 1 (i := i) (by omega) (by omega))) ?_
   refine ab (ou M rfl hk (List.getElem?_eq_getElem hlt) (ha _ (List.getElem_mem hlt))) (mV rfl (nS ?_))
   exact ji (.tmp rfl .nil) ⟨by rw [if_pos (by omega), List.getD_eq_getElem?_getD, List.getElem?_eq_getElem hlt]; rfl, rfl⟩)
 exact X
theorem OE.aggs (H : OE h e a b c d eb ef em ep I R) : ∀ x ∈ ef, x.isAgg = false := by
 intro x hx
 obtain ⟨k, hk, rfl⟩ := List.getElem_of_mem hx
 have hl := H.f.len.1
 obtain ⟨v, es, g1, g2, g3, g4, g5, g6, g7⟩ := H.inner (i := (k : Int)) (by omega) (by omega)
 rw [Int.toNat_natCast, List.getElem?_eq_getElem hk, Option.some.injEq] at g1
 rw [g1]
 exact (fb H.M g3 g5).2
theorem OE.elv_ok (H : OE h e a b c d eb ef em ep I R) (r : aa) (hr : ¬r.Header = -1) : ∃ d', Deep Tryz.prog h (elv c ef r) d' ∧ (tSl dm).R (ib e.Fields r.Header) d' := by
 unfold elv ib
 rw [if_neg hr]
 have hl := H.f.len.1
 by_cases hi : 0 ≤ r.Header ∧ r.Header < (ef.length : Int)
 ·rw [if_pos hi, if_neg (by simp; omega)]
  obtain ⟨v, es, g1, g2, g3, g4, g5, g6, g7⟩ := H.inner (i := r.Header) hi.1 (by omega)
  rw [List.getD_eq_getElem?_getD, g1]
  exact oq (t := dm) H.M g3 g5 g4 (by omega)
 ·rw [if_neg hi, if_pos (by simp; omega)]
  exact ⟨nilS, cv rfl, ro⟩
theorem dp2 (H : OE h e a b c d eb ef em ep I R) (hE : EB e) {x1 : aa} {v1 : PV} (r1 : aa.t.R x1 v1) :
  FnX Tryz.prog 227 [.agg [a, b, c, d], v1] h (.tup [elv c ef x1, vb (fm e x1).2]) h := by
 obtain ⟨r, h', X, rfl, rfl⟩ := fnX (P := Tryz.prog) (h := h) ap9 (args := [.agg [a, b, c, d], v1]) (Φ := fun r k => r = .tup [elv c ef x1, vb (fm e x1).2] ∧ k = h) (by simp) (by
  refine sR (ab (dq rfl rfl) (ab (dq rfl (TR.cnt aa.t r1)) (ab (v := nilS) (au rfl) (mB rfl (nS ?_)))))
  refine aq (sR (lD r1 rfl rfl rfl (fL rfl (aa.g_Field r1) rfl rfl ?_)))
  refine ab (v := .agg [vi (-1), vi x1.Field]) (fu (cs := [vi (-1), vi x1.Field]) rfl rfl) (bN (aa.eql_87 r1 (show aa.t.R ({ Header := (-1), Field := x1.Field } : aa) (.agg [vi (-1), vi x1.Field]) from rfl)) rfl rfl ?_)
  have ec : (x1 = ({ Header := -1, Field := x1.Field } : aa)) ↔ x1.Header = -1 := by
   cases x1; simp [aa.mk.injEq]
  obtain ⟨d0, a3, s0⟩ := oq (P := Tryz.prog) (t := tB) H.M (k := 0) rfl H.na H.v (by have := hE.v; omega)
  obtain ⟨d2, a1, s2⟩ := oq (P := Tryz.prog) (t := dm) H.M (k := 2) rfl H.nc H.m (by have := hE.m; omega)
  have g2 : fieldR 2 1 false (.agg [a, b, c, d]) = some c := mk1 (fb H.M (k := 2) rfl H.nc).2
  have g1 : fieldR 1 1 false (.agg [a, b, c, d]) = some b := mk1 (fb H.M (k := 1) rfl H.nb).2
  have g0 : fieldR 0 1 false (.agg [a, b, c, d]) = some a := mk1 (fb H.M (k := 0) rfl H.na).2
  refine nS (cj rfl (fun hc => ?_) fun hc => ?_)
  ·simp only [decide_eq_true_eq, ec] at hc
   refine sR (fA rfl g2 (lR rfl (og H.M (k := 2) rfl H.nc) (fb H.M (k := 2) rfl H.nc).2 (fA rfl g2 (lR rfl (og H.M (k := 2) rfl H.nc) (fb H.M (k := 2) rfl H.nc).2 (fL rfl (aa.g_Field r1) rfl rfl ?_)))))
   refine rv (sg rfl rfl (kt a1 (kt (cv rfl) sn)) (af0 (x1 := x1.Field) s2) rfl) (mV rfl (mV rfl (nS ?_)))
   refine ji (.tmp rfl (.tmp rfl .nil)) ⟨?_, rfl⟩
   have e2 : (fm e x1).2 = gj e.Metd x1.Field := by
    unfold fm
    simp only [LET]
    rw [if_pos (by simp only [decide_eq_true_eq, ec]; exact hc)]
   rw [e2]
   unfold elv
   rw [if_pos hc]
   rfl
  ·simp only [decide_eq_false_iff_not, ec] at hc
   obtain ⟨d1, a2, s1⟩ := H.elv_ok x1 hc
   have e1 : (if 0 ≤ x1.Header ∧ x1.Header < (ef.length : Int) then ef.getD x1.Header.toNat nilS else nilS) = elv c ef x1 := by unfold elv; rw [if_neg hc]
   have f1 := cw8 H.M (k := 1) rfl H.nb H.wb H.aggs (i := x1.Header)
   rw [e1] at f1
   refine bb (am (aq (dv ?_)))
   refine bw (ab (cd rfl g1) (bv (bw (ab (ca rfl (og H.M (k := 1) rfl H.nb) (fb H.M (k := 1) rfl H.nb).2) (bv ?_)))))
   refine bw (ab (cd rfl (aa.g_Header r1)) (bv (bw (ab (ca rfl rfl rfl) (bv ?_)))))
   refine fx rfl rfl f1 ?_
   refine bw (ab (au rfl) (bv (je ?_)))
   refine am (sR (ab (au rfl) ?_))
   refine ab (cd rfl g0) (ab (ca rfl (og H.M (k := 0) rfl H.na) (fb H.M (k := 0) rfl H.na).2) (fL rfl (aa.g_Header r1) rfl rfl ?_))
   refine rv (sg rfl rfl (kt a3 (kt (cv rfl) sn)) (bk6 (x1 := x1.Header) s0) rfl) (mV rfl ?_)
   refine cn 5 (d := 35) (v := vb ((nf e.Valid x1.Header) && (gj (ib e.Fields x1.Header) x1.Field))) ?_ ?_
   ·intro S Q r
    cases a0 : (nf e.Valid x1.Header)
    ·exact gN 4 rfl rfl rfl rfl rfl rfl
    ·intro k
     refine ah rfl rfl (au rfl) (ah rfl rfl (cd rfl (aa.g_Field r1)) (ah rfl rfl (ca rfl rfl rfl) (mb rfl rfl (sg rfl rfl (kt a2 (kt (cv rfl) sn)) (af0 (x1 := x1.Field) s1) rfl) ?_)))
     exact gK rfl rfl rfl rfl rfl k
   refine mV rfl (mV rfl (nS ?_))
   refine ji (.tmp rfl (.tmp rfl .nil)) ⟨?_, rfl⟩
   have e2 : (fm e x1).2 = ((nf e.Valid x1.Header) && (gj (ib e.Fields x1.Header) x1.Field)) := by
    unfold fm
    simp only [LET]
    rw [if_neg (by simp only [decide_eq_true_eq, ec]; exact hc)]
   rw [e2]
   rfl)
 exact X
end
theorem vm {S : List Fr} {E : TEnv} {h : Heap} {e : av} {a b c d : PV} {eb ef em ep : List PV} {I R : List Ent} {i8 w8 i9 w9 dl t8 t9 : Nat} {x : PV} (H : OE h e a b c d eb ef em ep I (⟨.op i9 w9 0, 46, 4, [.agg [a, b, c, d]]⟩ :: ⟨.op i8 w8 0, 46, 4, [x]⟩ :: R)) (hE : EB e)
  (h9 : Pb.look t9 E = some (.op i9 w9 0)) (h8 : Pb.look t8 E = some (.op i8 w8 0)) (hd : Nat.beq t8 dl = false) : RC Tryz.prog (.seq (.region false [⟨some dl, .load 4 true (.tmp t9), none, false⟩, ⟨none, .store 4 (.tmp t8) (.tmp dl), none, false⟩]) .ret) S (QR Tryz.prog [(t8, some (4, true))] (av.t.R e)) E h := by
 have e8 : evE ((dl, .agg [a, b, c, d]) :: E) (.tmp t8) = some (.op i8 w8 0) := by
  have : Nat.beq t8 dl = false := hd
  simp only [evE, Pb.look, this, cond_false]; exact h8
 have a0 : Pb.look t8 ((dl, .agg [a, b, c, d]) :: E) = some (.op i8 w8 0) := e8
 have ed : evE ((dl, .agg [a, b, c, d]) :: E) (.tmp dl) = some (.agg [a, b, c, d]) := by simp [evE, Pb.look]
 refine sR (ab (iw (k := 0) H.pull h9 rfl rfl) ?_)
 have M := H.pull
 have hk : (⟨a, 4, 1, eb⟩ :: ⟨b, 43, 1, ef⟩ :: ⟨c, 89, 1, em⟩ :: ⟨d, 5, 1, ep⟩ :: (I ++ (⟨.op i9 w9 0, 46, 4, [.agg [a, b, c, d]]⟩ :: ⟨.op i8 w8 0, 46, 4, [x]⟩ :: R)))[I.length + 5]? = some (⟨.op i8 w8 0, 46, 4, [x]⟩ : Ent) := by
  simp only [List.getElem?_cons_succ]
  rw [List.getElem?_append_right (by omega), show I.length + 1 - I.length = 1 by omega]; rfl
 refine cw (k := I.length + 5) (v := .agg [a, b, c, d]) H.M e8 ed hk rfl (fun h' M' => nS ?_)
 have hset : (I ++ (⟨.op i9 w9 0, 46, 4, [.agg [a, b, c, d]]⟩ :: ⟨.op i8 w8 0, 46, 4, [x]⟩ :: R)).set (I.length + 1) ⟨.op i8 w8 0, 46, 4, [.agg [a, b, c, d]]⟩ = I ++ (⟨.op i9 w9 0, 46, 4, [.agg [a, b, c, d]]⟩ :: ⟨.op i8 w8 0, 46, 4, [.agg [a, b, c, d]]⟩ :: R) := by
  rw [List.set_append_right _ _ (by omega), show I.length + 1 - I.length = 1 by omega]; rfl
 have H' : OE h' e a b c d eb ef em ep I (⟨.op i9 w9 0, 46, 4, [.agg [a, b, c, d]]⟩ :: ⟨.op i8 w8 0, 46, 4, [.agg [a, b, c, d]]⟩ :: R) := H.mem (by
  simp only [List.set_cons_succ] at M'
  rwa [hset] at M')
 obtain ⟨d', hd', hr⟩ := H'.deep hE
 have hk' : (⟨a, 4, 1, eb⟩ :: ⟨b, 43, 1, ef⟩ :: ⟨c, 89, 1, em⟩ :: ⟨d, 5, 1, ep⟩ :: (I ++ (⟨.op i9 w9 0, 46, 4, [.agg [a, b, c, d]]⟩ :: ⟨.op i8 w8 0, 46, 4, [.agg [a, b, c, d]]⟩ :: R)))[I.length + 5]? = some (⟨.op i8 w8 0, 46, 4, [.agg [a, b, c, d]]⟩ : Ent) := by
  simp only [List.getElem?_cons_succ]
  rw [List.getElem?_append_right (by omega), show I.length + 1 - I.length = 1 by omega]; rfl
 exact fy (.cell a0 (dn (k := I.length + 5) H'.M hk' rfl) .nil) hd' hr
theorem cc2 {l : List (BitVec 32)} {i : Int} (h : gj l i = true) : 0 ≤ i ∧ i < l.length := by
 unfold gj at h
 simpa using h
theorem dq4 {l : List (List (BitVec 32))} {i j : Int} (h : gj (ib l i) j = true) : (0 ≤ i ∧ i < l.length) ∧ 0 ≤ j ∧ j < (ix l i).length := by
 unfold ib at h
 split at h
 ·have := cc2 h
  simp at this
  omega
 ·rename_i hc
  simp only [Bool.or_eq_true, decide_eq_true_eq, not_or] at hc
  exact ⟨by omega, cc2 h⟩
theorem bn8 {x0 : ae} {x1 : av} {x2 : aa} {x3 : BitVec 32} {v0 v1 v2 : PV} (r0 : ae.t.R x0 v0) (r1 : av.t.R x1 v1) (r2 : aa.t.R x2 v2) (hE : EB x1) : ∃ r, FnR Tryz.prog 188 [v0, v1, v2, bm x3] r ∧ av.t.R (jf x0 x1 x2 x3) r := by
 refine fnE bd0 (by simp) ?_
 refine aq (ax ?_)
 refine ab (dq rfl (TR.cnt ae.t r0)) (ab (dq rfl (TR.cnt av.t r1)) (ab (dq rfl (TR.cnt aa.t r2)) ?_))
 refine dz (x := .agg [nilS, nilS, nilS, nilS]) (Mem.nil _) rfl rfl (fun i8 w8 h8 M8 => ?_)
 refine bp (am (aq (dv ?_)))
 refine bw (ab (ca rfl (TR.cnt av.t r1) (TR.agg av.t r1)) (bv ?_))
 obtain ⟨rr, k, X, a, b, c, d, eb, ef, em, ep, I, rfl, H⟩ := ai1 r1 hE M8
 refine fx rfl rfl X ?_
 refine bw (dz (x := .agg [nilS, nilS, nilS, nilS]) H.M rfl rfl (fun i9 w9 h9 M9 => bv ?_))
 refine bw (cw (k := 0) (v := .agg [a, b, c, d]) M9 rfl rfl rfl rfl (fun a1 a0 => bv (je ?_)))
 replace H := H.push (g := ⟨.op i9 w9 0, 46, 4, [.agg [a, b, c, d]]⟩) a0
 clear M8 M9 a0 X
 refine am (aq (ax ?_))
 refine lD r0 rfl rfl rfl (lD r2 rfl rfl rfl ?_)
 refine cL (cg5 r0 r2) rfl rfl (ai (TR.clo _ r0) (ai (TR.clo _ r2) bg)) (mV rfl ?_)
 refine bp (am (aq (aq (dv ?_))))
 refine bw (ab (iw (k := 0) H.pull rfl rfl rfl) (bv ?_))
 refine bw (ab (ca rfl (TR.cnt aa.t r2) (TR.agg aa.t r2)) (bv ?_))
 refine fx rfl rfl (dp2 H hE r2) ?_
 refine bw (ab (au rfl) (bv (bw (ab (xl rfl rfl) (bv (bw (ab (xl rfl rfl) (bv ?_))))))))
 refine bw (ab (au rfl) (bv (bw (ab (au rfl) (bv (je ?_))))))
 refine am (aq (ax (mV rfl (mV rfl ?_))))
 refine cn 3 (d := 28) (v := vb ((fm x1 x2).2 && decide (0 < ju x0 x2))) ?_ ?_
 ·intro S Q r
  cases hb : (fm x1 x2).2
  ·exact gN 2 rfl rfl rfl rfl rfl rfl
  ·intro k
   refine ah rfl rfl (au rfl) (ah rfl rfl (bz rfl rfl nu) ?_)
   exact gK rfl rfl rfl rfl rfl k
 refine bp (am (cj rfl (fun hc => ?_) fun hc => ?_))
 ·have hs : jf x0 x1 x2 x3 = putF x1 x2 (x3 &&& ck (ju x0 x2)) := by unfold jf; rw [if_pos hc]
  rw [hs]
  simp only [Bool.and_eq_true] at hc
  have el := hc.1
  unfold fm at el
  simp only [LET] at el
  refine ax (mV rfl (fL rfl (aa.g_Field r2) rfl rfl (mV rfl (mV rfl ?_))))
  refine cL (lc (x0 := ju x0 x2)) rfl rfl (ai rfl bg) (bN qf rfl rfl ?_)
  have ec : (x2 = ({ Header := -1, Field := x2.Field } : aa)) ↔ x2.Header = -1 := by
   cases x2; simp [aa.mk.injEq]
  by_cases hm : x2.Header = -1
  ·rw [if_pos (by simp only [decide_eq_true_eq, ec]; exact hm)] at el
   have hi := cc2 el
   have e2 : elv c ef x2 = c := by unfold elv; rw [if_pos hm]
   have e3 : putF x1 x2 (x3 &&& ck (ju x0 x2)) = { x1 with Metd := x1.Metd.set x2.Field.toNat (x3 &&& ck (ju x0 x2)) } := by unfold putF; rw [if_pos hm]
   rw [e2, e3]
   obtain ⟨id, ver, n, rfl⟩ := wy H.wc H.m hi.1 hi.2
   have hn := qr H.M (k := 2) rfl
   have hl := H.m.length
   refine ab (bh rfl rfl (qg 1 (i := x2.Field) hi.1 (by omega))) ?_
   exact tu (k := 2) (i := x2.Field.toNat) H.M rfl rfl rfl (by omega) rfl (fun h' M' => bp (am (vm (H.setM M' ⟨_, _, _, rfl⟩) hE.setM rfl rfl rfl)))
  ·rw [if_neg (by simp only [decide_eq_true_eq, ec]; exact hm)] at el
   simp only [Bool.and_eq_true] at el
   obtain ⟨hr, hi⟩ := dq4 el.2
   have hlen := H.f.len.1
   obtain ⟨v, es, g1, g2, g3, g4, g5, g6, g7⟩ := H.inner hr.1 hr.2
   have e2 : elv c ef x2 = v := by unfold elv; rw [if_neg hm, if_pos ⟨hr.1, by omega⟩, List.getD_eq_getElem?_getD, g1]; rfl
   have e3 : putF x1 x2 (x3 &&& ck (ju x0 x2)) = { x1 with Fields := x1.Fields.set x2.Header.toNat ((ix x1.Fields x2.Header).set x2.Field.toNat (x3 &&& ck (ju x0 x2))) } := by unfold putF; rw [if_neg hm]
   rw [e2, e3]
   obtain ⟨id, ver, n, rfl⟩ := wy g7 g4 hi.1 hi.2
   have hn := qr H.M g3
   have hl := g4.length
   refine ab (bh rfl rfl (qg 1 (i := x2.Field) hi.1 (by omega))) ?_
   exact tu (i := x2.Field.toNat) H.M rfl rfl g3 (by omega) rfl (fun h' M' => bp (am (vm (H.setF g1 g2 g4 g5 g6 M' ⟨_, _, _, rfl⟩) (hE.setF (by rw [List.length_set]; exact hE.i _ (ai5 hr.1 hr.2))) rfl rfl rfl)))
 ·have hs : jf x0 x1 x2 x3 = x1 := by unfold jf; rw [if_neg (by rw [hc]; simp)]
  rw [hs]
  exact bb (am (vm H hE rfl rfl rfl))

theorem ds9 {α : Type} [Inhabited α] {l : List (List α)} {i : Nat} (hi : i < l.length) : (l.take i ++ List.replicate (l.length - i) []).set i l[i] = l.take (i + 1) ++ List.replicate (l.length - (i + 1)) [] := by
 have e1 : (l.take i).length = i := by simp; omega
 rw [List.set_append_right _ _ (by omega), e1, Nat.sub_self, show l.length - i = (l.length - (i + 1)) + 1 by omega, List.replicate_succ, List.set_cons_zero, List.take_succ_eq_append_getElem hi, List.append_assoc]
 rfl
structure OR (h : Heap) (rs : List (List (BitVec 32))) (b : PV) (ef : List PV) (I R : List Ent) : Prop where
 M : Mem h (⟨b, 43, 1, ef⟩ :: (I ++ R))
 f : Ns dm 89 rs ef I
 nb : isL b = true
 wb : ∃ id ver n, b = .os id ver 0 n
theorem bt6 {S : List Fr} {Q : Post} {x0 : List (List (BitVec 32))} {v0 : PV} (q1 : (tSl (tSl dm)).R x0 v0) (hE : RB x0) {id ver : Nat} {R_ : List Ent}
  (K : ∀ {h : Heap} {ef : List PV} {I : List Ent}, OR h x0 (.os id ver 0 x0.length) ef I R_ → PX Tryz.prog 0 S Q [(3, .os id ver 0 x0.length)] h) :
  ∀ (m : Nat) {i : Int} {ef : List PV} {I : List Ent} {h : Heap}, m = Int.toNat ((x0.length : Int) - i) → 0 ≤ i → i ≤ x0.length →
   OR h (x0.take i.toNat ++ List.replicate (x0.length - i.toNat) []) (.os id ver 0 x0.length) ef I R_ →
   RC Tryz.prog (.loop bt0) S Q [(11, vi i), (10, vi (x0.length : Int)), (9, v0), (3, .os id ver 0 x0.length)] h
 | 0, i, ef, I, h, hm, h0, h1, H => by
  refine ct ?_
  refine aq (ax (ab (bz rfl rfl cz) (bp (am (aq (cj rfl (fun hc => ?_) fun hc => ?_))))))
  ·simp only [decide_eq_true_eq] at hc; omega
  ·have e : i = x0.length := by omega
   subst e
   rw [Int.toNat_natCast, List.take_length, Nat.sub_self, List.replicate_zero, List.append_nil] at H
   exact ft (gk (ej (wP (K H) rfl)))
 | m + 1, i, ef, I, h, hm, h0, h1, H => by
  have hlt : i < (x0.length : Int) := by omega
  refine ct ?_
  refine aq (ax (ab (bz rfl rfl cz) (bp (am (aq (cj rfl (fun hc => ?_) fun hc => ?_))))))
  ·refine bb (am (aq (br ?_)))
   obtain ⟨g0, e0, q0⟩ := dt (i := i) q1 h0 hlt
   have hb := pk hE.i h0 hlt
   have hen : ef.length = x0.length := by rw [H.f.len.1]; simp; omega
   have hIn : I.length = x0.length := by rw [H.f.len.2]; simp; omega
   refine aq (ax ?_)
   refine mV rfl (ab (bh rfl rfl e0) (ab (ca rfl (TR.cnt _ q0) (TR.agg _ q0)) (mV rfl (mV rfl ?_))))
   refine bp (am (aq (ax ?_)))
   refine mV rfl (mV rfl (mV rfl (ab (cy rfl (cm q0 Tryz.underlying43 _)) ?_)))
   have ff : fits (ix x0 i).length 4 = true := lr (by omega) (by omega)
   refine at2 (sz := 1) (ty := 89) (n := (ix x0 i).length) (zz := bm 0#32) H.M rfl rfl rfl rfl rfl ff (fun j w h2 M2 => ?_)
   refine ab (bh rfl rfl (qg 1 (i := i) h0 (by omega))) ?_
   refine tu (k := 1) (i := i.toNat) M2 rfl rfl rfl (by omega) rfl (fun h3 M3 => ?_)
   have M4 : Mem h3 (⟨.os id ver 0 x0.length, 43, 1, ef.set i.toNat (.os j w 0 (ix x0 i).length)⟩ :: (I.set i.toNat ⟨.os j w 0 (ix x0 i).length, 89, 1, List.replicate (ix x0 i).length (bm 0#32)⟩ ++ R_)) :=
    cv3 (C := [⟨.os id ver 0 x0.length, 43, 1, ef.set i.toNat (.os j w 0 (ix x0 i).length)⟩]) (Mem.sub M3 (.cons_cons _ (.cons_cons _ (List.Sublist.append_right (List.eraseIdx_sublist ..) _)))) (by omega)
   refine bp (am (ax (mV rfl (mV rfl ?_))))
   refine ab (bh rfl rfl (qg 1 (i := i) h0 (by omega))) ?_
   refine ab (ou (k := 0) M4 rfl rfl (List.getElem?_set_self (by omega)) rfl) (mV rfl ?_)
   obtain ⟨nw, sr, ar⟩ := ol (t := dm) (h := h3) q0
   have hk : (⟨.os id ver 0 x0.length, 43, 1, ef.set i.toNat (.os j w 0 (ix x0 i).length)⟩ :: (I.set i.toNat ⟨.os j w 0 (ix x0 i).length, 89, 1, List.replicate (ix x0 i).length (bm 0#32)⟩ ++ R_))[i.toNat + 1]? = some (⟨.os j w 0 (ix x0 i).length, 89, 1, List.replicate (ix x0 i).length (bm 0#32)⟩ : Ent) := by
    rw [List.getElem?_cons_succ, List.getElem?_append_left (by rw [List.length_set]; omega), List.getElem?_set_self (by omega)]
   refine cj5 M4 rfl rfl hk sr (by rw [ar.length, List.length_replicate]) (fun h5 M5 => ?_)
   rw [List.set_cons_succ, List.set_append_left _ _ (by rw [List.length_set]; omega), List.set_set] at M5
   refine bp (de (am (ax (ab (bz rfl rfl gm) (mV rfl (bp (di ?_)))))))
   have hinc : wr (i + 1) = i + 1 := gb (by omega) (by have := hE.o; omega)
   refine pf ?_ (bt6 q1 hE K m (i := i + 1) (by omega) (by omega) (by omega) ⟨M5, ?_, rfl, _, _, _, rfl⟩)
   ·exact fg (by show some (vi (wr (i + 1))) = _; rw [hinc]) (sB rfl)
   ·have e := ds9 (l := x0) (i := i.toNat) (by omega)
    rw [← ut h0 hlt] at e
    rw [show (i + 1).toNat = i.toNat + 1 by omega, ← e]
    exact cf6 H.f ar rfl (by omega) (.inr ⟨_, _, _, rfl⟩)
  ·simp only [decide_eq_false_iff_not] at hc; omega
theorem bf9 {f n : Nat} (X : FnText Tryz.prog f [] n 1 bt2 [(2, none)]) {x0 : List (List (BitVec 32))} {v0 : PV} (r0 : (tSl (tSl dm)).R x0 v0) (hE : RB x0) {h_ : Heap} {R_ : List Ent} (M_ : Mem h_ R_) : ∃ r k, FnX Tryz.prog f [v0] h_ r k ∧ ∃ ef I, OR k x0 r ef I R_ := by
 refine fnX X (by simp) ?_
 refine aq (ax (ab (v := nilS) (au rfl) (bp (am (aq (ax ?_))))))
 refine mV rfl (ab (cy rfl (cm r0 Tryz.underlying42 _)) ?_)
 have ff : fits x0.length 24 = true := lr (by have := hE.o; omega) (by have := hE.o; omega)
 refine at2 (sz := 1) (ty := 43) (n := x0.length) (zz := nilS) M_ rfl rfl rfl rfl rfl ff (fun id ver h2 M2 => ?_)
 have M3 := df0 (C := [⟨.os id ver 0 x0.length, 43, 1, List.replicate x0.length nilS⟩]) M2 89 1 x0.length
 refine mV rfl (bp (am (aq (aq (ax ?_)))))
 refine mV rfl (ab (cy rfl (cm r0 Tryz.underlying42 _)) (mV rfl (bp (am (br ?_)))))
 refine wC (bt6 (x0 := x0) r0 hE (R_ := R_) ?_ x0.length (i := 0) (by omega) (by omega) (by omega) ⟨M3, (by rw [show Int.toNat 0 = 0 from rfl, List.take_zero, List.nil_append, Nat.sub_zero]; exact dg4 (t := dm) (ty := 89) x0.length), rfl, _, _, _, rfl⟩) rfl
 ·intro h ef I H
  refine gw (am (aq (ax (mV rfl (mV rfl (bp (am ?_)))))))
  exact ji (.tmp rfl .nil) ⟨ef, I, H⟩
theorem OR.deep {h : Heap} {rs : List (List (BitVec 32))} {b : PV} {ef : List PV} {I R : List Ent} (H : OR h rs b ef I R) (hb : RB rs) : ∃ r, Deep Tryz.prog h b r ∧ (tSl (tSl dm)).R rs r :=
 bo2 (P := Tryz.prog) (C := [⟨b, 43, 1, ef⟩]) (k := 0) H.M rfl H.nb H.f (by have := hb.o; omega)
theorem ci0 {x0 : List (List (BitVec 32))} {v0 : PV} (r0 : (tSl (tSl dm)).R x0 v0) (hE : RB x0) : ∃ r, FnR Tryz.prog 117 [v0] r ∧ (tSl (tSl dm)).R (pd x0) r := by
 obtain ⟨r, k, X, ef, I, H⟩ := bf9 bj4 r0 hE (Mem.nil ⟨0, []⟩)
 obtain ⟨d, hd, hr⟩ := H.deep hE
 exact ⟨d, FnR.of_X X hd, hr⟩

def RF114 (res : Bool) (r : PV) : Prop := r = vb res
theorem cm2 {x0 : BitVec 32} {x1 : Int} : FnR Tryz.prog 114 [bm x0, vi x1] (vb (uv x0 x1)) := by
 refine fnS (R := RF114) bi7 (fun _ h => h) rfl fun res s => ?_
 unfold uv at s
 refine sR (mB rfl (nR (mV rfl (ab (v := .fs true [vi x1]) (jh rfl (all_cons rfl lw)) ?_))))
 have a3 : (tSl tI).R ([x1] : List Int) (.fs true [vi x1]) := qw ⟨rfl, trivial⟩ (by simp)
 obtain ⟨a4, a2, s⟩ := bn s
 have a5 := ae1  a3 
 rw [a2] at a5
 refine cL a5 rfl rfl (ai (TR.clo (tSl tI) a3) bg) (mV rfl ?_)
 refine cn 5 (d := 13) (v := vb (a4 && (decide (x0 ≤ (ck x1))))) ?_ ?_
 ·intro S Q r
  cases a1 : a4
  ·exact gN 4 rfl rfl rfl rfl rfl rfl
  ·intro k
   have a0 := a1
   try simp only [qa] at a0
   refine ah rfl rfl (au rfl) (ah rfl rfl (au rfl) ?_)
   have a6 := lc (x0 := x1)  
   refine mb rfl rfl (si rfl rfl (ai rfl bg) a6) (ah rfl rfl (bz (a := bm x0) (b := bm (ck x1)) rfl rfl dw6) ?_)
   exact gK rfl rfl rfl rfl rfl k
 refine mV rfl (nS ?_)
 exact rR s rfl rfl rfl

def RF41 (res : Int) (r : PV) : Prop := r = vi res
theorem tq {S : List Fr} {res : Int} {x0 : ae} {x1 : bt} {b0 a9 : PV} (a6 : ((decide (x1.Action < 0)) || (decide ((x0.Actions.length : Int) ≤ x1.Action))) = false) (b2 : (tSl ay.t).R ((ix x0.Actions x1.Action).Params) b0) (a8 : (!decide ((x1.Args.length : Int) = (((ix x0.Actions x1.Action).Params).length : Int))) = false) (a7 : (tSl dm).R x1.Args a9) {K0 : Unit → Int}
  (b7 : K0 () = res → PX Tryz.prog 0 S (QR Tryz.prog [(4, none)] (RF41 res)) [] ⟨0, []⟩) :
  ∀ {m : Nat} {a0 : Int} (b4 : m = Int.toNat ((x1.Args.length : Int) - a0)) (a5 : 0 ≤ a0), lz x0 x1 K0 m a0 = res → RC Tryz.prog (.loop co9) S (QR Tryz.prog [(4, none)] (RF41 res)) [(35, vi a0), (34, vi (x1.Args.length : Int)), (33, a9), (5, b0)] ⟨0, []⟩ := by
 have a1 := a6
 try simp only [qa] at a1
 have a2 := a8
 try simp only [qa] at a2
 intro m
 induction m with
 | zero =>
  intro a0 b4 a5 s
  rw [lz] at s
  refine ct (sR (bN cz rfl rfl (nS (aq ?_))))
  refine cj rfl ?_ ?_ <;> intro c <;> try simp only [qa] at c
  ·omega
  refine ft (gk (ej ?_))
  exact wP (b7  s) rfl
 | succ m ih =>
  intro a0 b4 a5 s
  rw [lz] at s
  refine ct (sR (bN cz rfl rfl (nS (aq ?_))))
  refine cj rfl ?_ ?_ <;> intro c <;> try simp only [qa] at c
  rotate_left
  ·omega
  refine bb (am (aq (br (sR (mV rfl (ab (bh rfl rfl (uf a7 (by omega) (by omega))) (lR rfl rfl rfl (mV rfl ?_))))))))
  refine mV rfl (nR (mV rfl (mV rfl (mV rfl ?_))))
  obtain ⟨b5, b3, b1⟩ := dt (i := a0) b2 (by omega) (by omega)
  refine ab (bh rfl rfl b3) (fL rfl (ay.g_Width b1) rfl rfl ?_)
  obtain ⟨b6, a4, s⟩ := bn s
  have a3 := cm2 (x0 := (ix x1.Args a0)) (x1 := (ix ((ix x0.Actions x1.Action).Params) a0).Width)  
  rw [a4] at a3
  refine cL a3 rfl rfl (ai rfl (ai rfl bg)) (ab (ks rfl) (nS ?_))
  refine ci s rfl ?_ ?_ <;> clear s <;> intro c s <;> try simp only [qa] at c
  ·refine sR (mI rfl (nS ?_))
   exact rR s rfl rfl rfl
  ·refine bb (de (am (ax (bN gm rfl rfl (mV rfl (bp (di ?_)))))))
   have hbd := ee a7
   have hinc : wr (a0 + 1) = a0 + 1 := gb (by omega) (by omega)
   erw [hinc]
   exact wC (ih   (by omega) (by omega) s) rfl

theorem dc9 {x0 : ae} {x1 : bt} {v0 v1 : PV} (r0 : ae.t.R x0 v0) (r1 : bt.t.R x1 v1) : FnR Tryz.prog 41 [v0, v1] (vi (ii x0 x1)) := by
 refine fnS (R := RF41) ce9 (fun _ h => h) rfl fun res s => ?_
 unfold ii at s
 refine sR (ab (dq rfl (TR.cnt ae.t r0)) (ab (dq rfl (TR.cnt bt.t r1)) (mI rfl (nS (aq (sR (fL rfl (bt.g_Action r1) rfl rfl (bN cz rfl rfl ?_))))))))
 refine mV rfl ?_
 refine cn 7 (d := 18) (v := vb ((decide (x1.Action < 0)) || (decide ((x0.Actions.length : Int) ≤ x1.Action)))) ?_ ?_
 ·intro S Q r
  cases a6 : (decide (x1.Action < 0))
  ·intro k
   have a3 := a6
   try simp only [qa] at a3
   refine ah rfl rfl (cd rfl (bt.g_Action r1)) (ah rfl rfl (ca rfl rfl rfl) ?_)
   obtain ⟨b7, b2, a5⟩ := ae.g_Actions r0
   refine ah rfl rfl (cd rfl b2) (ah rfl rfl (ca rfl (TR.cnt (tSl cb.t) a5) (TR.agg (tSl cb.t) a5)) (ah rfl rfl (cy rfl (cm a5 Tryz.underlying25 _)) (ah rfl rfl (bz rfl rfl mc) ?_)))
   exact gK rfl rfl rfl rfl rfl k
  ·exact gN 6 rfl rfl rfl rfl rfl rfl
 refine nS ?_
 refine ci s rfl ?_ ?_ <;> clear s <;> intro a0 s <;> have a2 := a0 <;> try simp only [qa] at a2
 ·refine sR (mI rfl (nS ?_))
  exact rR s rfl rfl rfl
 ·refine bb (am (sR (gL (ae.g_Actions r0) rfl rfl rfl fun b4 b1 => (fL rfl (bt.g_Action r1) rfl rfl ?_))))
  obtain ⟨b6, b0, a9⟩ := dt (i := x1.Action) b1 (by omega) (by omega)
  refine ab (bh rfl rfl b0) (gL (cb.g_Params a9) rfl rfl rfl fun b9 a7 => (mV rfl (nS (aq (sR (gL (bt.g_Args r1) rfl rfl rfl fun b5 b3 => (ab (cy rfl (cm b3 Tryz.underlying43 _)) (mV rfl ?_))))))))
  refine ab (cy rfl (cm a7 Tryz.underlying23 _)) (bN mw rfl rfl (nS ?_))
  refine ci s rfl ?_ ?_ <;> clear s <;> intro a1 s <;> have a4 := a1 <;> try simp only [qa] at a4
  ·refine sR (mI rfl (nS ?_))
   exact rR s rfl rfl rfl
  ·refine bb (am (aq (sR (gL (bt.g_Args r1) rfl rfl rfl fun b8 a8 => (ab (cy rfl (cm a8 Tryz.underlying43 _)) (mI rfl (nS (br ?_))))))))
   refine wC (tq a0 a7 a1 a8 ?_  rfl (by omega) s) rfl
   ·intro  s
    refine gw (am (sR (mI rfl (nS ?_))))
    exact rR s rfl rfl rfl

def RF294 (res : (BitVec 32)) (r : PV) : Prop := r = bm res
theorem ct1 {x0 : av} {x1 : aa} {v0 v1 : PV} (r0 : av.t.R x0 v0) (r1 : aa.t.R x1 v1) : FnR Tryz.prog 294 [v0, v1] (bm (xy x0 x1)) := by
 refine fnS (R := RF294) bl3 (fun _ h => h) rfl fun res s => ?_
 unfold xy at s
 refine sR (ab (dq rfl (TR.cnt av.t r0)) (ab (dq rfl (TR.cnt aa.t r1)) (ab (v := bm 0#32) (au rfl) (nR (lD r0 rfl rfl rfl (lD r1 rfl rfl rfl ?_))))))
 obtain ⟨a4, a2, s⟩ := bn s
 obtain ⟨a3, a0, a1⟩ := cs5  r0 r1 
 rw [a2] at a0 a1
 refine cL a0 rfl rfl (ai (TR.clo av.t r0) (ai (TR.clo aa.t r1) bg)) (mV rfl (xT rfl rfl (xT rfl rfl (mV rfl (mV rfl (nS (aq (sR ?_))))))))
 refine mV rfl (ab (ks rfl) (nS ?_))
 refine ci s rfl ?_ ?_ <;> clear s <;> intro c s <;> try simp only [qa] at c
 ·refine sR (ab (v := bm 0#32) (au rfl) (nS ?_))
  exact rR s rfl rfl rfl
 ·refine bb (am (sR (mV rfl (fL rfl (aa.g_Field r1) rfl rfl (ab (bh rfl rfl (uf a1 (by exact (cy0 (by assumption) (by assumption)).1) (by exact (cy0 (by assumption) (by assumption)).2))) (lR rfl rfl rfl (mV rfl (nS ?_))))))))
  exact rR s rfl rfl rfl

def RF289 (i0_ w0_ : Nat) (R_ : List Ent) (res : aj × ba) (r : PV) (h : Heap) : Prop := ∃ uF0 : PV, ∃ c0_ : PV, Mem h (⟨.op i0_ w0_ 0, 299, 17, [uF0]⟩ :: R_) ∧ (ba.t.R res.2 uF0) ∧ r = c0_ ∧ aj.t.R res.1 c0_
theorem ci6 {x0 : ba} {x1 : af} {v1 a5 : PV} {R_ : List Ent} {h_ : Heap} {b4 b5 : Nat} (r1 : af.t.R x1 v1) (a4 : ba.t.R x0 a5) (M_ : Mem h_ (⟨.op b4 b5 0, 299, 17, [a5]⟩ :: R_)) (hp : (fh x0.scope x1).2 = 0) : ∃ r h4, FnX Tryz.prog 289 [.op b4 b5 0, v1] h_ r h4 ∧ RF289 b4 b5 R_ (gf x0 x1) r h4 := by
 refine fnXX (R := RF289 b4 b5 R_) bf6 rfl fun res s => ?_
 unfold gf at s
 refine sR (ab (dq rfl (TR.cnt af.t r1)) ?_)
 refine dz (x := .agg [bm 0#32, vi 0]) M_ rfl rfl (fun a2 a1 h8 a3 => ?_)
 refine nR (mV rfl (ab (cx rfl rfl) (ab (bf rfl) ?_)))
 obtain ⟨i2, g3, e2⟩ := ba.g_scope a4
 refine ab (cg (k := 1) a3 rfl rfl g3) (lD r1 rfl rfl rfl ?_)
 obtain ⟨a0, f4, s⟩ := bn s
 have d9 := bm1  e2 r1 
 rw [f4] at d9
 refine cL d9 rfl rfl (ai (TR.clo bd.t e2) (ai (TR.clo af.t r1) bg)) (mV rfl (xT rfl rfl (xT rfl rfl (mV rfl (mV rfl (nR (ab (v := bm 0#32) (au rfl) (nS ?_))))))))
 refine aq (sR (fL rfl (af.g_Op r1) rfl rfl (nS (br (sR (bN fe rfl rfl (mV rfl (nS ?_))))))))
 refine ci s rfl ?_ ?_ <;> clear s <;> intro c s <;> try simp only [qa] at c
 ·refine ax (fL rfl (af.g_N r1) rfl rfl (ab (yl (a := vi x1.N) rfl (c_iw Tryz.underlying3 Tryz.underlying89)) (mV rfl (bp (de (am (sR (mV rfl ?_))))))))
  refine mV rfl ?_
  obtain ⟨a7, c4, s⟩ := bn s
  have f2 := lc (x0 := a0.1)  
  rw [c4] at f2
  refine cL f2 rfl rfl (ai rfl bg) (ab (bz (a := bm (BitVec.ofInt 32 x1.N)) (b := bm a7) rfl rfl qf) (mV rfl (ab (v := .agg [bm ((BitVec.ofInt 32 x1.N) &&& a7), vi a0.1]) (fu (cs := [bm ((BitVec.ofInt 32 x1.N) &&& a7), vi a0.1]) rfl rfl) ?_)))
  refine cw (k := 0) (v := .agg [bm ((BitVec.ofInt 32 x1.N) &&& a7), vi a0.1]) a3 rfl rfl rfl rfl (fun d6 c0 => ?_)
  replace c0 : Mem d6 (⟨.op a2 a1 0, 301, 2, [.agg [bm ((BitVec.ofInt 32 x1.N) &&& a7), vi a0.1]]⟩ :: ⟨.op b4 b5 0, 299, 17, [a5]⟩ :: R_) := c0
  refine nS ?_
  have c5 : Mem d6 (⟨.op b4 b5 0, 299, 17, [a5]⟩ :: ⟨.op a2 a1 0, 301, 2, [.agg [bm ((BitVec.ofInt 32 x1.N) &&& a7), vi a0.1]]⟩ :: R_) := (Mem.front (k := 1) c0 rfl)
  subst s
  exact ji (.cell rfl (dn (k := 0) c0 rfl rfl) .nil) ⟨a5, (.agg [bm ((BitVec.ofInt 32 x1.N) &&& a7), vi a0.1]), Mem.sub c5 (.cons_cons _ (.cons _ (List.Sublist.refl R_))), a4, rfl, (show aj.t.R ({ v := ((BitVec.ofInt 32 x1.N) &&& a7), w := a0.1 } : aj) (.agg [bm ((BitVec.ofInt 32 x1.N) &&& a7), vi a0.1]) from rfl)⟩
 ·refine sR (bN fe rfl rfl (mV rfl (nS ?_)))
  refine ci s rfl ?_ ?_ <;> clear s <;> intro c s <;> try simp only [qa] at c
  ·refine ax (mV rfl (ab (cx rfl rfl) (ab (bf rfl) ?_)))
   obtain ⟨i0, h1, d3⟩ := ba.g_env a4
   refine ab (cg (k := 1) a3 rfl rfl h1) (fL rfl (af.g_N r1) rfl rfl (fL rfl (af.g_W r1) rfl rfl (ab (v := .agg [vi x1.N, vi x1.W]) (fu (cs := [vi x1.N, vi x1.W]) rfl rfl) ?_)))
   obtain ⟨b1, e6, s⟩ := bn s
   have e3 := ct1  d3 (show aa.t.R ({ Header := x1.N, Field := x1.W } : aa) (.agg [vi x1.N, vi x1.W]) from rfl) 
   rw [e6] at e3
   refine cL e3 rfl rfl (ai (TR.clo av.t d3) (ai (TR.clo aa.t (show aa.t.R ({ Header := x1.N, Field := x1.W } : aa) (.agg [vi x1.N, vi x1.W]) from rfl)) bg)) (mV rfl (bp (de (am (sR (mV rfl (mV rfl ?_)))))))
   obtain ⟨b0, c6, s⟩ := bn s
   have e9 := lc (x0 := a0.1)  
   rw [c6] at e9
   refine cL e9 rfl rfl (ai rfl bg) (ab (bz (a := bm b1) (b := bm b0) rfl rfl qf) (mV rfl (ab (v := .agg [bm (b1 &&& b0), vi a0.1]) (fu (cs := [bm (b1 &&& b0), vi a0.1]) rfl rfl) ?_)))
   refine cw (k := 0) (v := .agg [bm (b1 &&& b0), vi a0.1]) a3 rfl rfl rfl rfl (fun d0 b9 => ?_)
   replace b9 : Mem d0 (⟨.op a2 a1 0, 301, 2, [.agg [bm (b1 &&& b0), vi a0.1]]⟩ :: ⟨.op b4 b5 0, 299, 17, [a5]⟩ :: R_) := b9
   refine nS ?_
   have e8 : Mem d0 (⟨.op b4 b5 0, 299, 17, [a5]⟩ :: ⟨.op a2 a1 0, 301, 2, [.agg [bm (b1 &&& b0), vi a0.1]]⟩ :: R_) := (Mem.front (k := 1) b9 rfl)
   subst s
   exact ji (.cell rfl (dn (k := 0) b9 rfl rfl) .nil) ⟨a5, (.agg [bm (b1 &&& b0), vi a0.1]), Mem.sub e8 (.cons_cons _ (.cons _ (List.Sublist.refl R_))), a4, rfl, (show aj.t.R ({ v := (b1 &&& b0), w := a0.1 } : aj) (.agg [bm (b1 &&& b0), vi a0.1]) from rfl)⟩
  ·refine sR (bN fe rfl rfl (mV rfl (nS ?_)))
   refine ci s rfl ?_ ?_ <;> clear s <;> intro c s <;> try simp only [qa] at c
   ·refine sR (fL rfl (af.g_N r1) rfl rfl (mV rfl (ab (cx rfl rfl) (ab (bf rfl) ?_))))
    obtain ⟨h6, g4, g2⟩ := ba.g_args a4
    refine ab (cg (k := 1) a3 rfl rfl g4) (ab (cy rfl (cm g2 Tryz.underlying43 _)) (bN cz rfl rfl (nS ?_)))
    refine ci s rfl ?_ ?_ <;> clear s <;> intro c s <;> try simp only [qa] at c
    ·refine ax (mV rfl (ab (cx rfl rfl) (ab (bf rfl) ?_)))
     obtain ⟨i1, g0, h0⟩ := ba.g_args a4
     refine ab (cg (k := 1) a3 rfl rfl g0) (fL rfl (af.g_N r1) rfl rfl (ab (bh rfl rfl (uf h0 (by ((have hk := pr3 hp (by assumption); omega))) (by omega))) (lR rfl rfl rfl (mV rfl (bp (de (am (sR ?_))))))))
     refine mV rfl (mV rfl ?_)
     obtain ⟨b2, e1, s⟩ := bn s
     have f9 := lc (x0 := a0.1)  
     rw [e1] at f9
     refine cL f9 rfl rfl (ai rfl bg) (ab (bz (a := bm (ix x0.args x1.N)) (b := bm b2) rfl rfl qf) (mV rfl (ab (v := .agg [bm ((ix x0.args x1.N) &&& b2), vi a0.1]) (fu (cs := [bm ((ix x0.args x1.N) &&& b2), vi a0.1]) rfl rfl) ?_)))
     refine cw (k := 0) (v := .agg [bm ((ix x0.args x1.N) &&& b2), vi a0.1]) a3 rfl rfl rfl rfl (fun f7 b7 => ?_)
     replace b7 : Mem f7 (⟨.op a2 a1 0, 301, 2, [.agg [bm ((ix x0.args x1.N) &&& b2), vi a0.1]]⟩ :: ⟨.op b4 b5 0, 299, 17, [a5]⟩ :: R_) := b7
     refine nS ?_
     have f3 : Mem f7 (⟨.op b4 b5 0, 299, 17, [a5]⟩ :: ⟨.op a2 a1 0, 301, 2, [.agg [bm ((ix x0.args x1.N) &&& b2), vi a0.1]]⟩ :: R_) := (Mem.front (k := 1) b7 rfl)
     subst s
     exact ji (.cell rfl (dn (k := 0) b7 rfl rfl) .nil) ⟨a5, (.agg [bm ((ix x0.args x1.N) &&& b2), vi a0.1]), Mem.sub f3 (.cons_cons _ (.cons _ (List.Sublist.refl R_))), a4, rfl, (show aj.t.R ({ v := ((ix x0.args x1.N) &&& b2), w := a0.1 } : aj) (.agg [bm ((ix x0.args x1.N) &&& b2), vi a0.1]) from rfl)⟩
    ·refine bb (de (am (sR (mV rfl (mV rfl ?_)))))
     obtain ⟨a8, d8, s⟩ := bn s
     have d7 := lc (x0 := a0.1)  
     rw [d8] at d7
     refine cL d7 rfl rfl (ai rfl bg) (ab (bz (a := bm 0#32) (b := bm a8) rfl rfl qf) (mV rfl (ab (v := .agg [bm (0#32 &&& a8), vi a0.1]) (fu (cs := [bm (0#32 &&& a8), vi a0.1]) rfl rfl) ?_)))
     refine cw (k := 0) (v := .agg [bm (0#32 &&& a8), vi a0.1]) a3 rfl rfl rfl rfl (fun d4 b6 => ?_)
     replace b6 : Mem d4 (⟨.op a2 a1 0, 301, 2, [.agg [bm (0#32 &&& a8), vi a0.1]]⟩ :: ⟨.op b4 b5 0, 299, 17, [a5]⟩ :: R_) := b6
     refine nS ?_
     have f0 : Mem d4 (⟨.op b4 b5 0, 299, 17, [a5]⟩ :: ⟨.op a2 a1 0, 301, 2, [.agg [bm (0#32 &&& a8), vi a0.1]]⟩ :: R_) := (Mem.front (k := 1) b6 rfl)
     subst s
     exact ji (.cell rfl (dn (k := 0) b6 rfl rfl) .nil) ⟨a5, (.agg [bm (0#32 &&& a8), vi a0.1]), Mem.sub f0 (.cons_cons _ (.cons _ (List.Sublist.refl R_))), a4, rfl, (show aj.t.R ({ v := (0#32 &&& a8), w := a0.1 } : aj) (.agg [bm (0#32 &&& a8), vi a0.1]) from rfl)⟩
   ·refine sR (bN fe rfl rfl (mV rfl (nS ?_)))
    refine ci s rfl ?_ ?_ <;> clear s <;> intro c s <;> try simp only [qa] at c
    ·refine sR (fL rfl (af.g_N r1) rfl rfl (mV rfl (ab (cx rfl rfl) (ab (bf rfl) (ab (bf rfl) ?_)))))
     obtain ⟨h9, g5, g8⟩ := ba.g_env a4
     obtain ⟨i3, g1, g7⟩ := av.g_Valid g8
     refine ab (cg (k := 1) a3 rfl rfl (jz g5 g1)) (ab (cy rfl (cm g7 Tryz.underlying41 _)) (bN cz rfl rfl (mV rfl ?_)))
     refine cn 10 (d := 75) (v := vb ((decide (x1.N < (x0.env.Valid.length : Int))) && (ix x0.env.Valid x1.N))) ?_ ?_
     ·intro S Q r
      cases c9 : (decide (x1.N < (x0.env.Valid.length : Int)))
      ·exact gN 9 rfl rfl rfl rfl rfl rfl
      ·intro k
       have c3 := c9
       try simp only [qa] at c3
       refine ah rfl rfl (au rfl) (ah rfl rfl (cx rfl rfl) (ah rfl rfl (bf rfl) (ah rfl rfl (bf rfl) ?_)))
       obtain ⟨h5, h2, g6⟩ := ba.g_env a4
       obtain ⟨h7, h3, g9⟩ := av.g_Valid g6
       refine ah rfl rfl (cg (k := 1) a3 rfl rfl (jz h2 h3)) (ah rfl rfl (cd rfl (af.g_N r1)) (ah rfl rfl (ca rfl rfl rfl) (ah rfl rfl (bh rfl rfl (slB g9 (by ((have hk := pr4 hp (by assumption); omega))) (by omega))) (ah rfl rfl (ca rfl rfl rfl) ?_))))
       exact gK rfl rfl rfl rfl rfl k
     refine nS ?_
     refine ci s rfl ?_ ?_ <;> clear s <;> intro c s <;> try simp only [qa] at c
     ·refine ax (ab (v := bm 1#32) (au rfl) (bp (de (am (sR (mV rfl (mV rfl ?_)))))))
      obtain ⟨b3, c8, s⟩ := bn s
      have f5 := lc (x0 := a0.1)  
      rw [c8] at f5
      refine cL f5 rfl rfl (ai rfl bg) (ab (bz (a := bm 1#32) (b := bm b3) rfl rfl qf) (mV rfl (ab (v := .agg [bm (1#32 &&& b3), vi a0.1]) (fu (cs := [bm (1#32 &&& b3), vi a0.1]) rfl rfl) ?_)))
      refine cw (k := 0) (v := .agg [bm (1#32 &&& b3), vi a0.1]) a3 rfl rfl rfl rfl (fun f1 c2 => ?_)
      replace c2 : Mem f1 (⟨.op a2 a1 0, 301, 2, [.agg [bm (1#32 &&& b3), vi a0.1]]⟩ :: ⟨.op b4 b5 0, 299, 17, [a5]⟩ :: R_) := c2
      refine nS ?_
      have c7 : Mem f1 (⟨.op b4 b5 0, 299, 17, [a5]⟩ :: ⟨.op a2 a1 0, 301, 2, [.agg [bm (1#32 &&& b3), vi a0.1]]⟩ :: R_) := (Mem.front (k := 1) c2 rfl)
      subst s
      exact ji (.cell rfl (dn (k := 0) c2 rfl rfl) .nil) ⟨a5, (.agg [bm (1#32 &&& b3), vi a0.1]), Mem.sub c7 (.cons_cons _ (.cons _ (List.Sublist.refl R_))), a4, rfl, (show aj.t.R ({ v := (1#32 &&& b3), w := a0.1 } : aj) (.agg [bm (1#32 &&& b3), vi a0.1]) from rfl)⟩
     ·refine bb (de (am (sR (mV rfl (mV rfl ?_)))))
      obtain ⟨a9, e5, s⟩ := bn s
      have d5 := lc (x0 := a0.1)  
      rw [e5] at d5
      refine cL d5 rfl rfl (ai rfl bg) (ab (bz (a := bm 0#32) (b := bm a9) rfl rfl qf) (mV rfl (ab (v := .agg [bm (0#32 &&& a9), vi a0.1]) (fu (cs := [bm (0#32 &&& a9), vi a0.1]) rfl rfl) ?_)))
      refine cw (k := 0) (v := .agg [bm (0#32 &&& a9), vi a0.1]) a3 rfl rfl rfl rfl (fun f6 b8 => ?_)
      replace b8 : Mem f6 (⟨.op a2 a1 0, 301, 2, [.agg [bm (0#32 &&& a9), vi a0.1]]⟩ :: ⟨.op b4 b5 0, 299, 17, [a5]⟩ :: R_) := b8
      refine nS ?_
      have d1 : Mem f6 (⟨.op b4 b5 0, 299, 17, [a5]⟩ :: ⟨.op a2 a1 0, 301, 2, [.agg [bm (0#32 &&& a9), vi a0.1]]⟩ :: R_) := (Mem.front (k := 1) b8 rfl)
      subst s
      exact ji (.cell rfl (dn (k := 0) b8 rfl rfl) .nil) ⟨a5, (.agg [bm (0#32 &&& a9), vi a0.1]), Mem.sub d1 (.cons_cons _ (.cons _ (List.Sublist.refl R_))), a4, rfl, (show aj.t.R ({ v := (0#32 &&& a9), w := a0.1 } : aj) (.agg [bm (0#32 &&& a9), vi a0.1]) from rfl)⟩
    ·refine bb (de (am (sR (mV rfl (mV rfl ?_)))))
     obtain ⟨a6, d2, s⟩ := bn s
     have e4 := lc (x0 := a0.1)  
     rw [d2] at e4
     refine cL e4 rfl rfl (ai rfl bg) (ab (bz (a := bm 0#32) (b := bm a6) rfl rfl qf) (mV rfl (ab (v := .agg [bm (0#32 &&& a6), vi a0.1]) (fu (cs := [bm (0#32 &&& a6), vi a0.1]) rfl rfl) ?_)))
     refine cw (k := 0) (v := .agg [bm (0#32 &&& a6), vi a0.1]) a3 rfl rfl rfl rfl (fun f8 c1 => ?_)
     replace c1 : Mem f8 (⟨.op a2 a1 0, 301, 2, [.agg [bm (0#32 &&& a6), vi a0.1]]⟩ :: ⟨.op b4 b5 0, 299, 17, [a5]⟩ :: R_) := c1
     refine nS ?_
     have e7 : Mem f8 (⟨.op b4 b5 0, 299, 17, [a5]⟩ :: ⟨.op a2 a1 0, 301, 2, [.agg [bm (0#32 &&& a6), vi a0.1]]⟩ :: R_) := (Mem.front (k := 1) c1 rfl)
     subst s
     exact ji (.cell rfl (dn (k := 0) c1 rfl rfl) .nil) ⟨a5, (.agg [bm (0#32 &&& a6), vi a0.1]), Mem.sub e7 (.cons_cons _ (.cons _ (List.Sublist.refl R_))), a4, rfl, (show aj.t.R ({ v := (0#32 &&& a6), w := a0.1 } : aj) (.agg [bm (0#32 &&& a6), vi a0.1]) from rfl)⟩

end Go.Proofs.YtmonnlkagniolaaGreat
