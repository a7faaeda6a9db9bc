/-
 The code of each function does what its plain program says.
-/
import Derived.Test.YthdnpgpnodgicaaGreatL6W6
set_option linter.unusedVariables false
set_option linter.unusedSimpArgs false
set_option maxRecDepth 100000
namespace Go.Proofs.YthdnpgpnodgicaaGreat
open Go Go.Pb Go.RowKit
def RF82 (res : Int) (r : PV) : Prop := r = vi res
theorem nf {S : List Fr} {res : Int} {x0 : List bn} {x1 : bn → Bool} {v0 v1 : PV} (r0 : (tSl bn.t).R x0 v0) (r1 : (tFn Tryz.prog bn.t tB).R x1 v1) {K0 : Unit → Int}
  (a8 : K0 () = res → PX Tryz.prog 0 S (QR Tryz.prog [(4, none)] (RF82 res)) [] ⟨0, []⟩) :
  ∀ {m : Nat} {a0 : Int} (a7 : m = Int.toNat ((x0.length : Int) - a0)) (a2 : 0 ≤ a0), bt x0 x1 K0 m a0 = res → RC Tryz.prog (.loop di5) S (QR Tryz.prog [(4, none)] (RF82 res)) [(8, vi a0), (7, vi (x0.length : Int)), (1, v1), (0, v0)] ⟨0, []⟩ := by
 intro m
 induction m with
 | zero =>
  intro a0 a7 a2 hres
  rw [bt] at hres
  refine bp (sR (bN cj rfl rfl (nS (af ?_))))
  refine bf rfl ?_ ?_ <;> intro c <;> try simp only [qa] at c
  ·omega
  refine db (dn (cq ?_))
  exact wP (a8  hres) rfl
 | succ m ih =>
  intro a0 a7 a2 hres
  rw [bt] at hres
  refine bp (sR (bN cj rfl rfl (nS (af ?_))))
  refine bf rfl ?_ ?_ <;> intro c <;> try simp only [qa] at c
  rotate_left
  ·omega
  refine ax (ai (af (bc (sR (mV rfl (mV rfl (nR (mV rfl ?_))))))))
  refine mV rfl (mV rfl ?_)
  obtain ⟨a5, a4, a3⟩ := ct (i := a0) r0 (by first | omega | (have hk := aw1 (by assumption) (by assumption); omega) | (have hk := tck (by assumption) (by assumption); omega) | (have hk := rtck (by assumption) (by assumption); omega) | (have hk := eck (by assumption) (by assumption) (by assumption); omega) | (have hk := tv (by assumption) (by assumption); omega) | (have hk := rtv (by assumption) (by assumption); omega)) (by first | omega | (have hk := aw1 (by assumption) (by assumption); omega) | (have hk := tck (by assumption) (by assumption); omega) | (have hk := rtck (by assumption) (by assumption); omega) | (have hk := eck (by assumption) (by assumption) (by assumption); omega) | (have hk := tv (by assumption) (by assumption); omega) | (have hk := rtv (by assumption) (by assumption); omega))
  refine ae (bg rfl rfl a4) (lD a3 rfl rfl rfl ?_)
  refine bc5 rfl r1 rfl (show bn.t.R (ix x0 a0) a5 from a3) (fun a6 a1 => ?_)
  have a1 : a6 = vb (x1 (ix x0 a0)) := a1; subst a1
  refine nS ?_
  refine cv hres rfl ?_ ?_ <;> clear hres <;> intro c hres <;> try simp only [qa] at c
  ·refine sR (mV rfl (mV rfl (nS ?_)))
   exact rR hres rfl rfl rfl
  ·refine ax (da (ai (ah (bN dp rfl rfl (mV rfl (aw (cf ?_)))))))
   have hbd := df r0
   have hinc : wr (a0 + 1) = a0 + 1 := dg (by omega) (by omega)
   erw [hinc]
   exact wC (ih   (by omega) (by omega) hres) rfl

theorem dz0 {x0 : List bn} {x1 : bn → Bool} {v0 v1 : PV} (r0 : (tSl bn.t).R x0 v0) (r1 : (tFn Tryz.prog bn.t tB).R x1 v1) : FnR Tryz.prog 82 [v0, v1] (vi (gg x0 x1)) := by
 refine fnS (R := RF82) cm3 (fun _ h => h) rfl fun res hres => ?_
 unfold gg at hres
 refine sR (mI rfl (nS (af (sR (mV rfl (ae (cg rfl (bq r0 Tryz.underlying85 _)) (mI rfl (nS ?_))))))))
 refine bc ?_
 refine wC (nf r0 r1 ?_  rfl (by omega) hres) rfl
 ·intro  hres
  refine dv (ai (sR (mI rfl (nS ?_))))
  exact rR hres rfl rfl rfl

def RF84 (res : (List (BitVec 32))) (r : PV) : Prop := (tSl ru).R res r
theorem zk {S : List Fr} {res : (List (BitVec 32))} {x0 : au} {b4 : PV} (hb : x0.Keys.length ≤ 20) (b3 : (tSl ba.t).R x0.Keys b4) {K0 : (List (BitVec 32)) → (List (BitVec 32))}
  (d1 : ∀ {a1 : List (BitVec 32)} {a0 : List PV} {a2 : PV} (a4 : All2 ru.R a1 a0) (a6 : isL a2 = true) (a3 : Wri a2 a0) (a5 : a1.length ≤ 4611686018427387904) {h : Heap} (M0 : Mem h [⟨a2, 64, 1, a0⟩]), K0 a1 = res → PX Tryz.prog 0 S (QR Tryz.prog [(2, none)] (RF84 res)) [(3, a2)] h) :
  ∀ {m : Nat} {a7 : Int} {a1 : List (BitVec 32)} {a0 : List PV} {a2 : PV} (a4 : All2 ru.R a1 a0) (a6 : isL a2 = true) (a3 : Wri a2 a0) (a5 : a1.length ≤ 4611686018427387904) (d0 : m = Int.toNat ((x0.Keys.length : Int) - a7)) (b7 : 0 ≤ a7) (b0 : (a1.length : Int) ≤ a7) {h : Heap} (M0 : Mem h [⟨a2, 64, 1, a0⟩]), jw x0 K0 m a7 a1 = res → RC Tryz.prog (.loop dh4) S (QR Tryz.prog [(2, none)] (RF84 res)) [(9, vi a7), (8, vi (x0.Keys.length : Int)), (7, b4), (3, a2)] h := by
 have hb' := hb
 try simp only [qa] at hb'
 intro m
 induction m with
 | zero =>
  intro a7 a1 a0 a2 a4 a6 a3 a5 d0 b7 b0 h M0 hres
  rw [jw] at hres
  refine bp (sR (bN cj rfl rfl (nS (af ?_))))
  refine bf rfl ?_ ?_ <;> intro c <;> try simp only [qa] at c
  ·omega
  refine db (dn (cq ?_))
  exact wP (d1 a4 a6 a3 a5 (Mem.sub M0 (.cons_cons _ .slnil)) hres) rfl
 | succ m ih =>
  intro a7 a1 a0 a2 a4 a6 a3 a5 d0 b7 b0 h M0 hres
  rw [jw] at hres
  refine bp (sR (bN cj rfl rfl (nS (af ?_))))
  refine bf rfl ?_ ?_ <;> intro c <;> try simp only [qa] at c
  rotate_left
  ·omega
  refine ax (ai (af (bc (sR ?_))))
  obtain ⟨c1, c7, b2⟩ := ct (i := a7) b3 (by first | omega | (have hk := aw1 (by assumption) (by assumption); omega) | (have hk := tck (by assumption) (by assumption); omega) | (have hk := rtck (by assumption) (by assumption); omega) | (have hk := eck (by assumption) (by assumption) (by assumption); omega) | (have hk := tv (by assumption) (by assumption); omega) | (have hk := rtv (by assumption) (by assumption); omega)) (by first | omega | (have hk := aw1 (by assumption) (by assumption); omega) | (have hk := tck (by assumption) (by assumption); omega) | (have hk := rtck (by assumption) (by assumption); omega) | (have hk := eck (by assumption) (by assumption) (by assumption); omega) | (have hk := tv (by assumption) (by assumption); omega) | (have hk := rtv (by assumption) (by assumption); omega))
  refine ae (bg rfl rfl c7) (lD b2 rfl rfl rfl ?_)
  refine dh (x := .agg [dx 0#32, dx 0#32]) M0 rfl rfl (fun c6 c8 d2 c5 => ?_)
  refine de (k := 0) (v := c1) c5 rfl rfl rfl (TR.cnt ba.t b2) (fun b5 a9 => ?_)
  replace a9 : Mem b5 [⟨.op c6 c8 0, 127, 2, [c1]⟩, ⟨a2, 64, 1, a0⟩] := a9
  refine nS (ah (mV rfl (ae (bm rfl) (ae (cm (k := 0) a9 rfl rfl (ba.g_Value b2)) (ae (v := .fs true [dx ((ix x0.Keys a7).Value)]) (fm rfl (all_cons rfl jn)) ?_)))))
  have c3 : (tSl ru).R ([(ix x0.Keys a7).Value] : List (BitVec 32)) (.fs true [dx ((ix x0.Keys a7).Value)]) := rh ⟨rfl, trivial⟩ (by simp)
  obtain ⟨a8, b6, b1⟩ := qc (t := ru) (h := b5) c3
  have c2 : fits (a0.length + a8.length) 4 = true := by rw [All2.length_eq a4, All2.length_eq b1]; (try simp only [List.length_cons, List.length_nil]); exact kx (by omega) (by omega)
  refine lh (k := 1) (es := a0) (news := a8) a9 rfl rfl rfl a6 a3 b6 c2 (fun d3 d4 c4 b8 c9 => ?_)
  have c0 : All2 ru.R (a1 ++ ([(ix x0.Keys a7).Value] : List (BitVec 32))) (a0 ++ a8) := All2.app a4 b1
  have b9 : (a1 ++ ([(ix x0.Keys a7).Value] : List (BitVec 32))).length ≤ 4611686018427387904 := by rw [← All2.length_eq c0, List.length_append]; exact ny c2
  refine mV rfl (aw (da (ai (ah (bN dp rfl rfl (mV rfl (aw (cf ?_))))))))
  have hbd := df b3
  have hinc : wr (a7 + 1) = a7 + 1 := dg (by omega) (by omega)
  erw [hinc]
  exact wC (ih  c0 c4 b8 b9 (by omega) (by omega) (by first | omega | (simp; done) | (simp only [List.length_append, List.length_cons, List.length_nil, List.length_set]; omega)) (Mem.sub c9 (.cons _ (.cons_cons _ .slnil))) hres) rfl

theorem dp5 {x0 : au} {v0 : PV} (r0 : au.t.R x0 v0) (hb : x0.Keys.length ≤ 20) : ∃ r, FnR Tryz.prog 84 [v0] r ∧ (tSl ru).R (px x0) r := by
 refine fnT (R := RF84) by2 rfl fun res hres => ?_
 unfold px at hres
 refine sR (ae (di rfl (TR.cnt au.t r0)) (ae (v := nilS) (aq rfl) (nR (ae (v := nilS) (aq rfl) (nS (af (sR (gL (au.g_Keys r0) rfl rfl rfl fun b2 a6 => ?_))))))))
 refine ae (cg rfl (bq a6 Tryz.underlying38 _)) (mI rfl (nS (bc ?_)))
 have b0 := ml (sz := 1) (es := []) (Mem.nil ⟨0, []⟩) 64 (.inl ⟨none, rfl, rfl⟩) (by simp)
 refine wC (zk hb a6 ?_  aL rfl (.inl rfl) (by first | decide | simp) rfl (by omega) (by first | omega | (simp; done) | (simp only [List.length_append, List.length_cons, List.length_nil, List.length_set]; omega)) (Mem.sub b0 (.cons_cons _ .slnil)) hres) rfl
 ·intro a3 a5 a7 a2 a1 a4 a0 b4 b1 hres
  refine dv (ai (sR (mV rfl (mV rfl (nS ?_)))))
  obtain ⟨b3, a9, a8⟩ := tw (P := Tryz.prog) (k := 0) (t := ru) b1 rfl a1 a2 (Nat.le_trans a0 (by decide))
  subst hres
  exact dk (.tmp rfl .nil) a9 a8

theorem cj0 (ad : Option Addr) (ox oy : Operand) : ∃ b, binF Tryz.prog .eql 38 ox oy (.sc (.slice ad 0 0)) nilS = some (vb b) := by
 cases ad with
 | none => exact ⟨true, by kernel_rfl⟩
 | some a => exact ⟨false, by cases a; kernel_rfl⟩
theorem cw3 (tg : Bool) (es : List PV) (ox oy : Operand) : binF Tryz.prog .eql 38 ox oy (.fs tg es) nilS = some (vb false) := rfl
theorem cd4 {l : List ba} {v : PV} (r : (tSl ba.t).R l v) (ox oy : Operand) : ∃ b, binF Tryz.prog .eql 38 ox oy v nilS = some (vb b) ∧ (b = true → l = []) := by
 obtain ⟨⟨es, he, hl⟩, hb⟩ := r
 rcases he with ⟨ad, rfl, rfl⟩ | ⟨tg, rfl⟩
 ·obtain ⟨b, h⟩ := cj0 ad ox oy
  refine ⟨b, h, fun _ => ?_⟩
  cases l with
  | nil => rfl
  | cons _ _ => simp [All2] at hl
 ·exact ⟨false, cw3 tg es ox oy, fun h => by cases h⟩
theorem dx0 {x0 : List ba} {v0 : PV} (r0 : (tSl ba.t).R x0 v0) (hb : x0.length ≤ 2000000) : ∃ r, FnR Tryz.prog 69 [v0] r ∧ (tSl ba.t).R x0 r := by
 refine fnE cf9 (by simp) ?_
 refine af (ah (ae (v := nilS) (aq rfl) (aw (ai (af (af (ah (ae (aq rfl) ?_))))))))
 obtain ⟨b, e1, e2⟩ := cd4 r0 (.tmp 3) (.const (.slice none 0 0))
 refine ae (ay rfl rfl e1) (aw (ai (bf rfl (fun hc => ?_) fun hc => ?_)))
 ·have hx := e2 hc
  refine af (ah (ae (v := nilS) (aq rfl) (aw (ai ?_))))
  exact dk (.tmp rfl .nil) (cd rfl) (by rw [hx]; exact fg)
 ·refine ax (ai (af (ah ?_)))
  refine ae (v := .fs true []) (fm rfl jn) (ae (aq rfl) ?_)
  have MA := ml (sz := 2) (es := []) (Mem.nil ⟨0, []⟩) 127 (.inr rfl) (by simp)
  obtain ⟨nw, sr, ar⟩ := qc (t := ba.t) (h := ⟨0, []⟩) r0
  have ff : fits (([] : List PV).length + nw.length) 8 = true := by rw [All2.length_eq ar]; (try simp only [List.length_cons, List.length_nil]); exact kx (by omega) (by omega)
  refine lh (k := 0) (es := ([] : List PV)) (news := nw) MA rfl rfl rfl rfl (.inl rfl) sr ff (fun a h n wr M => ?_)
  refine ae (aq rfl) (aw (ai ?_))
  obtain ⟨v1, d1, r1⟩ := tw (P := Tryz.prog) (k := 0) (t := ba.t) M rfl n ar (Nat.le_trans (show x0.length ≤ 4611686018427387904 by omega) (by decide))
  exact dk (.tmp rfl .nil) d1 r1
theorem cb1 (ad : Option Addr) (ox oy : Operand) : ∃ b, binF Tryz.prog .eql 33 ox oy (.sc (.slice ad 0 0)) nilS = some (vb b) := by
 cases ad with
 | none => exact ⟨true, by kernel_rfl⟩
 | some a => exact ⟨false, by cases a; kernel_rfl⟩
theorem di0 (tg : Bool) (es : List PV) (ox oy : Operand) : binF Tryz.prog .eql 33 ox oy (.fs tg es) nilS = some (vb false) := rfl
theorem cn5 {l : List (BitVec 32)} {v : PV} (r : (tSl ru).R l v) (ox oy : Operand) : ∃ b, binF Tryz.prog .eql 33 ox oy v nilS = some (vb b) ∧ (b = true → l = []) := by
 obtain ⟨⟨es, he, hl⟩, hb⟩ := r
 rcases he with ⟨ad, rfl, rfl⟩ | ⟨tg, rfl⟩
 ·obtain ⟨b, h⟩ := cb1 ad ox oy
  refine ⟨b, h, fun _ => ?_⟩
  cases l with
  | nil => rfl
  | cons _ _ => simp [All2] at hl
 ·exact ⟨false, di0 tg es ox oy, fun h => by cases h⟩
theorem dq6 {x0 : List (BitVec 32)} {v0 : PV} (r0 : (tSl ru).R x0 v0) (hb : x0.length ≤ 2000000) : ∃ r, FnR Tryz.prog 70 [v0] r ∧ (tSl ru).R x0 r := by
 refine fnE bz0 (by simp) ?_
 refine af (ah (ae (v := nilS) (aq rfl) (aw (ai (af (af (ah (ae (aq rfl) ?_))))))))
 obtain ⟨b, e1, e2⟩ := cn5 r0 (.tmp 3) (.const (.slice none 0 0))
 refine ae (ay rfl rfl e1) (aw (ai (bf rfl (fun hc => ?_) fun hc => ?_)))
 ·have hx := e2 hc
  refine af (ah (ae (v := nilS) (aq rfl) (aw (ai ?_))))
  exact dk (.tmp rfl .nil) (cd rfl) (by rw [hx]; exact fg)
 ·refine ax (ai (af (ah ?_)))
  refine ae (v := .fs true []) (fm rfl jn) (ae (aq rfl) ?_)
  have MA := ml (sz := 1) (es := []) (Mem.nil ⟨0, []⟩) 64 (.inr rfl) (by simp)
  obtain ⟨nw, sr, ar⟩ := qc (t := ru) (h := ⟨0, []⟩) r0
  have ff : fits (([] : List PV).length + nw.length) 4 = true := by rw [All2.length_eq ar]; (try simp only [List.length_cons, List.length_nil]); exact kx (by omega) (by omega)
  refine lh (k := 0) (es := ([] : List PV)) (news := nw) MA rfl rfl rfl rfl (.inl rfl) sr ff (fun a h n wr M => ?_)
  refine ae (aq rfl) (aw (ai ?_))
  obtain ⟨v1, d1, r1⟩ := tw (P := Tryz.prog) (k := 0) (t := ru) M rfl n ar (Nat.le_trans (show x0.length ≤ 4611686018427387904 by omega) (by decide))
  exact dk (.tmp rfl .nil) d1 r1
theorem dw7 {x0 : av} {v0 : PV} (r0 : av.t.R x0 v0) (hb : SR x0) : ∃ r, FnR Tryz.prog 35 [v0] r ∧ av.t.R x0 r := by
 refine fnE cg4 (by simp) ?_
 have a0 := r0
 obtain ⟨c1, c2, rfl, q1, q2⟩ := a0
 refine af (ah ?_)
 refine xh (Mem.nil _) rfl rfl (fun i1 w1 h1 M1 => ?_)
 refine dh (x := .agg [vi 0, nilS, vi 0, vi 0, nilS]) M1 rfl rfl (fun i2 w2 h2 M2 => aw (ai ?_))
 obtain ⟨d1, f1, s1⟩ := dx0 q1 (by have := hb.1; omega)
 obtain ⟨d2, f2, s2⟩ := dq6 q2 (by have := hb.2; omega)
 refine af (ah ?_)
 refine ae (bm rfl) (ae (bm rfl) (ae (cm (k := 1) M2 rfl rfl (mk1 (TR.agg _ q1))) ?_))
 refine cL f1 rfl rfl (aj (TR.clo _ q1) bb) (ae (bm rfl) (ae (bm rfl) ?_))
 refine gw (k := 1) (v := d1) M2 rfl rfl rfl (ae8 (TR.cnt _ s1) (TR.agg _ s1)) rfl (by simp) (fun h3 M3 => aw (ai ?_))
 replace M3 : Mem h3 [⟨.op i2 w2 0, 44, 5, [.agg [vi 0, nilS, vi 0, vi 0, nilS]]⟩, ⟨.op i1 w1 0, 44, 5, [.agg [vi x0.ID, d1, vi x0.Entry.Priority, vi x0.Entry.Call.Action, c2]]⟩] := M3
 refine af (ah ?_)
 refine ae (bm rfl) (ae (bm rfl) (ae (bm rfl) (ae (cm (off := 4) (k := 1) M3 rfl rfl (mk1 (TR.agg _ q2))) ?_)))
 refine cL f2 rfl rfl (aj (TR.clo _ q2) bb) (ae (bm rfl) (ae (bm rfl) (ae (bm rfl) ?_)))
 refine gw (off := 4) (k := 1) (v := d2) M3 rfl rfl rfl (ae8 (TR.cnt _ s2) (TR.agg _ s2)) rfl (by simp) (fun h4 M4 => aw (ai ?_))
 replace M4 : Mem h4 [⟨.op i2 w2 0, 44, 5, [.agg [vi 0, nilS, vi 0, vi 0, nilS]]⟩, ⟨.op i1 w1 0, 44, 5, [.agg [vi x0.ID, d1, vi x0.Entry.Priority, vi x0.Entry.Call.Action, d2]]⟩] := M4
 refine af (ah ?_)
 refine ae (fe (k := 1) M4 rfl rfl rfl) ?_
 have hR : av.t.R x0 (.agg [vi x0.ID, d1, vi x0.Entry.Priority, vi x0.Entry.Call.Action, d2]) := ⟨d1, d2, rfl, s1, s2⟩
 refine de (k := 0) (v := .agg [vi x0.ID, d1, vi x0.Entry.Priority, vi x0.Entry.Call.Action, d2]) M4 rfl rfl rfl rfl (fun h5 M5 => aw (ai ?_))
 exact dk (.cell rfl (ie (k := 0) M5 rfl rfl) .nil) (cd (TR.clo _ hR)) hR
theorem bv8 {P : Program} {h : Heap} {cs ds : List PV} (H : DeepCL P h cs ds) : Deep P h (.agg cs) (.agg ds) := by4 H.closed fun k hk w0 F0 x us R hv => H.vrl hk R hv
theorem bu6 {P : Program} {h : Heap} {L : List Ent} {k id ver : Nat} {ty : TypeId} {sz : Nat} {cs ds : List PV} (M : Mem h L) (hk : L[k]? = some ⟨.op id ver 0, ty, sz, [.agg cs]⟩) (H : DeepCL P h cs ds) : DeepC P h (.op id ver 0) (.fp (.agg ds)) := by
 obtain ⟨h1, x', cs', h2, h3, h4⟩ := M.atF hk
 simp only [List.cons.injEq, and_true] at h2
 subst h2
 simp only [PV.cellsOf, Option.some.injEq] at h3
 subst h3
 refine ⟨by simpa [closed] using H.closed, rfl, fun k hk' w0 F0 y us R hv => ?_⟩
 simp only [VRC] at hv ⊢
 obtain ⟨b, hj, rfl⟩ := hv
 obtain ⟨cur, hcur, hcl, hvr⟩ := jy R (hk' _ _ h4) hj
 exact ⟨b, 0, cur.toList.take cs.length, rfl, .inr (R.own _ _ _ hj), by simpa using ku hcur 0 cs.length, H.vrl hk' R hvr⟩
theorem eb7 {cc cs ds : List PV} {a off : Nat} (hs : (cc.drop a).take cs.length = cs) (hl : off + ds.length ≤ cs.length) (ha : a + cs.length ≤ cc.length) : spl cc a (spl cs off ds) = spl cc (a + off) ds := by
 have hcc : cc = cc.take a ++ (cs ++ cc.drop (a + cs.length)) := by
  conv => lhs; rw [← List.take_append_drop a cc, ← List.take_append_drop cs.length (cc.drop a), hs, List.drop_drop]
 have hn : (spl cs off ds).length = cs.length := by simp [spl]; omega
 generalize hA : cc.take a = A at hcc
 generalize cc.drop (a + cs.length) = B at hcc
 have hAl : A.length = a := by rw [← hA, List.length_take]; omega
 subst hcc
 subst hAl
 have e1 : (A ++ (cs ++ B)).take (A.length + off) = A ++ cs.take off := by rw [List.take_append, List.take_of_length_le (by omega), show A.length + off - A.length = off by omega, List.take_append, show off - cs.length = 0 by omega]; simp
 have e2 : (A ++ (cs ++ B)).drop (A.length + off + ds.length) = cs.drop (off + ds.length) ++ B := by rw [List.drop_append, List.drop_of_length_le (by omega), show A.length + off + ds.length - A.length = off + ds.length by omega, List.drop_append, show off + ds.length - cs.length = 0 by omega]; simp
 have e3 : (A ++ (cs ++ B)).take A.length = A := by simp
 have e4 : (A ++ (cs ++ B)).drop (A.length + (spl cs off ds).length) = B := by rw [hn, List.drop_append, List.drop_of_length_le (by omega)]; simp
 have e5 : spl (A ++ (cs ++ B)) A.length (spl cs off ds) = A ++ (spl cs off ds ++ B) := by
  show List.take _ _ ++ (_ ++ List.drop _ _) = _
  rw [e3, e4]
 rw [e5]
 simp only [spl, e1, e2, List.append_assoc]
theorem cn6 {h : Heap} {L : List Ent} {k id ver n i off : Nat} {ty : TypeId} {sz : Nat} {es cs ds : List PV} {v : PV} (M : Mem h L) (hk : L[k]? = some ⟨.os id ver 0 n, ty, sz, es⟩) (hi : es[i]? = some (.agg cs)) (hv : v.cellsOf = some ds) (hl : off + ds.length ≤ cs.length) :
  ∃ h', storeR h ds.length (.op id ver (0 + i * sz + off)) v = some (.tup [], h') ∧ Mem h' (L.set k ⟨.os id ver 0 n, ty, sz, es.set i (.agg (spl cs off ds))⟩) := by
 obtain ⟨h1, hn, cc, h2, h3⟩ := M.atF hk
 obtain ⟨hil, hie⟩ := List.getElem?_eq_some_iff.1 hi
 obtain ⟨h4, h5⟩ := aa8 h1 h2 hi
 simp only [PV.cellsOf, Option.some.injEq] at h5
 have hcs : cs.length = sz := by have := h1 _ (List.mem_of_getElem? hi); simpa [cnt] using this
 have hsp : spl cc (i * sz) (spl cs off ds) = spl cc (i * sz + off) ds := eb7 (by rw [hcs, ← h5]) hl (by omega)
 have hsl : (spl cs off ds).length = sz := by simp [spl]; omega
 have hrc := ab7 (v := .agg (spl cs off ds)) h1 h2 hil rfl hsl
 refine ⟨hput h id (.cells ver ty true (spl cc (i * sz + off) ds)), ?_, M.upd hk ⟨fun x hx => ?_, by simp [hn], _, hrc, by rw [hsp]; simp [nk h3]⟩ (fun i hi => .inl hi) fun i hi hne => ?_⟩
 ·rw [ai8, h3, Nat.zero_add]
  simp only [storeB, hv]
  rw [if_pos ⟨trivial, trivial, by omega⟩]
 ·rcases List.mem_or_eq_of_mem_set hx with h6 | h6
  ·exact h1 x h6
  ·rw [h6]; simp [cnt, hsl]
 ·exact iq _ _ _ _ fun e => hne (by simp [idOf, e])
theorem cq7 {P : Program} {S : List Fr} {Q : Post} {E : TEnv} {h : Heap} {L : List Ent} {hf : Bool} {r : List AOper} {o o' : Operand} {k id ver n i off sz' : Nat} {ty : TypeId} {sz : Nat} {es cs ds : List PV} {v : PV} (M : Mem h L) (eo : evE E o = some (.op id ver (0 + i * sz + off))) (ev' : evE E o' = some v) (hk : L[k]? = some ⟨.os id ver 0 n, ty, sz, es⟩) (hi : es[i]? = some (.agg cs)) (hv : v.cellsOf = some ds) (hn : ds.length = sz') (hl : off + ds.length ≤ cs.length)
  (K : ∀ h', Mem h' (L.set k ⟨.os id ver 0 n, ty, sz, es.set i (.agg (spl cs off ds))⟩) → RD P r S Q E h') : RD P (⟨none, .store sz' o o', none, hf⟩ :: r) S Q E h := by
 subst hn
 obtain ⟨h', h1, h2⟩ := cn6 M hk hi hv hl
 exact ab5 ⟨rfl, fun T hT => by show storeR h ds.length (ev T o) (ev T o') = _; rw [dw hT eo, dw hT ev', h1]⟩ (K h' h2)
theorem ca2 (ad : Option Addr) (ox oy : Operand) : ∃ b, binF Tryz.prog .eql 85 ox oy (.sc (.slice ad 0 0)) nilS = some (vb b) := by
 cases ad with
 | none => exact ⟨true, by kernel_rfl⟩
 | some a => exact ⟨false, by cases a; kernel_rfl⟩
theorem cx0 (tg : Bool) (es : List PV) (ox oy : Operand) : binF Tryz.prog .eql 85 ox oy (.fs tg es) nilS = some (vb false) := rfl
theorem cj5 {l : List bn} {v : PV} (r : (tSl bn.t).R l v) (ox oy : Operand) : ∃ b, binF Tryz.prog .eql 85 ox oy v nilS = some (vb b) ∧ (b = true → l = []) := by
 obtain ⟨⟨es, he, hl⟩, hb⟩ := r
 rcases he with ⟨ad, rfl, rfl⟩ | ⟨tg, rfl⟩
 ·obtain ⟨b, h⟩ := ca2 ad ox oy
  refine ⟨b, h, fun _ => ?_⟩
  cases l with
  | nil => rfl
  | cons _ _ => simp [All2] at hl
 ·exact ⟨false, cx0 tg es ox oy, fun h => by cases h⟩
theorem dz2 {x0 : List bn} {v0 : PV} (r0 : (tSl bn.t).R x0 v0) (hb : x0.length ≤ 2000000) : ∃ r, FnR Tryz.prog 79 [v0] r ∧ (tSl bn.t).R x0 r := by
 refine fnE cg6 (by simp) ?_
 refine af (ah (ae (v := nilS) (aq rfl) (aw (ai (af (af (ah (ae (aq rfl) ?_))))))))
 obtain ⟨b, e1, e2⟩ := cj5 r0 (.tmp 3) (.const (.slice none 0 0))
 refine ae (ay rfl rfl e1) (aw (ai (bf rfl (fun hc => ?_) fun hc => ?_)))
 ·have hx := e2 hc
  refine af (ah (ae (v := nilS) (aq rfl) (aw (ai ?_))))
  exact dk (.tmp rfl .nil) (cd rfl) (by rw [hx]; exact fg)
 ·refine ax (ai (af (ah ?_)))
  refine ae (v := .fs true []) (fm rfl jn) (ae (aq rfl) ?_)
  have MA := ml (sz := 3) (es := []) (Mem.nil ⟨0, []⟩) 112 (.inr rfl) (by simp)
  obtain ⟨nw, sr, ar⟩ := qc (t := bn.t) (h := ⟨0, []⟩) r0
  have ff : fits (([] : List PV).length + nw.length) 24 = true := by rw [All2.length_eq ar]; (try simp only [List.length_cons, List.length_nil]); exact kx (by omega) (by omega)
  refine lh (k := 0) (es := ([] : List PV)) (news := nw) MA rfl rfl rfl rfl (.inl rfl) sr ff (fun a h n wr M => ?_)
  refine ae (aq rfl) (aw (ai ?_))
  obtain ⟨v1, d1, r1⟩ := tw (P := Tryz.prog) (k := 0) (t := bn.t) M rfl n ar (Nat.le_trans (show x0.length ≤ 4611686018427387904 by omega) (by decide))
  exact dk (.tmp rfl .nil) d1 r1
def zTV : PV := .agg [vs [], nilS, nilS, vi 0, nilS, vi 0]
theorem em8 : az.t.R zT zTV := ⟨_, _, _, rfl, fg, fg, fg⟩
theorem dr9 {x0 : ab} {x1 : Int} {v0 : PV} (r0 : ab.t.R x0 v0) (h0 : 0 ≤ x1) (h1 : x1 < x0.Tables.length) (h2 : x1 ≤ 1000000) (h3 : (ix x0.Tables x1).Keys.length ≤ 2000) : ∃ r, FnR Tryz.prog 43 [v0, vi x1] r ∧ ab.t.R (ownP x0 x1) r := by
 refine fnE ck0 (by simp) ?_
 refine af (ah (ae (di rfl (TR.cnt ab.t r0)) ?_))
 refine dh (x := .agg [vs [], nilS, nilS, nilS, nilS, nilS, nilS, nilS, nilS]) (Mem.nil _) rfl rfl (fun i4 w4 h4 M4 => aw (ai ?_))
 refine af (ah (ae (aq rfl) (ae (ay rfl rfl dp) ?_)))
 have hinc : wr (x1 + 1) = x1 + 1 := dg (by omega) (by omega)
 have hfit : fits (x1 + 1).toNat 104 = true := kx (by omega) (Nat.le_trans (Nat.mul_le_mul_right 104 (show (x1 + 1).toNat ≤ 1000001 by omega)) (by decide))
 refine bt0 (m := x1 + 1) (zs := [vs [], nilS, nilS, vi 0, nilS, vi 0]) (zz := zTV) M4 (by omega) (by show some (vi (wr (x1 + 1))) = _; rw [hinc]) (by show some (vi (wr (x1 + 1))) = _; rw [hinc]) rfl rfl rfl hfit (fun i8 w8 h8 M8 => ?_)
 refine ae (v := .agg [vs [], nilS, nilS, nilS, nilS, .os i8 w8 0 (x1 + 1).toNat, nilS, nilS, nilS]) (kh (cs := [vs [], nilS, nilS, nilS, nilS, .os i8 w8 0 (x1 + 1).toNat, nilS, nilS, nilS]) rfl rfl) ?_
 refine dh (x := .agg [vs [], nilS, nilS, nilS, nilS, nilS, nilS, nilS, nilS]) M8 rfl rfl (fun i5 w5 h5 M5 => ?_)
 refine de (k := 0) (v := .agg [vs [], nilS, nilS, nilS, nilS, .os i8 w8 0 (x1 + 1).toNat, nilS, nilS, nilS]) M5 rfl rfl rfl rfl (fun h6 M6 => aw (ai ?_))
 replace M6 : Mem h6 [⟨.op i5 w5 0, 31, 9, [.agg [vs [], nilS, nilS, nilS, nilS, .os i8 w8 0 (x1 + 1).toNat, nilS, nilS, nilS]]⟩, ⟨.os i8 w8 0 (x1 + 1).toNat, 87, 6, List.replicate (x1 + 1).toNat zTV⟩, ⟨.op i4 w4 0, 31, 9, [.agg [vs [], nilS, nilS, nilS, nilS, nilS, nilS, nilS, nilS]]⟩] := M6
 refine af (ah ?_)
 refine ae (bm rfl) (ae (cm (k := 0) (off := 5) (w := .os i8 w8 0 (x1 + 1).toNat) M6 rfl rfl rfl) (ae (aq rfl) ?_))
 obtain ⟨wt, gt, rt⟩ := ab.g_Tables r0
 refine ae (bz rfl gt) (ae (br rfl (TR.cnt _ rt) (TR.agg _ rt)) (ae (aq rfl) ?_))
 obtain ⟨e0, a0, q0⟩ := ct (i := x1) rt h0 h1
 obtain ⟨wk, gk, rk⟩ := az.g_Keys q0
 refine ae (bg rfl rfl a0) (ae (bz rfl gk) (ae (br rfl (TR.cnt _ rk) (TR.agg _ rk)) ?_))
 obtain ⟨d, f1, s1⟩ := dz2 rk (by omega)
 refine cL f1 rfl rfl (aj (TR.clo _ rk) bb) ?_
 refine ae (v := .op i8 w8 (0 + x1.toNat * 6)) (bg rfl rfl (by have := dz8 (id := i8) (ver := w8) (off := 0) (n := (x1 + 1).toNat) (j := x1.toNat) (k := .i64) (by omega) 6; rw [Int.toNat_of_nonneg h0] at this; exact this)) (ae (bm rfl) ?_)
 refine cq7 (k := 1) (cs := [vs [], nilS, nilS, vi 0, nilS, vi 0]) (ds := [d]) M6 rfl rfl rfl (by rw [List.getElem?_replicate, if_pos (by omega)]; rfl) (ae8 (TR.cnt _ s1) (TR.agg _ s1)) rfl (by simp) (fun h7 M7 => aw (ai ?_))
 replace M7 : Mem h7 [⟨.op i5 w5 0, 31, 9, [.agg [vs [], nilS, nilS, nilS, nilS, .os i8 w8 0 (x1 + 1).toNat, nilS, nilS, nilS]]⟩, ⟨.os i8 w8 0 (x1 + 1).toNat, 87, 6, (List.replicate (x1 + 1).toNat zTV).set x1.toNat (.agg [vs [], d, nilS, vi 0, nilS, vi 0])⟩, ⟨.op i4 w4 0, 31, 9, [.agg [vs [], nilS, nilS, nilS, nilS, nilS, nilS, nilS, nilS]]⟩] := M7
 refine af (ah (ae (fe (k := 0) M7 rfl rfl rfl) ?_))
 refine de (k := 2) (v := .agg [vs [], nilS, nilS, nilS, nilS, .os i8 w8 0 (x1 + 1).toNat, nilS, nilS, nilS]) M7 rfl rfl rfl rfl (fun h9 M9 => aw (ai ?_))
 replace M9 : Mem h9 [⟨.op i5 w5 0, 31, 9, [.agg [vs [], nilS, nilS, nilS, nilS, .os i8 w8 0 (x1 + 1).toNat, nilS, nilS, nilS]]⟩, ⟨.os i8 w8 0 (x1 + 1).toNat, 87, 6, (List.replicate (x1 + 1).toNat zTV).set x1.toNat (.agg [vs [], d, nilS, vi 0, nilS, vi 0])⟩, ⟨.op i4 w4 0, 31, 9, [.agg [vs [], nilS, nilS, nilS, nilS, .os i8 w8 0 (x1 + 1).toNat, nilS, nilS, nilS]]⟩] := M9
 have hA : All2 az.t.R (ownP x0 x1).Tables ((List.replicate (x1 + 1).toNat zTV).set x1.toNat (.agg [vs [], d, nilS, vi 0, nilS, vi 0])) := (All2.rep em8 _).set ⟨_, _, _, rfl, s1, fg, fg⟩
 obtain ⟨r, d1, s2⟩ := bv4 (P := Tryz.prog) (M9.at (k := 1) rfl) rfl hA.clo
 have cl : ∀ v, closed v = true → DeepC Tryz.prog h9 v v := fun v hv => pp hv
 refine dk (.cell rfl (ie (k := 2) M9 rfl rfl) .nil) (bv8 (ds := [vs [], nilS, nilS, nilS, nilS, r, nilS, nilS, nilS]) ⟨cl _ rfl, cl _ rfl, cl _ rfl, cl _ rfl, cl _ rfl, d1, cl _ rfl, cl _ rfl, cl _ rfl, trivial⟩) ?_
 exact ⟨_, _, _, _, _, _, _, _, rfl, fg, fg, fg, fg, ⟨⟨_, s2, hA⟩, by show ((List.replicate _ _).set _ _).length ≤ _; simp; omega⟩, fg, fg, fg⟩
theorem eu2 {x0 c0 : av} {v0 w0 : PV} (r0 : av.t.R x0 v0) (a0 : av.t.R c0 w0) : FnR Tryz.prog 41 [v0, .fp w0] (vb (jm x0.Entry c0.Entry)) := by
 obtain ⟨r, h1, rfl⟩ : ∃ r, FnR Tryz.prog 41 [v0, .fp w0] r ∧ r = vb (jm x0.Entry c0.Entry) := by
  refine fnE ci7 (by simp) ?_
  refine af (ah (ae (di rfl (TR.cnt av.t r0)) (ae (v := vb false) (aq rfl) (aw (ai ?_)))))
  obtain ⟨we, ge, re⟩ := av.g_Entry r0
  obtain ⟨wf, gf, rf⟩ := av.g_Entry a0
  refine af (ah (ae (bz rfl ge) (ae (br rfl (TR.cnt _ re) (TR.agg _ re)) (ae (bz rfl gf) (ae (br rfl (TR.cnt _ rf) (TR.agg _ rf)) ?_)))))
  refine cL (dt9 re rf) rfl rfl (aj (TR.clo _ re) (aj (TR.clo _ rf) bb)) (ae (aq rfl) (aw (ai ?_)))
  exact dk (.tmp rfl .nil) (cd rfl) rfl
 exact h1
theorem ew0 {c0 : av} {w0 : PV} (a0 : av.t.R c0 w0) : (tFn Tryz.prog av.t tB).R (fun r => jm r.Entry c0.Entry) (.fn (.func 41) [] [.fp w0]) :=
 ⟨41, [], _, rfl, rfl, by simp [closedL, closed, TR.clo _ a0], fun a va ra => ⟨_, eu2 ra a0, rfl⟩⟩
theorem et5 {x0 : bn} {v0 : PV} (r0 : bn.t.R x0 v0) : FnR Tryz.prog 83 [v0] (vb (decide (x0.Kind = 2))) := by
 obtain ⟨r, h1, rfl⟩ : ∃ r, FnR Tryz.prog 83 [v0] r ∧ r = vb (decide (x0.Kind = 2)) := by
  refine fnE cg5 (by simp) ?_
  refine af (ah (ae (di rfl (TR.cnt bn.t r0)) (ae (v := vb false) (aq rfl) (aw (ai ?_)))))
  refine af (ah (ae (bz rfl (bn.g_Kind r0)) (ae (br rfl rfl rfl) (ae (ay rfl rfl md) (ae (aq rfl) (aw (ai ?_)))))))
  exact dk (.tmp rfl .nil) (cd rfl) rfl
 exact h1
theorem ev9 : (tFn Tryz.prog bn.t tB).R (fun k => decide (k.Kind = 2)) (.fn (.func 83) [] []) :=
 ⟨83, [], [], rfl, rfl, rfl, fun a va ra => ⟨_, et5 ra, rfl⟩⟩
def nilP : PV := .sc (.pointer none)
def trF : Tr → PV
 | .nil => nilP
 | .node l r s v => .fp (.agg [trF l, trF r, vb s, vi v])
def TrM : Tr → PV → List Ent → Prop
 | .nil, p, L => p = nilP ∧ L = []
 | .node l r s v, p, L => ∃ id ver pl pr Ll Lr, p = .op id ver 0 ∧ L = ⟨.op id ver 0, 151, 4, [.agg [pl, pr, vb s, vi v]]⟩ :: (Ll ++ Lr) ∧ TrM l pl Ll ∧ TrM r pr Lr
theorem at5 : ∀ t, closed (trF t) = true
 | .nil => rfl
 | .node l r s v => by simp [trF, closed, closedL, at5 l, at5 r]
theorem df7 : ∀ t, cnt (trF t) = some 1
 | .nil => rfl
 | .node _ _ _ _ => rfl
theorem de9 : ∀ t, (trF t).isAgg = false
 | .nil => rfl
 | .node _ _ _ _ => rfl
theorem TrM.cnt {t : Tr} {p : PV} {L : List Ent} (H : TrM t p L) : cnt p = some 1 := by
 cases t with
 | nil => rw [H.1]; rfl
 | node l r s v => obtain ⟨_, _, _, _, _, _, rfl, _⟩ := H; rfl
theorem TrM.agg {t : Tr} {p : PV} {L : List Ent} (H : TrM t p L) : p.isAgg = false := by
 cases t with
 | nil => rw [H.1]; rfl
 | node l r s v => obtain ⟨_, _, _, _, _, _, rfl, _⟩ := H; rfl
theorem TrM.deep {P : Program} {h : Heap} {L0 : List Ent} (M : Mem h L0) : ∀ {t : Tr} {p : PV} {L : List Ent}, TrM t p L → (∀ e ∈ L, e ∈ L0) → DeepC P h p (trF t)
 | .nil, p, L, H, _ => by rw [H.1]; exact pp rfl
 | .node l r s v, p, L, H, hs => by
  obtain ⟨id, ver, pl, pr, Ll, Lr, rfl, rfl, h1, h2⟩ := H
  obtain ⟨k, hk⟩ := List.getElem?_of_mem (hs _ List.mem_cons_self)
  exact bu6 M hk ⟨TrM.deep M h1 fun e he => hs e (by simp [he]), TrM.deep M h2 fun e he => hs e (by simp [he]), pp rfl, pp rfl, trivial⟩
theorem cm8 {P : Program} {h : Heap} {v d : PV} (H : DeepC P h v d) : DeepC P h (.fp v) (.fp d) := by
 refine ⟨H.1, rfl, fun k hk w0 F0 x us R hv => ?_⟩
 simp only [VRC] at hv ⊢
 obtain ⟨b, o, xs, rfl, hF, hc, hr⟩ := hv
 exact ⟨b, o, xs, rfl, (VRC_sees (P := P) (qy R) (.fp (.agg [])) _ rfl (by simp only [VRC]; exact ⟨b, o, [], rfl, hF, by intro j u hj; simp at hj, trivial⟩) |> fun q => by simp only [VRC] at q; obtain ⟨b', o', xs', e, hF', _⟩ := q; simp at e; rw [e.1]; exact hF'), hc, H.2.2 k hk w0 F0 x xs R hr⟩
def triP (w : Int) (p : PV) : PV := .fp (.agg [vi w, p])
theorem bx7 {P : Program} {h : Heap} {L0 : List Ent} (M : Mem h L0) {t : Tr} {p : PV} {L : List Ent} {w : Int} (H : TrM t p L) (hs : ∀ e ∈ L, e ∈ L0) : Deep P h (triP w p) (triP w (trF t)) :=
 (cm8 (v := .agg [vi w, p]) (d := .agg [vi w, trF t]) ⟨by simp [closed, closedL, at5], rfl, fun k hk w0 F0 x us R hv => by
  have H2 : DeepCL P h [vi w, p] [vi w, trF t] := ⟨pp rfl, TrM.deep M H hs, trivial⟩
  simp only [VRC] at hv ⊢
  exact H2.vrl hk R hv⟩).deep
theorem dn0 {w : Int} {l r : Tr} {s : Bool} {v : Int} : FnR Tryz.prog 96 [triP w (trF (.node l r s v))] (vb true) := by
 obtain ⟨r', h1, rfl⟩ : ∃ r', FnR Tryz.prog 96 [triP w (trF (.node l r s v))] r' ∧ r' = vb true := by
  refine fnE cn8 (by simp) ?_
  refine af (ah (ae (v := vb false) (aq rfl) (aw (ai ?_))))
  refine af (ah (ae (aq rfl) (ae (v := vb true) (ay rfl rfl rfl) (ae (aq rfl) ?_))))
  refine ak rfl rfl (aq rfl) (ak rfl rfl (dt rfl rfl) (ak rfl rfl (bz (w := trF (.node l r s v)) rfl rfl) (ak rfl rfl (br rfl rfl rfl) ?_)))
  refine ak rfl rfl (v := vb true) (ay rfl rfl rfl) (ae (v := vb true) (th rfl rfl rfl rfl) (ae (aq rfl) (aw (ai ?_))))
  exact dk (.tmp rfl .nil) (cd rfl) rfl
 exact h1
theorem dw0 {w : Int} {p : PV} {x : BitVec 32} {n : Int} (hp : cnt p = some 1) (ha : p.isAgg = false) : FnR Tryz.prog 97 [triP w p, dx x, vi n] (vb (pfx w x n)) := by
 obtain ⟨r', h1, rfl⟩ : ∃ r', FnR Tryz.prog 97 [triP w p, dx x, vi n] r' ∧ r' = vb (pfx w x n) := by
  refine fnE co0 (by simp) ?_
  refine af (ah (ae (v := vb false) (aq rfl) (aw (ai ?_))))
  refine af (ah (ae (aq rfl) (ae (v := vb (decide (0 ≤ n))) (ay rfl rfl se) (ae (aq rfl) ?_))))
  refine bw 7 (d := 16) (v := vb (decide (0 ≤ n) && decide (n ≤ w))) ?_ ?_
  ·intro S Q r
   cases decide (0 ≤ n)
   ·exact gN 6 rfl rfl rfl rfl rfl rfl
   ·intro k
    refine ak rfl rfl (aq rfl) (ak rfl rfl (aq rfl) (ak rfl rfl (dt rfl rfl) (ak rfl rfl (bz (w := vi w) rfl rfl) (ak rfl rfl (br rfl rfl rfl) (ak rfl rfl (ay rfl rfl bb9) ?_)))))
    exact gK rfl rfl rfl rfl rfl k
  refine mV rfl ?_
  refine bw 7 (d := 24) (v := vb (pfx w x n)) ?_ ?_
  ·intro S Q r
   unfold pfx
   cases (decide (0 ≤ n) && decide (n ≤ w))
   ·exact gN 6 rfl rfl rfl rfl rfl rfl
   ·intro k
    refine ak rfl rfl (aq rfl) (ak rfl rfl (aq rfl) (ak rfl rfl (dt rfl rfl) (ak rfl rfl (bz (w := vi w) rfl rfl) (ak rfl rfl (br rfl rfl rfl) ?_))))
    refine io rfl rfl (qt rfl rfl (aj rfl (aj rfl bb)) at1) ?_
    exact gK rfl rfl rfl rfl rfl k
  refine ae (aq rfl) (aw (ai ?_))
  exact dk (.tmp rfl .nil) (cd rfl) rfl
 exact h1
theorem du8 {w : Int} {p : PV} {x : BitVec 32} {d : Int} (h0 : 0 ≤ d) (h1 : d < w) (h2 : w ≤ 32) : FnR Tryz.prog 98 [triP w p, dx x, vi d] (dx (bitT w x d)) := by
 obtain ⟨r', h1, rfl⟩ : ∃ r', FnR Tryz.prog 98 [triP w p, dx x, vi d] r' ∧ r' = dx (bitT w x d) := by
  refine fnE cj7 (by simp) ?_
  refine af (ah (ae (v := dx 0#32) (aq rfl) (aw (ai ?_))))
  have e1 : wr (w - 1) = w - 1 := dg (by omega) (by omega)
  have e2 : wr (w - 1 - d) = w - 1 - d := dg (by omega) (by omega)
  refine af (ah (ae (aq rfl) (ae (aq rfl) (ae (dt rfl rfl) (ae (bz (w := vi w) rfl rfl) (ae (br rfl rfl rfl) ?_))))))
  refine ae (v := vi (w - 1)) (ay rfl rfl (by rw [← e1]; exact vv)) (ae (aq rfl) (ae (v := vi (w - 1 - d)) (ay rfl rfl (by rw [← e2]; exact vv)) ?_))
  refine ae (ay rfl rfl (bm7 (by omega))) (ae (ay (b := dx 1#32) rfl rfl cg9) (ae (aq rfl) (aw (ai ?_))))
  exact dk (.tmp rfl .nil) (cd rfl) rfl
 exact h1
def Zip (p0 : PV) (R0 : List Ent) (b : PV) (R : List Ent) (plug : Tr → Tr) : Prop := ∀ s Ls, TrM s b Ls → ∃ L', TrM (plug s) p0 L' ∧ (Ls ++ R).Perm (L' ++ R0)
theorem cl9 (p0 : PV) (R0 : List Ent) : Zip p0 R0 p0 R0 id := fun s Ls H => ⟨Ls, H, .refl _⟩
theorem ed5 {p0 : PV} {R0 R : List Ent} {plug : Tr → Tr} {id ver : Nat} {pl pr : PV} {Lr : List Ent} {r : Tr} {s : Bool} {v : Int} (Z : Zip p0 R0 (.op id ver 0) R plug) (hr : TrM r pr Lr) : Zip p0 R0 pl (⟨.op id ver 0, 151, 4, [.agg [pl, pr, vb s, vi v]]⟩ :: (Lr ++ R)) fun q => plug (.node q r s v) := fun q Ls H => by
 obtain ⟨L', h1, h2⟩ := Z (.node q r s v) _ ⟨id, ver, pl, pr, Ls, Lr, rfl, rfl, H, hr⟩
 refine ⟨L', h1, .trans ?_ h2⟩
 classical exact List.perm_iff_count.2 fun a => by simp only [List.count_append, List.count_cons, List.cons_append]; omega
theorem eo4 {p0 : PV} {R0 R : List Ent} {plug : Tr → Tr} {id ver : Nat} {pl pr : PV} {Ll : List Ent} {l : Tr} {s : Bool} {v : Int} (Z : Zip p0 R0 (.op id ver 0) R plug) (hl : TrM l pl Ll) : Zip p0 R0 pr (⟨.op id ver 0, 151, 4, [.agg [pl, pr, vb s, vi v]]⟩ :: (Ll ++ R)) fun q => plug (.node l q s v) := fun q Ls H => by
 obtain ⟨L', h1, h2⟩ := Z (.node l q s v) _ ⟨id, ver, pl, pr, Ll, Ls, rfl, rfl, hl, H⟩
 refine ⟨L', h1, .trans ?_ h2⟩
 classical exact List.perm_iff_count.2 fun a => by simp only [List.count_append, List.count_cons, List.cons_append]; omega
theorem az8 {P : Program} {h : Heap} {p0 b : PV} {R0 R Ls : List Ent} {plug : Tr → Tr} {s : Tr} {w : Int} (Z : Zip p0 R0 b R plug) (H : TrM s b Ls) (M : Mem h (Ls ++ R)) : Deep P h (triP w p0) (triP w (trF (plug s))) := by
 obtain ⟨L', h1, h2⟩ := Z s Ls H
 exact bx7 (M.perm h2) h1 fun e he => by simp [he]
theorem dx6 {w : Int} {h : Heap} {R : List Ent} (hm : fh w ≠ 0#32) (M : Mem h R) : ∃ r h', FnX Tryz.prog 85 [vi w] h r h' ∧ ∃ p L, r = .tup [triP w p, vi 0] ∧ TrM (.node .nil .nil false 0) p L ∧ Mem h' (L ++ R) := by
 refine fnX cb2 (by simp) ?_
 refine af (ah (ae (v := nilP) (aq rfl) (ae (v := vi 0) (aq rfl) (aw (ai ?_)))))
 refine af (af (ah (ae (aq rfl) (cL yv rfl rfl (aj rfl bb) ?_))))
 refine ae (v := vb (decide (fh w = 0#32))) (ay (b := dx 0#32) rfl rfl bp2) (aw (ai (bf rfl (fun hc => ?_) fun hc => ?_)))
 ·simp only [decide_eq_true_eq] at hc; exact absurd hc hm
 ·refine ax (ai (af (ah (ae (aq rfl) ?_))))
  refine ae (v := .agg [nilP, nilP, vb false, vi 0]) (kh (cs := [nilP, nilP, vb false, vi 0]) rfl rfl) ?_
  refine xh M rfl rfl (fun i9 w9 h9 M9 => ?_)
  refine ae (v := .agg [vi w, .op i9 w9 0]) (kh (cs := [vi w, .op i9 w9 0]) rfl rfl) (ae (di rfl rfl) (ae (aq rfl) (ae (v := vi 0) (aq rfl) (aw (ai ?_)))))
  exact uc (.tmp rfl (.tmp rfl .nil)) ⟨.op i9 w9 0, _, rfl, ⟨i9, w9, nilP, nilP, [], [], rfl, rfl, ⟨rfl, rfl⟩, ⟨rfl, rfl⟩⟩, M9⟩
theorem bi6 {S : List Fr} {Q : Post} {w n i : Int} {x : BitVec 32} {p0 : PV} {R0 : List Ent} {res : Tr} (hn : n ≤ w) (hw : w ≤ 32)
  (K : ∀ {h : Heap} {b : PV} {Ls R : List Ent} {l r : Tr} {s : Bool} {v : Int} {plug : Tr → Tr}, TrM (.node l r s v) b Ls → Zip p0 R0 b R plug → plug (fin i (.node l r s v)) = res → Mem h (Ls ++ R) → PX Tryz.prog 1 S Q [(9, b), (3, vi i)] h) :
  ∀ (m : Nat) {d : Int} {h : Heap} {b : PV} {Ls R : List Ent} {l r : Tr} {s : Bool} {v : Int} {plug : Tr → Tr}, m = (n - d).toNat → 0 ≤ d → d ≤ n → TrM (.node l r s v) b Ls → Zip p0 R0 b R plug → plug (ins w x i m d (.node l r s v)) = res → Mem h (Ls ++ R) →
   RC Tryz.prog (.loop at7) S Q [(27, vi d), (26, vi n), (9, b), (3, vi i), (1, dx x), (0, triP w p0)] h
 | 0, d, h, b, Ls, R, l, r, s, v, plug, hm, h0, h1, HT, Z, hp, M => by
  refine bp ?_
  refine af (ah (ae (ay rfl rfl cj) (aw (ai (af (bf rfl (fun hc => ?_) fun hc => ?_))))))
  ·simp only [decide_eq_true_eq] at hc; omega
  ·exact db (dn (cq (wP (K HT Z hp M) rfl)))
 | m + 1, d, h, b, Ls, R, l, r, s, v, plug, hm, h0, h1, HT, Z, hp, M => by
  have hlt : d < n := by omega
  refine bp ?_
  refine af (ah (ae (ay rfl rfl cj) (aw (ai (af (bf rfl (fun hc => ?_) fun hc => ?_))))))
  ·refine ax (ai (af (bc (af (ah (ae (aq rfl) (ae (aq rfl) (aw (ai ?_)))))))))
   have hinc : wr (d + 1) = d + 1 := dg (by omega) (by omega)
   have hz := az8 (P := Tryz.prog) (w := w) Z HT M
   refine af (ah (ae (aq rfl) (ae (aq rfl) (ae (aq rfl) ?_))))
   refine ad2 (v := dx (bitT w x d)) (as6 rfl rfl (wl hz (wl (cd rfl) (wl (cd rfl) bf1))) (du8 h0 (by omega) hw) rfl) (ae (aq rfl) (aw (ai ?_)))
   obtain ⟨id, ver, pl, pr, Ll, Lr, rfl, rfl, hl, hr⟩ := HT
   rcases at2 w x d with hb | hb
   ·rw [hb]
    have a1 : plug (.node (ins w x i m (d + 1) (mk l)) r s v) = res := by rw [← hp, ins, hb]; rfl
    have a0 : ∀ {h' : Heap} {q : PV} {Lq : List Ent} {l' r' : Tr} {s' : Bool} {v' : Int}, mk l = .node l' r' s' v' → TrM (.node l' r' s' v') q Lq → Mem h' (⟨.op id ver 0, 151, 4, [.agg [q, pr, vb s, vi v]]⟩ :: (Lq ++ (Lr ++ R))) →
      RC Tryz.prog (.loop at7) S Q [(27, vi (d + 1)), (26, vi n), (9, q), (3, vi i), (1, dx x), (0, triP w p0)] h' := fun {h' q Lq l' r' s' v'} em H' M' =>
     bi6 hn hw K m (plug := fun q => plug (.node q r s v)) (by omega) (by omega) (by omega) H' (ed5 Z hr) (by rw [em] at a1; exact a1) (M'.perm (by classical exact List.perm_iff_count.2 fun a => by simp only [List.count_append, List.count_cons, List.cons_append]; omega))
    replace M : Mem h (⟨.op id ver 0, 151, 4, [.agg [pl, pr, vb s, vi v]]⟩ :: (Ll ++ Lr ++ R)) := M
    refine af (af (ah (ae (aq rfl) (ae (aq rfl) (ae (dt rfl rfl) (ae (bm rfl) (ae (v := .op id ver (0 + 0 + 0 * 1)) (rz rfl rfl rfl) ?_)))))))
    refine ae (cm (k := 0) (off := 0) (w := pl) M rfl rfl (by have e1 := TrM.agg hl; exact mk1 e1)) ?_
    cases l with
    | nil =>
     obtain ⟨rfl, rfl⟩ := hl
     refine ae (v := vb true) (ay rfl rfl rfl) (aw (ai (bf rfl (fun hd => ?_) fun hd => by cases hd)))
     refine ah (ae (aq rfl) (ae (aq rfl) ?_))
     refine ae (v := .agg [nilP, nilP, vb false, vi 0]) (kh (cs := [nilP, nilP, vb false, vi 0]) rfl rfl) ?_
     refine xh M rfl rfl (fun i2 w2 h2 M2 => ?_)
     refine ae (dt rfl rfl) (ae (bm rfl) (ae (v := .op id ver (0 + 0 + 0 * 1)) (rz rfl rfl rfl) ?_))
     refine gw (k := 1) (off := 0) (v := .op i2 w2 0) M2 rfl rfl rfl rfl rfl (by simp) (fun h3 M3 => aw (ai ?_))
     replace M3 : Mem h3 (⟨.op i2 w2 0, 151, 4, [.agg [nilP, nilP, vb false, vi 0]]⟩ :: ⟨.op id ver 0, 151, 4, [.agg [.op i2 w2 0, pr, vb s, vi v]]⟩ :: ([] ++ Lr ++ R)) := M3
     refine ah (ae (aq rfl) (ae (aq rfl) (ae (dt rfl rfl) (ae (bm rfl) (ae (v := .op id ver (0 + 0 + 0 * 1)) (rz rfl rfl rfl) ?_)))))
     refine ae (cm (k := 1) (off := 0) (w := .op i2 w2 0) M3 rfl rfl rfl) (ae (aq rfl) (aw (da (ai ?_))))
     refine ah (ae (ay rfl rfl dp) (ae (aq rfl) (aw (cf ?_))))
     refine mb ?_ (a0 rfl ⟨i2, w2, nilP, nilP, [], [], rfl, rfl, ⟨rfl, rfl⟩, ⟨rfl, rfl⟩⟩ (M3.perm (by classical exact List.perm_iff_count.2 fun a => by simp only [List.count_append, List.count_cons, List.count_nil, List.cons_append]; omega)))
     exact ky (by show some (vi (wr (d + 1))) = _; rw [hinc]) (sB rfl)
    | node l1 r1 s1 v1 =>
     have a2 := hl
     obtain ⟨ia, va, pa, pb, La, Lb, rfl, rfl, ha, hb'⟩ := a2
     refine ae (v := vb false) (ay rfl rfl rfl) (aw (ai (bf rfl (fun hd => by cases hd) fun hd => ?_)))
     refine ax (ai ?_)
     refine ah (ae (aq rfl) (ae (aq rfl) (ae (dt rfl rfl) (ae (bm rfl) (ae (v := .op id ver (0 + 0 + 0 * 1)) (rz rfl rfl rfl) ?_)))))
     refine ae (cm (k := 0) (off := 0) (w := .op ia va 0) M rfl rfl rfl) (ae (aq rfl) (aw (da (ai ?_))))
     refine ah (ae (ay rfl rfl dp) (ae (aq rfl) (aw (cf ?_))))
     refine mb ?_ (a0 rfl hl (M.perm (by classical exact List.perm_iff_count.2 fun a => by simp only [List.count_append, List.count_cons, List.cons_append]; omega)))
     exact ky (by show some (vi (wr (d + 1))) = _; rw [hinc]) (sB rfl)
   ·rw [hb]
    have a1 : plug (.node l (ins w x i m (d + 1) (mk r)) s v) = res := by rw [← hp, ins, hb]; rfl
    have a0 : ∀ {h' : Heap} {q : PV} {Lq : List Ent} {l' r' : Tr} {s' : Bool} {v' : Int}, mk r = .node l' r' s' v' → TrM (.node l' r' s' v') q Lq → Mem h' (⟨.op id ver 0, 151, 4, [.agg [pl, q, vb s, vi v]]⟩ :: (Lq ++ (Ll ++ R))) →
      RC Tryz.prog (.loop at7) S Q [(27, vi (d + 1)), (26, vi n), (9, q), (3, vi i), (1, dx x), (0, triP w p0)] h' := fun {h' q Lq l' r' s' v'} em H' M' =>
     bi6 hn hw K m (plug := fun q => plug (.node l q s v)) (by omega) (by omega) (by omega) H' (eo4 Z hl) (by rw [em] at a1; exact a1) (M'.perm (by classical exact List.perm_iff_count.2 fun a => by simp only [List.count_append, List.count_cons, List.cons_append]; omega))
    replace M : Mem h (⟨.op id ver 0, 151, 4, [.agg [pl, pr, vb s, vi v]]⟩ :: (Ll ++ Lr ++ R)) := M
    refine af (af (ah (ae (aq rfl) (ae (aq rfl) (ae (dt rfl rfl) (ae (bm rfl) (ae (v := .op id ver (0 + 0 + 1 * 1)) (rz rfl rfl rfl) ?_)))))))
    refine ae (cm (k := 0) (off := 1) (w := pr) M rfl rfl (by have e1 := TrM.agg hr; exact mk1 e1)) ?_
    cases r with
    | nil =>
     obtain ⟨rfl, rfl⟩ := hr
     refine ae (v := vb true) (ay rfl rfl rfl) (aw (ai (bf rfl (fun hd => ?_) fun hd => by cases hd)))
     refine ah (ae (aq rfl) (ae (aq rfl) ?_))
     refine ae (v := .agg [nilP, nilP, vb false, vi 0]) (kh (cs := [nilP, nilP, vb false, vi 0]) rfl rfl) ?_
     refine xh M rfl rfl (fun i2 w2 h2 M2 => ?_)
     refine ae (dt rfl rfl) (ae (bm rfl) (ae (v := .op id ver (0 + 0 + 1 * 1)) (rz rfl rfl rfl) ?_))
     refine gw (k := 1) (off := 1) (v := .op i2 w2 0) M2 rfl rfl rfl rfl rfl (by simp) (fun h3 M3 => aw (ai ?_))
     replace M3 : Mem h3 (⟨.op i2 w2 0, 151, 4, [.agg [nilP, nilP, vb false, vi 0]]⟩ :: ⟨.op id ver 0, 151, 4, [.agg [pl, .op i2 w2 0, vb s, vi v]]⟩ :: (Ll ++ [] ++ R)) := M3
     refine ah (ae (aq rfl) (ae (aq rfl) (ae (dt rfl rfl) (ae (bm rfl) (ae (v := .op id ver (0 + 0 + 1 * 1)) (rz rfl rfl rfl) ?_)))))
     refine ae (cm (k := 1) (off := 1) (w := .op i2 w2 0) M3 rfl rfl rfl) (ae (aq rfl) (aw (da (ai ?_))))
     refine ah (ae (ay rfl rfl dp) (ae (aq rfl) (aw (cf ?_))))
     refine mb ?_ (a0 rfl ⟨i2, w2, nilP, nilP, [], [], rfl, rfl, ⟨rfl, rfl⟩, ⟨rfl, rfl⟩⟩ (M3.perm (by classical exact List.perm_iff_count.2 fun a => by simp only [List.count_append, List.count_cons, List.count_nil, List.cons_append]; omega)))
     exact ky (by show some (vi (wr (d + 1))) = _; rw [hinc]) (sB rfl)
    | node l1 r1 s1 v1 =>
     have a2 := hr
     obtain ⟨ia, va, pa, pb, La, Lb, rfl, rfl, ha, hb'⟩ := a2
     refine ae (v := vb false) (ay rfl rfl rfl) (aw (ai (bf rfl (fun hd => by cases hd) fun hd => ?_)))
     refine ax (ai ?_)
     refine ah (ae (aq rfl) (ae (aq rfl) (ae (dt rfl rfl) (ae (bm rfl) (ae (v := .op id ver (0 + 0 + 1 * 1)) (rz rfl rfl rfl) ?_)))))
     refine ae (cm (k := 0) (off := 1) (w := .op ia va 0) M rfl rfl rfl) (ae (aq rfl) (aw (da (ai ?_))))
     refine ah (ae (ay rfl rfl dp) (ae (aq rfl) (aw (cf ?_))))
     refine mb ?_ (a0 rfl hr (M.perm (by classical exact List.perm_iff_count.2 fun a => by simp only [List.count_append, List.count_cons, List.cons_append]; omega)))
     exact ky (by show some (vi (wr (d + 1))) = _; rw [hinc]) (sB rfl)
  ·simp only [decide_eq_false_iff_not] at hc; omega
theorem do0 {w n i : Int} {x : BitVec 32} {h : Heap} {R L : List Ent} {p : PV} {l r : Tr} {s : Bool} {v : Int} (HT : TrM (.node l r s v) p L) (M : Mem h (L ++ R)) (hw : w ≤ 32) :
  ∃ r' h', FnX Tryz.prog 87 [triP w p, dx x, vi n, vi i] h r' h' ∧ ∃ L', TrM (insT w x n i (.node l r s v)) p L' ∧ Mem h' (L' ++ R) := by
 refine fnX bw9 (by simp) ?_
 have hz := az8 (P := Tryz.prog) (w := w) (cl9 p R) HT M
 refine af (ah (ae (v := vi 0) (aq rfl) (aw (ai ?_))))
 refine af (bc (af (ah (ae (aq rfl) ?_))))
 refine ad2 (v := vb true) (as6 rfl rfl (wl hz bf1) dn0 rfl) (ae (gu (k := true) rfl) (ae (aq rfl) (aw (ai (bf rfl (fun hd => by cases hd) fun hd => ?_)))))
 refine af (ah (ae (aq rfl) (ae (aq rfl) (ae (aq rfl) ?_))))
 refine ad2 (v := vb (pfx w x n)) (as6 rfl rfl (wl hz (wl (cd rfl) (wl (cd rfl) bf1))) (dw0 (df7 _) (de9 _)) rfl) (ae (gu rfl) (ae (aq rfl) (aw (ai (bf rfl (fun hd => ?_) fun hd => ?_)))))
 ·have hd : pfx w x n = false := by simpa using hd
  refine af (ah (ae (v := vi 9) (aq rfl) (aw (ai ?_))))
  refine uc (.tmp rfl .nil) ⟨L, ?_, M⟩
  unfold insT
  rw [if_neg (by rw [hd]; simp)]
  exact HT
 ·have hd : pfx w x n = true := by simpa using hd
  have a2 := hd
  simp only [pfx, Bool.and_eq_true, decide_eq_true_eq] at a2
  refine ax (da (ai (af (ah (ae (aq rfl) (ae (dt rfl rfl) (ae (bz (w := p) rfl (mk1 (TrM.agg HT))) (ae (br rfl (TrM.cnt HT) (TrM.agg HT)) (ae (aq rfl) (aw (ai ?_)))))))))))
  refine af (af (ah (ae (aq rfl) (ae (v := vi 0) (aq rfl) (aw (ai (bc ?_)))))))
  refine wC (bi6 (x := x) (i := i) (n := n) (w := w) (res := insT w x n i (.node l r s v)) (by omega) hw ?_ n.toNat (d := 0) (by omega) (by omega) (by omega) HT (cl9 p R) (by unfold insT; rw [if_pos hd]; rfl) M) rfl
  ·intro h1 b Ls R1 l1 r1 s1 v1 plug H1 Z1 a1 M1
   obtain ⟨id, ver, pl, pr, Ll, Lr, rfl, rfl, hl, hr⟩ := H1
   have a0 : Mem h1 (⟨.op id ver 0, 151, 4, [.agg [pl, pr, vb s1, vi v1]]⟩ :: (Ll ++ Lr ++ R1)) := M1
   refine dv (ai (af (af (ah (ae (aq rfl) (ae (dt rfl rfl) (ae (bm rfl) (ae (cm (k := 0) (off := 2) (w := vb s1) a0 rfl rfl rfl) (aw (ai (bf rfl (fun he => ?_) fun he => ?_)))))))))))
   ·refine af (ah (ae (v := vi 7) (aq rfl) (aw (ai ?_))))
    obtain ⟨L', h2, h3⟩ := Z1 (.node l1 r1 s1 v1) _ (show TrM (.node l1 r1 s1 v1) _ _ from ⟨id, ver, pl, pr, Ll, Lr, rfl, rfl, hl, hr⟩)
    refine uc (.tmp rfl .nil) ⟨L', ?_, M1.perm h3⟩
    rw [← a1]
    rw [eh5 he]
    exact h2
   ·refine ax (ai (af (ah (ae (aq rfl) (ae (aq rfl) (ae (aq rfl) (ae (dt rfl rfl) (ae (bm rfl) ?_))))))))
    refine gw (k := 0) (off := 2) (v := vb true) a0 rfl rfl rfl rfl rfl (by simp) (fun h3 M3 => ?_)
    refine ae (dt rfl rfl) (ae (bm rfl) ?_)
    refine gw (k := 0) (off := 3) (cs := [pl, pr, vb true, vi v1]) (v := vi i) M3 rfl rfl rfl rfl rfl (by simp) (fun h4 M4 => aw (ai ?_))
    refine af (ah (ae (v := vi 0) (aq rfl) (aw (ai ?_))))
    obtain ⟨L', h2, h5⟩ := Z1 (.node l1 r1 true i) _ (show TrM (.node l1 r1 true i) _ _ from ⟨id, ver, pl, pr, Ll, Lr, rfl, rfl, hl, hr⟩)
    refine uc (.tmp rfl .nil) ⟨L', ?_, Mem.perm M4 h5⟩
    rw [← a1]
    rw [eq0 he]
    exact h2
theorem cb6 : ∀ l : List (BitVec 32), closedL (l.map dx) = true
 | [] => rfl
 | _ :: l => by simp [closedL, closed, cb6 l]
def exV (e : Ex) : PV := .agg (vi e.n :: e.v.map dx)
theorem ch6 {e : Ex} (h : ExB e) : cnt (exV e) = some 7 := by
 unfold exV cnt
 simp [PV.cellsOf, h.ln]
theorem ec0 {n : Int} {l : List (BitVec 32)} {x : BitVec 32} {k : Nat} (hk : k < l.length) : spl (vi n :: l.map dx) (1 + k) [dx x] = vi n :: (l.set k x).map dx := by
 unfold spl
 rw [show 1 + k = k + 1 by omega, List.take_succ_cons, List.cons_append]
 congr 1
 rw [List.map_set, List.set_eq_take_append_cons_drop, if_pos (by simpa using hk)]
 simp
theorem dj9 {S : List Fr} {Q : Post} {x0 : List (BitVec 32)} {x1 : Int} {v0 : PV} (q : (tSl ru).R x0 v0) (hl : x0.length ≤ 1000000) {i4 w4 i5 w5 : Nat} {z4 : PV}
  (K : ∀ {h : Heap}, Mem h [⟨.op i5 w5 0, 90, 7, [exV (pk x0 x1)]⟩, ⟨.op i4 w4 0, 90, 7, [z4]⟩] → PX Tryz.prog 0 S Q [(5, .op i5 w5 0), (4, .op i4 w4 0)] h) :
  ∀ (m : Nat) {i : Int} {st : Ex} {h : Heap}, m = Int.toNat ((x0.length : Int) - i) → 0 ≤ i → i ≤ x0.length → ExB st → pkL x0 x1 m i st = pk x0 x1 → Mem h [⟨.op i5 w5 0, 90, 7, [exV st]⟩, ⟨.op i4 w4 0, 90, 7, [z4]⟩] →
   RC Tryz.prog (.loop bo4) S Q [(10, vi i), (9, vi (x0.length : Int)), (8, v0), (5, .op i5 w5 0), (4, .op i4 w4 0), (1, vi x1)] h
 | 0, i, st, h, hm, h0, h1, hb, hp, M => by
  refine bp ?_
  refine af (ah (ae (ay rfl rfl cj) (aw (ai (af (bf rfl (fun hc => ?_) fun hc => ?_))))))
  ·simp only [decide_eq_true_eq] at hc; omega
  ·have hp : st = pk x0 x1 := hp
   rw [hp] at M
   exact db (dn (cq (wP (K M) rfl)))
 | m + 1, i, st, h, hm, h0, h1, hb, hp, M => by
  have hlt : i < (x0.length : Int) := by omega
  refine bp ?_
  refine af (ah (ae (ay rfl rfl cj) (aw (ai (af (bf rfl (fun hc => ?_) fun hc => ?_))))))
  ·refine ax (ai (af (bc (af (ah (mV rfl ?_))))))
   obtain ⟨g0, e0, q0⟩ := ct (i := i) q h0 hlt
   have q0 : g0 = dx (ix x0 i) := q0
   subst q0
   refine ae (bg rfl rfl e0) (ae (br rfl rfl rfl) (mV rfl (mV rfl (aw (ai ?_)))))
   have fin : ∀ {h' : Heap} {st' : Ex}, ExB st' → pkL x0 x1 m (i + 1) st' = pk x0 x1 → Mem h' [⟨.op i5 w5 0, 90, 7, [exV st']⟩, ⟨.op i4 w4 0, 90, 7, [z4]⟩] →
     RC Tryz.prog (.loop bo4) S Q [(10, vi (i + 1)), (9, vi (x0.length : Int)), (8, v0), (5, .op i5 w5 0), (4, .op i4 w4 0), (1, vi x1)] h' := fun b p M' => dj9 q hl K m (by omega) (by omega) (by omega) b p M'
   have hinc : wr (i + 1) = i + 1 := dg (by omega) (by omega)
   have g0 : fieldR 0 1 false (exV st) = some (vi st.n) := rfl
   refine af (ah (mV rfl (mV rfl (ae (v := vb (!decide (i = x1))) (ay rfl rfl jq) (mV rfl ?_)))))
   refine bw 4 (d := 22) (v := vb (!decide (i = x1) && decide (st.n < 6))) ?_ ?_
   ·intro S Q r
    cases (!decide (i = x1))
    ·exact gN 3 rfl rfl rfl rfl rfl rfl
    ·intro k
     refine ak rfl rfl (bm rfl) (ak rfl rfl (cm (k := 0) M rfl rfl g0) (ak rfl rfl (ay rfl rfl cj) ?_))
     exact gK rfl rfl rfl rfl rfl k
   refine aw (ai (bf rfl (fun hd => ?_) fun hd => ?_))
   ·have hs : pkS x1 st i (ix x0 i) = ⟨st.n + 1, st.v.set st.n.toNat (ix x0 i)⟩ := by unfold pkS; rw [if_pos hd]
    have a1 : st.n < 6 := by simp only [Bool.and_eq_true, decide_eq_true_eq] at hd; exact hd.2
    have hk : st.n.toNat < st.v.length := by have := hb.ln; have := hb.lo; omega
    have hb' := hb.step (wo := x1) (i := i) (x := ix x0 i)
    rw [pkL, hs] at hp
    rw [hs] at hb'
    refine af (ah (ae (bm rfl) (ae (cm (k := 0) M rfl rfl g0) (mV rfl (ae (bm rfl) ?_)))))
    refine ae (ag7 rfl rfl hb.lo a1) ?_
    refine gw (off := 1 + st.n.toNat) (k := 0) (v := dx (ix x0 i)) M (by show some (PV.op i5 w5 (0 + 1 + st.n.toNat * 1)) = some (PV.op i5 w5 (0 + (1 + st.n.toNat))); rw [show 0 + 1 + st.n.toNat * 1 = 0 + (1 + st.n.toNat) by omega]) rfl rfl rfl rfl (by simp; omega) (fun h2 M2 => aw (ai ?_))
    rw [ec0 hk] at M2
    replace M2 : Mem h2 [⟨.op i5 w5 0, 90, 7, [exV ⟨st.n, st.v.set st.n.toNat (ix x0 i)⟩]⟩, ⟨.op i4 w4 0, 90, 7, [z4]⟩] := M2
    have g1 : fieldR 0 1 false (exV ⟨st.n, st.v.set st.n.toNat (ix x0 i)⟩) = some (vi st.n) := rfl
    refine ah (ae (bm rfl) (ae (cm (k := 0) M2 rfl rfl g1) (ae (ay rfl rfl dp) (ae (bm rfl) ?_))))
    have a0 : wr (st.n + 1) = st.n + 1 := dg (by have := hb.lo; omega) (by omega)
    refine gw (off := 0) (k := 0) (v := vi (st.n + 1)) M2 rfl (by show some (vi (wr (st.n + 1))) = _; rw [a0]) rfl rfl rfl (by simp) (fun h3 M3 => aw ?_)
    replace M3 : Mem h3 [⟨.op i5 w5 0, 90, 7, [exV ⟨st.n + 1, st.v.set st.n.toNat (ix x0 i)⟩]⟩, ⟨.op i4 w4 0, 90, 7, [z4]⟩] := M3
    refine da (ai (ah (ae (ay rfl rfl dp) (mV rfl (aw (cf ?_))))))
    refine mb ?_ (fin hb' hp M3)
    exact ky (by show some (vi (wr (i + 1))) = _; rw [hinc]) (sB rfl)
   ·have hs : pkS x1 st i (ix x0 i) = st := by unfold pkS; rw [if_neg (by rw [hd]; simp)]
    rw [pkL, hs] at hp
    refine ax (da (ai (ah (ae (ay rfl rfl dp) (mV rfl (aw (cf ?_)))))))
    refine mb ?_ (fin hb hp M)
    exact ky (by show some (vi (wr (i + 1))) = _; rw [hinc]) (sB rfl)
  ·simp only [decide_eq_false_iff_not] at hc; omega
theorem dp9 {x0 : List (BitVec 32)} {x1 : Int} {v0 : PV} (r0 : (tSl ru).R x0 v0) (hl : x0.length ≤ 1000000) : FnR Tryz.prog 51 [v0, vi x1] (exV (pk x0 x1)) := by
 obtain ⟨r, h1, rfl⟩ : ∃ r, FnR Tryz.prog 51 [v0, vi x1] r ∧ r = exV (pk x0 x1) := by
  refine fnE cd8 (by simp) ?_
  refine af (ah (dh (x := exV ⟨0, List.replicate 6 0#32⟩) (Mem.nil _) rfl rfl (fun i4 w4 h4 M4 => aw (ai ?_))))
  refine af (ah (dh (x := exV ⟨0, List.replicate 6 0#32⟩) M4 rfl rfl (fun i5 w5 h5 M5 => aw (ai ?_))))
  have b0 : ExB ⟨0, List.replicate 6 0#32⟩ := ⟨by decide, by decide, rfl⟩
  have hB : ExB (pk x0 x1) := ExB.pkL _ _ b0
  refine af (af (ah (mV rfl (ae (cg rfl (bq r0 Tryz.underlying33 _)) (mV rfl (aw (ai (bc ?_))))))))
  refine wC (dj9 (x1 := x1) r0 hl ?_ x0.length (i := 0) (by omega) (by omega) (by omega) b0 rfl M5) rfl
  ·intro h M
   refine dv (ai (af (ah (ae (fe (k := 0) M rfl rfl rfl) ?_))))
   refine de (k := 1) (v := exV (pk x0 x1)) M rfl rfl rfl (ch6 hB) (fun h' M' => aw (ai ?_))
   exact dk (.cell rfl (ie (k := 1) M' rfl rfl) .nil) (cd (by simp [exV, closed, closedL]; exact cb6 _)) rfl
 exact h1
theorem ax0 : ∀ {a b : List (Value × PV)}, a.map encKV = b.map encKV → a = b
 | [], [], _ => rfl
 | [], _ :: _, h => by simp at h
 | _ :: _, [], h => by simp at h
 | (k, v) :: a, (k', v') :: b, h => by
  simp only [List.map_cons, List.cons.injEq] at h
  have h1 := h.1
  simp only [encKV, PV.agg.injEq, List.cons.injEq, PV.sc.injEq, and_true] at h1
  rw [h1.1, h1.2, ax0 h.2]
def exL (e : Ex) : List Value := .int .i64 e.n :: e.v.map fun x => .int .u32 (x.toNat : Int)
def KS : List IntKind := [.i64, .u32, .u32, .u32, .u32, .u32, .u32]
theorem ar8 : ∀ l : List (BitVec 32), scW (l.map dx) = some (l.map fun x => .int .u32 (x.toNat : Int))
 | [] => rfl
 | x :: l => by
  have := ar8 l
  simp only [List.map_cons]
  show (scW (l.map dx)).map _ = _
  rw [this]
  rfl
theorem am1 : ∀ l : List (BitVec 32), numsB (List.replicate l.length .u32) (l.map fun x => .int .u32 (x.toNat : Int)) = true
 | [] => rfl
 | x :: l => by
  simp only [List.length_cons, List.replicate_succ, List.map_cons, numsB, Bool.and_eq_true, beq_self_eq_true, true_and]
  refine ⟨?_, am1 l⟩
  have := x.isLt
  simp only [Lit.wf, Bool.and_eq_true, decide_eq_true_eq]
  exact ⟨by show (0 : Int) ≤ _; omega, by show (x.toNat : Int) ≤ 4294967295; omega⟩
theorem ai6 {e : Ex} (h : ExB e) : numsB KS (exL e) = true := by
 have := am1 e.v
 rw [h.ln] at this
 show numsB (.i64 :: List.replicate 6 .u32) (exL e) = true
 simp only [exL, numsB, Bool.and_eq_true, beq_self_eq_true, true_and]
 refine ⟨?_, this⟩
 have := h.lo
 have := h.hi
 simp only [Lit.wf, Bool.and_eq_true, decide_eq_true_eq]
 exact ⟨by show (-9223372036854775808 : Int) ≤ _; omega, by show _ ≤ (9223372036854775807 : Int); omega⟩
theorem bs7 {e : Ex} (h : ExB e) : keyP KS (exV e) = some (exL e) := by
 have h1 : scW (vi e.n :: e.v.map dx) = some (exL e) := by
  show (scW (e.v.map dx)).map _ = _
  rw [ar8]
  rfl
 simp only [keyP, exV, h1, ai6 h, cond_true]
theorem ap1 : ∀ {a b : List (BitVec 32)}, (a.map fun x => Value.int .u32 (x.toNat : Int)) = (b.map fun x => Value.int .u32 (x.toNat : Int)) → a = b
 | [], [], _ => rfl
 | [], _ :: _, h => by simp at h
 | _ :: _, [], h => by simp at h
 | x :: a, y :: b, h => by
  simp only [List.map_cons, List.cons.injEq, Value.int.injEq, true_and] at h
  have := ap1 h.2
  have e1 : x = y := BitVec.eq_of_toNat_eq (by have := h.1; omega)
  rw [e1, this]
theorem dh2 {a b : Ex} (h : exL a = exL b) : a = b := by
 cases a; cases b
 simp only [exL, List.cons.injEq, Value.int.injEq, true_and] at h
 rw [h.1, ap1 h.2]
theorem ak0 {a b : Ex} (ha : ExB a) (hb : ExB b) : isW (exL a) (.agg (exL b).toArray) = true ↔ b = a := by
 rw [ab8 (ai6 ha) (by simpa [kindW] using ai6 hb)]
 simp only [Value.agg.injEq]
 exact ⟨fun h => dh2 (by simpa using congrArg Array.toList h), fun h => by rw [h]⟩
def exM (l : List (Ex × PV)) : List (Value × PV) := l.map fun p => (.agg (exL p.1).toArray, p.2)
structure MapB {α : Type} (l : List (Ex × α)) : Prop where
 ok : ∀ p ∈ l, ExB p.1
 ds : l.Pairwise fun a b => a.1 ≠ b.1
theorem ay0 {l : List (Ex × PV)} (h : ∀ p ∈ l, ExB p.1) : (exM l).all (fun e => kindW KS e.1) = true := by
 rw [List.all_eq_true]
 intro x hx
 obtain ⟨p, hp, rfl⟩ := List.mem_map.1 hx
 simpa [kindW] using ai6 (h p hp)
theorem am0 : ∀ {l : List (Ex × PV)}, MapB l → distW (exM l) = true
 | [], _ => rfl
 | p :: l, h => by
  obtain ⟨h1, h2⟩ := List.pairwise_cons.1 h.ds
  have ih := am0 (l := l) ⟨fun q hq => h.ok q (by simp [hq]), h2⟩
  simp only [exM, List.map_cons, distW, Bool.and_eq_true]
  refine ⟨?_, ih⟩
  rw [List.all_eq_true]
  intro x hx
  obtain ⟨q, hq, rfl⟩ := List.mem_map.1 hx
  simp only [Bool.not_eq_true']
  rw [Bool.eq_false_iff]
  intro hc
  have := (ak0 (h.ok p (by simp)) (h.ok q (by simp [hq]))).1 (by simpa using hc)
  exact h1 q hq this.symm
theorem bq5 {e : Ex} (he : ExB e) : ∀ {l : List (Ex × PV)}, (∀ p ∈ l, ExB p.1) → getW (exL e) (exM l) = wget l e
 | [], _ => rfl
 | p :: l, h => by
  have ih := bq5 he (l := l) fun q hq => h q (by simp [hq])
  have hp := h p (by simp)
  simp only [exM, List.map_cons, getW, wget]
  cases hi : isW (exL e) (.agg (exL p.1).toArray) with
  | true => rw [if_pos ((ak0 he hp).1 hi)]; rfl
  | false =>
   rw [if_neg fun hc => by rw [(ak0 he hp).2 hc] at hi; cases hi]
   exact ih
theorem bl2 {e : Ex} (he : ExB e) {v : PV} : ∀ {l : List (Ex × PV)}, (∀ p ∈ l, ExB p.1) → putW (exL e) v (exM l) = exM (wput l e v)
 | [], _ => rfl
 | p :: l, h => by
  have ih := bl2 he (v := v) (l := l) fun q hq => h q (by simp [hq])
  have hp := h p (by simp)
  simp only [exM, List.map_cons, putW, wput]
  cases hi : isW (exL e) (.agg (exL p.1).toArray) with
  | true => rw [if_pos ((ak0 he hp).1 hi)]; rfl
  | false =>
   rw [if_neg fun hc => by rw [(ak0 he hp).2 hc] at hi; cases hi]
   simp only [cond_false, List.map_cons, List.cons.injEq, true_and]
   exact ih
theorem bq2 {α : Type} {e : Ex} (he : ExB e) {v : α} : ∀ {l : List (Ex × α)}, MapB l → MapB (wput l e v) ∧ ∀ q ∈ wput l e v, q.1 = e ∨ ∃ p ∈ l, p.1 = q.1
 | [], _ => ⟨⟨fun p hp => by rw [List.mem_singleton.1 hp]; exact he, List.pairwise_singleton ..⟩, fun q hq => by rw [List.mem_singleton.1 hq]; exact .inl rfl⟩
 | p :: l, h => by
  obtain ⟨h1, h2⟩ := List.pairwise_cons.1 h.ds
  obtain ⟨hB, hk⟩ := bq2 he (v := v) (l := l) ⟨fun q hq => h.ok q (by simp [hq]), h2⟩
  unfold wput
  by_cases hc : p.1 = e
  ·rw [if_pos hc]
   refine ⟨⟨fun q hq => ?_, List.pairwise_cons.2 ⟨fun q hq => by show e ≠ q.1; rw [← hc]; exact h1 q hq, h2⟩⟩, fun q hq => ?_⟩
   ·rcases List.mem_cons.1 hq with rfl | hq
    ·exact he
    ·exact h.ok q (by simp [hq])
   ·rcases List.mem_cons.1 hq with rfl | hq
    ·exact .inl rfl
    ·exact .inr ⟨q, by simp [hq], rfl⟩
  ·rw [if_neg hc]
   refine ⟨⟨fun q hq => ?_, List.pairwise_cons.2 ⟨fun q hq => ?_, hB.ds⟩⟩, fun q hq => ?_⟩
   ·rcases List.mem_cons.1 hq with rfl | hq
    ·exact h.ok _ (by simp)
    ·exact hB.ok q hq
   ·rcases hk q hq with e1 | ⟨r, hr, e1⟩
    ·rw [e1]; exact hc
    ·rw [← e1]; exact h1 r hr
   ·rcases List.mem_cons.1 hq with rfl | hq
    ·exact .inr ⟨_, by simp, rfl⟩
    ·rcases hk q hq with e1 | ⟨r, hr, e1⟩
     ·exact .inl e1
     ·exact .inr ⟨r, by simp [hr], e1⟩
def exE (l : List (Ex × PV)) : List PV := (exM l).map encKV
theorem bw2 {h : Heap} {L : List Ent} {k id ver : Nat} {ty : TypeId} {l : List (Ex × PV)} {e : Ex} {z : Value} {ok : Bool} (M : Mem h L) (hk : L[k]? = some ⟨.om id ver, ty, 2, exE l⟩) (hB : MapB l) (he : ExB e) :
  lookW h KS z ok (.om id ver) (exV e) = some (bif ok then .tup [(wget l e).getD (.ofConst z), vb (wget l e).isSome] else (wget l e).getD (.ofConst z), h) := by
 obtain ⟨h1, ms, h2, h3⟩ := M.atF hk
 have hms : ms = exM l := (ax0 h2).symm
 subst hms
 simp only [blk] at h3
 simp only [lookW, bs7 he, h3]
 rw [if_pos ⟨trivial, ay0 hB.ok, am0 hB⟩, bq5 he hB.ok]
theorem bb1 {α : Type} {e : Ex} {v : α} : ∀ {l : List (Ex × α)}, ∀ q ∈ wput l e v, q = (e, v) ∨ q ∈ l
 | [], q, hq => .inl (List.mem_singleton.1 hq)
 | p :: l, q, hq => by
  unfold wput at hq
  split at hq
  ·rcases List.mem_cons.1 hq with h | h
   ·exact .inl h
   ·exact .inr (by simp [h])
  ·rcases List.mem_cons.1 hq with h | h
   ·exact .inr (by simp [h])
   ·rcases bb1 q h with h | h
    ·exact .inl h
    ·exact .inr (by simp [h])
theorem cr0 {l : List (Ex × PV)} {e : Ex} {v : PV} (h1 : ∀ x ∈ exE l, cnt x = some 2) (hv : cnt v = some 1) : ∀ x ∈ exE (wput l e v), cnt x = some 2 := by
 intro x hx
 obtain ⟨y, hy, rfl⟩ := List.mem_map.1 hx
 obtain ⟨q, hq, rfl⟩ := List.mem_map.1 hy
 rcases bb1 q hq with rfl | hq
 ·rfl
 ·exact h1 _ (List.mem_map.2 ⟨_, List.mem_map.2 ⟨q, hq, rfl⟩, rfl⟩)
theorem ca7 {h : Heap} {L : List Ent} {k id ver : Nat} {ty : TypeId} {l : List (Ex × PV)} {e : Ex} {v : PV} (M : Mem h L) (hk : L[k]? = some ⟨.om id ver, ty, 2, exE l⟩) (hB : MapB l) (he : ExB e) (hv : cnt v = some 1) :
  ∃ h', updW h KS (.om id ver) (exV e) v = some (.tup [], h') ∧ Mem h' (L.set k ⟨.om id ver, ty, 2, exE (wput l e v)⟩) := by
 obtain ⟨h1, ms, h2, h3⟩ := M.atF hk
 have hms : ms = exM l := (ax0 h2).symm
 subst hms
 have a0 := h3
 simp only [blk] at a0
 refine ⟨hput h id (.mp ver (exM (wput l e v))), ?_, M.upd hk ⟨?_, _, rfl, by simp [nk h3]⟩ (fun i hi => .inl hi) fun i hi hne => ?_⟩
 ·simp only [updW, bs7 he, a0]
  rw [if_pos ⟨trivial, ay0 hB.ok, am0 hB⟩, bl2 he hB.ok]
  rfl
 ·intro x hx
  exact cr0 h1 hv x hx
 ·exact iq _ _ _ _ fun e => hne (by simp [idOf, e])
theorem az7 {P : Program} {S : List Fr} {Q : Post} {E : TEnv} {h : Heap} {L : List Ent} {r : List AOper} {hf : Bool} {d k id ver : Nat} {ty tm tk te : TypeId} {l : List (Ex × PV)} {e : Ex} {z : Value} {ok : Bool} {o o' : Operand} (M : Mem h L) (ex : evE E o = some (.om id ver)) (ei : evE E o' = some (exV e)) (hk : L[k]? = some ⟨.om id ver, ty, 2, exE l⟩) (hB : MapB l) (he : ExB e)
  (K : RD P r S Q ((d, bif ok then .tup [(wget l e).getD (.ofConst z), vb (wget l e).isSome] else (wget l e).getD (.ofConst z)) :: E) h) : RD P (⟨some d, .lookupW tm tk te KS z ok o o', none, hf⟩ :: r) S Q E h :=
 yl ⟨rfl, fun T hT => by show lookW h KS z ok (ev T o) (ev T o') = _; rw [dw hT ex, dw hT ei]; exact bw2 M hk hB he⟩ K
theorem bp0 {P : Program} {S : List Fr} {Q : Post} {E : TEnv} {h : Heap} {L : List Ent} {r : List AOper} {hf : Bool} {k id ver : Nat} {ty tm tk : TypeId} {l : List (Ex × PV)} {e : Ex} {v : PV} {o o' o'' : Operand} (M : Mem h L) (ex : evE E o = some (.om id ver)) (ei : evE E o' = some (exV e)) (ev' : evE E o'' = some v) (hk : L[k]? = some ⟨.om id ver, ty, 2, exE l⟩) (hB : MapB l) (he : ExB e) (hv : cnt v = some 1)
  (K : ∀ h', Mem h' (L.set k ⟨.om id ver, ty, 2, exE (wput l e v)⟩) → RD P r S Q E h') : RD P (⟨none, .mapUpdW tm tk KS o o' o'', none, hf⟩ :: r) S Q E h := by
 obtain ⟨h', h1, h2⟩ := ca7 M hk hB he hv
 exact ab5 ⟨rfl, fun T hT => by show updW h KS (ev T o) (ev T o') (ev T o'') = _; rw [dw hT ex, dw hT ei, dw hT ev', h1]⟩ (K h' h2)
def mpV (l : List (Ex × Int)) : List (Ex × PV) := l.map fun q => (q.1, vi q.2)
theorem bl9 {e : Ex} {i : Int} : ∀ l : List (Ex × Int), mpV (wput l e i) = wput (mpV l) e (vi i)
 | [] => rfl
 | p :: l => by
  have ih := bl9 (e := e) (i := i) l
  unfold mpV at ih
  simp only [mpV, wput, List.map_cons]
  by_cases h : p.1 = e
  ·rw [if_pos h, if_pos h]; rfl
  ·rw [if_neg h, if_neg h, List.map_cons, ih]
theorem er2 {l : List (Ex × Int)} (h : MapB l) : MapB (mpV l) :=
 ⟨fun p hp => by obtain ⟨q, hq, rfl⟩ := List.mem_map.1 hp; exact h.ok q hq, List.pairwise_map.2 h.ds⟩
theorem MapB.nil {α : Type} : MapB ([] : List (Ex × α)) := ⟨fun p hp => (by cases hp), List.Pairwise.nil⟩
theorem MapB.put {α : Type} {l : List (Ex × α)} (h : MapB l) {e : Ex} (he : ExB e) (v : α) : MapB (wput l e v) := (bq2 he h).1
/-! Tries in a map -/
def TsM (w : Int) : List (Ex × Tr) → List (Ex × PV) → List Ent → Prop
 | [], [], N => N = []
 | (e, t) :: ts, (e', p) :: ps, N => e = e' ∧ ∃ pr Nt Ns, p = triP w pr ∧ t ≠ .nil ∧ TrM t pr Nt ∧ N = Nt ++ Ns ∧ TsM w ts ps Ns
 | _, _, _ => False
theorem TsM.B {w : Int} : ∀ {ts : List (Ex × Tr)} {ps : List (Ex × PV)} {N : List Ent}, TsM w ts ps N → ps.map (·.1) = ts.map (·.1)
 | [], [], _, _ => rfl
 | (e, t) :: ts, (e', p) :: ps, N, H => by
  obtain ⟨rfl, pr, Nt, Ns, _, _, _, _, h⟩ := H
  simp [h.B]
 | [], _ :: _, _, H => H.elim
 | _ :: _, [], _, H => H.elim
theorem bp1 {α β : Type} {l : List (Ex × α)} {k : List (Ex × β)} (h : k.map (·.1) = l.map (·.1)) (H : MapB l) : MapB k := by
 refine ⟨fun p hp => ?_, ?_⟩
 ·have : p.1 ∈ l.map (·.1) := h ▸ List.mem_map.2 ⟨p, hp, rfl⟩
  obtain ⟨q, hq, e⟩ := List.mem_map.1 this
  exact e ▸ H.ok q hq
 ·have h1 : (l.map (·.1)).Pairwise (· ≠ ·) := List.pairwise_map.2 H.ds
  rw [← h] at h1
  exact List.pairwise_map.1 h1
theorem TsM.absent {w : Int} {e : Ex} : ∀ {ts : List (Ex × Tr)} {ps : List (Ex × PV)} {N : List Ent}, TsM w ts ps N → wget ts e = none → wget ps e = none
 | [], [], _, _, _ => rfl
 | (a, t) :: ts, (b, p) :: ps, N, H, hn => by
  obtain ⟨rfl, pr, Nt, Ns, _, _, _, _, h⟩ := H
  unfold wget at hn ⊢
  by_cases hc : a = e
  ·rw [if_pos hc] at hn; cases hn
  ·rw [if_neg hc] at hn ⊢
   exact h.absent hn
 | [], _ :: _, _, H, _ => H.elim
 | _ :: _, [], _, H, _ => H.elim
theorem TsM.found {w : Int} {e : Ex} {t : Tr} : ∀ {ts : List (Ex × Tr)} {ps : List (Ex × PV)} {N : List Ent}, TsM w ts ps N → wget ts e = some t →
  ∃ pr Nt Nr, wget ps e = some (triP w pr) ∧ t ≠ .nil ∧ TrM t pr Nt ∧ N.Perm (Nt ++ Nr) ∧ ∀ t' Nt', t' ≠ .nil → TrM t' pr Nt' → ∃ N', TsM w (wput ts e t') ps N' ∧ (Nt' ++ Nr).Perm N'
 | (a, u) :: ts, (b, p) :: ps, N, H, hs => by
  obtain ⟨rfl, pr, Nt, Ns, rfl, h1, h2, rfl, h3⟩ := H
  unfold wget at hs ⊢
  by_cases hc : a = e
  ·rw [if_pos hc] at hs ⊢
   simp only [Option.some.injEq] at hs
   subst hs
   refine ⟨pr, Nt, Ns, rfl, h1, h2, .refl _, fun t' Nt' g1 g2 => ⟨Nt' ++ Ns, ?_, .refl _⟩⟩
   unfold wput
   rw [if_pos hc]
   exact ⟨hc.symm, pr, Nt', Ns, rfl, g1, g2, rfl, h3⟩
  ·rw [if_neg hc] at hs ⊢
   obtain ⟨qr, Mt, Mr, k1, k2, k3, k4, k5⟩ := h3.found hs
   refine ⟨qr, Mt, Nt ++ Mr, k1, k2, k3, ?_, fun t' Nt' g1 g2 => ?_⟩
   ·refine (k4.append_left Nt).trans ?_
    classical exact List.perm_iff_count.2 fun a => by simp only [List.count_append]; omega
   ·obtain ⟨N', j1, j2⟩ := k5 t' Nt' g1 g2
    refine ⟨Nt ++ N', ?_, .trans ?_ (j2.append_left Nt)⟩
    ·unfold wput
     rw [if_neg hc]
     exact ⟨rfl, pr, Nt, N', rfl, h1, h2, rfl, j1⟩
    ·classical exact List.perm_iff_count.2 fun a => by simp only [List.count_append]; omega
 | [], [], _, _, hs => by cases hs
 | [], _ :: _, _, H, _ => H.elim
 | _ :: _, [], _, H, _ => H.elim
theorem TsM.new {w : Int} {e : Ex} {t : Tr} {pr : PV} {Nt : List Ent} (ht : t ≠ .nil) (hT : TrM t pr Nt) : ∀ {ts : List (Ex × Tr)} {ps : List (Ex × PV)} {N : List Ent}, TsM w ts ps N → wget ts e = none → ∃ N', TsM w (wput ts e t) (wput ps e (triP w pr)) N' ∧ (Nt ++ N).Perm N'
 | [], [], N, H, _ => by
  have H : N = [] := H
  subst H
  exact ⟨Nt ++ [], ⟨rfl, pr, Nt, [], rfl, ht, hT, rfl, rfl⟩, .refl _⟩
 | (a, u) :: ts, (b, p) :: ps, N, H, hn => by
  obtain ⟨rfl, qr, Mt, Ns, rfl, h1, h2, rfl, h3⟩ := H
  unfold wget at hn
  by_cases hc : a = e
  ·rw [if_pos hc] at hn; cases hn
  ·rw [if_neg hc] at hn
   obtain ⟨N', j1, j2⟩ := h3.new ht hT hn
   refine ⟨Mt ++ N', ?_, .trans ?_ (j2.append_left Mt)⟩
   ·unfold wput
    rw [if_neg hc, if_neg hc]
    exact ⟨rfl, qr, Mt, N', rfl, h1, h2, rfl, j1⟩
   ·classical exact List.perm_iff_count.2 fun a => by simp only [List.count_append]; omega
 | [], _ :: _, _, H, _ => H.elim
 | _ :: _, [], _, H, _ => H.elim
theorem retell {P : Program} {w0 : World} {F0 : Nat → Prop} {h : Heap} {x : Cx} (R : RelP P w0 F0 h x) {id ver : Nat} {ty : TypeId} {mt : Bool} {cs cs' : List PV} (hb : blk h id = some (.cells ver ty mt cs)) (hl : cs'.length = cs.length) (hc : ∀ us, VRL P x cs us → VRL P x cs' us) :
  RelP P w0 F0 (hput h id (.cells ver ty mt cs')) x := by
 have hb' : h.bl[id]? = some (.cells ver ty mt cs) := hb
 have look : ∀ (i : Nat) b, (hput h id (.cells ver ty mt cs')).bl[i]? = some b → (i = id ∧ b = .cells ver ty mt cs') ∨ (i ≠ id ∧ h.bl[i]? = some b) := by
  intro i b hi
  by_cases e : i = id
  ·subst e
   have := ti h i (.cells ver ty mt cs') (nk hb)
   simp only [blk] at this
   rw [this] at hi
   exact .inl ⟨rfl, (Option.some.inj hi).symm⟩
  ·have := iq h id i (.cells ver ty mt cs') (fun e' => e e'.symm)
   simp only [blk] at this
   rw [this] at hi
   exact .inr ⟨e, hi⟩
 refine ⟨R.below, R.f0, R.fsub, R.fnew, R.own, R.fresh, fun i j bi bj b h1 h2 h3 h4 => ?_, fun i bi hi => ?_⟩
 ·have g1 : ∃ b', h.bl[i]? = some b' ∧ b'.ver = bi.ver := by
   rcases look i bi h1 with ⟨rfl, rfl⟩ | ⟨_, h5⟩
   ·exact ⟨_, hb', rfl⟩
   ·exact ⟨_, h5, rfl⟩
  have g2 : ∃ b', h.bl[j]? = some b' ∧ b'.ver = bj.ver := by
   rcases look j bj h2 with ⟨rfl, rfl⟩ | ⟨_, h5⟩
   ·exact ⟨_, hb', rfl⟩
   ·exact ⟨_, h5, rfl⟩
  obtain ⟨b1, e1, e2⟩ := g1
  obtain ⟨b2, e3, e4⟩ := g2
  exact R.inj i j b1 b2 b e1 e3 (by rw [e2]; exact h3) (by rw [e4]; exact h4)
 ·rcases look i bi hi with ⟨rfl, rfl⟩ | ⟨hne, h5⟩
  ·intro b hj
   obtain ⟨⟨cur, h1, h2, h3⟩, h4⟩ := R.hr i _ hb' b hj
   exact ⟨⟨cur, h1, by omega, by rw [hl]; exact hc _ h3⟩, h4⟩
  ·exact R.hr i bi h5
theorem bh7 {P : Program} {S : List Fr} {Q : Post} {E : TEnv} {h : Heap} {L : List Ent} {r : List AOper} {k j id ver n a b : Nat} {ty ty' : TypeId} {sz sz' : Nat} {es cs cs' : List PV} (M : Mem h L) (hk : L[k]? = some ⟨.os id ver 0 n, ty, sz, es⟩) (hj : L[j]? = some ⟨.op a b 0, ty', sz', [.agg cs]⟩)
  (hF : FrzL (.os id ver 0 n) (.fs false es) cs cs') (hl : cs'.length = cs.length) (K : ∀ h', Mem h' ((L.set j ⟨.op a b 0, ty', sz', [.agg cs']⟩).eraseIdx k) → RS P r S Q E h') : RS P r S Q E h := by
 have hne : k ≠ j := fun e => by subst e; rw [hk] at hj; cases hj
 obtain ⟨hc, hn, ds, h1, h2⟩ := M.atF hk
 obtain ⟨hcj, x', a3, j1, j2, j3⟩ := M.atF hj
 simp only [List.cons.injEq, and_true] at j1
 subst j1
 simp only [PV.cellsOf, Option.some.injEq] at j2
 subst j2
 have hia : id ≠ a := fun e => lz M.dis hj hne hk a rfl (by simp [idOf, e])
 have a0 : blk (hput h id (.cells ver ty false ds)) a = some (.cells b ty' true cs) := by rw [iq h id a _ hia]; exact j3
 have hM : Mem (hput (hput h id (.cells ver ty false ds)) a (.cells b ty' true cs')) ((L.set j ⟨.op a b 0, ty', sz', [.agg cs']⟩).eraseIdx k) := by
  refine ⟨fun e he => ?_, (aa6 (e' := ⟨.op a b 0, ty', sz', [.agg cs']⟩) M.dis hj fun x hx ha i h1 h2 => ha i h1 h2).sublist (List.eraseIdx_sublist ..)⟩
  obtain ⟨i, hi⟩ := List.getElem?_of_mem he
  rw [List.getElem?_eraseIdx] at hi
  have hik : ∃ i, i ≠ k ∧ (L.set j ⟨.op a b 0, ty', sz', [.agg cs']⟩)[i]? = some e := by
   split at hi
   ·exact ⟨i, by omega, hi⟩
   ·exact ⟨i + 1, by omega, hi⟩
  obtain ⟨i, hik, hi⟩ := hik
  by_cases hij : i = j
  ·subst hij
   rw [List.getElem?_set_self (List.getElem?_eq_some_iff.1 hj).1] at hi
   simp only [Option.some.injEq] at hi
   subst hi
   have hcn := hcj _ (List.mem_singleton.2 rfl)
   simp only [cnt, Option.some.injEq] at hcn
   refine ⟨by simp [cnt]; omega, _, cs', rfl, rfl, ti _ _ _ ?_⟩
   exact nk a0
  ·rw [List.getElem?_set_ne (fun e => hij e.symm)] at hi
   have a1 := lz M.dis hk hik hi
   have a2 := lz M.dis hj hij hi
   refine (M.ent e (List.mem_of_getElem? hi)).frame fun q hq _ => ?_
   rw [iq _ a q _ fun e' => a2 a rfl (by rw [hq, e']), iq h id q _ fun e' => a1 id rfl (by rw [hq, e'])]
 intro T hT
 refine av0 (T' := T) (h' := hput (hput h id (.cells ver ty false ds)) a (.cells b ty' true cs')) ?_ (K _ hM _ hT)
 intro w0 F0 n' x act R hTm
 obtain ⟨y, ew, eJ, Ex, hFr, R'⟩ := R.freeze h2
 have hb : ∀ us, VRC P y (.os id ver 0 n) us → VRC P y (.fs false es) us := fun us hv => by
  have hone : ∃ u, us = [u] := by
   simp only [VRC] at hv
   obtain ⟨b, cap, _, e, _⟩ := hv
   exact ⟨_, e⟩
  obtain ⟨u, rfl⟩ := hone
  exact VR_frozen (u := u) R' (ti h id _ (nk h2)) (fun b hj => hFr b (by rw [← eJ]; exact hj)) hn h1 hc hv
 exact ⟨y, ew, Ex, retell R' a0 hl (fun us hv => FrzL.conv hb hF us hv), hTm.ext Ex⟩
theorem bg6 {P : Program} {S : List Fr} {Q : Post} {E : TEnv} {h : Heap} {L : List Ent} {r : List AOper} {k j a b : Nat} {v : PV} {ty ty' : TypeId} {sz sz' : Nat} {es : List PV} {cs : PV → List PV} (M : Mem h L) (hk : L[k]? = some ⟨v, ty, sz, es⟩) (hj : L[j]? = some ⟨.op a b 0, ty', sz', [.agg (cs v)]⟩)
  (hne : isL v = true) (hF : ∀ d, FrzL v d (cs v) (cs d)) (hl : ∀ d, (cs d).length = (cs v).length) (K : ∀ d h', IsSl d es → Mem h' ((L.set j ⟨.op a b 0, ty', sz', [.agg (cs d)]⟩).eraseIdx k) → RS P r S Q E h') : RS P r S Q E h := by
 have hv := (M.atF hk).2
 have hsame : L.set j ⟨.op a b 0, ty', sz', [.agg (cs v)]⟩ = L := by
  obtain ⟨hlt, e⟩ := List.getElem?_eq_some_iff.1 hj
  rw [← e]; exact List.set_getElem_self hlt
 have same : IsSl v es → RS P r S Q E h := fun hs => K v h hs (by rw [hsame]; exact M.sub (List.eraseIdx_sublist ..))
 cases v with
 | os id ver off n =>
  cases off with
  | zero => exact bh7 M hk hj (hF _) (hl _) fun h' M' => K _ h' (.inr ⟨false, rfl⟩) M'
  | succ off => exact hv.elim
 | fs t es' =>
  cases t with
  | true => have e : es' = es := hv; exact same (.inr ⟨true, by rw [e]⟩)
  | false => exact hv.elim
 | sc u =>
  unfold EntV at hv
  split at hv <;> first | exact hv.elim | skip
  all_goals first | (rename_i heq; cases heq; exact same (.inl ⟨_, rfl, hv⟩)) | (rename_i heq; cases heq)
 | _ => first | exact hv.elim | (simp [isL] at hne)
def ixC (pc : List PV) (t kd : Int) (wv rv : PV) (lp : Int) (m1 m2 : PV) : List PV := pc ++ [vi t, vi kd, wv, rv, vi lp, m1, m2]
theorem cz2 (w : Int) (p : PV) : cnt (triP w p) = some 1 := rfl
theorem bg8 {S : List Fr} {Q : Post} {ixi ixv m1 u1 m2 u2 : Nat} {a0 a1 a2 a3 a4 a5 a6 a7 a8 wv rv : PV} {t kd lp : Int} {W : List Int} {l : List av} {R : List Ent} {res : IxS} (rw_ : (tSl tI).R W wv) (rr : (tSl av.t).R l rv) (HB : RowB W lp l)
  (K : ∀ {h : Heap} {ps : List (Ex × PV)} {N : List Ent}, TsM (ix W lp) res.2 ps N → MapB res.1 → MapB res.2 → Mem h (⟨.op ixi ixv 0, 69, 16, [.agg (ixC [a0, a1, a2, a3, a4, a5, a6, a7, a8] t kd wv rv lp (.om m1 u1) (.om m2 u2))]⟩ :: ⟨.om m1 u1, 66, 2, exE (mpV res.1)⟩ :: ⟨.om m2 u2, 67, 2, exE ps⟩ :: (N ++ R)) → PX Tryz.prog 0 S Q [] h) :
  ∀ (m : Nat) {i : Int} {st : IxS} {h : Heap} {ps : List (Ex × PV)} {N : List Ent}, m = Int.toNat ((l.length : Int) - i) → 0 ≤ i → i ≤ l.length → MapB st.1 → MapB st.2 → TsM (ix W lp) st.2 ps N → bL (ix W lp) lp l m i st = res →
   Mem h (⟨.op ixi ixv 0, 69, 16, [.agg (ixC [a0, a1, a2, a3, a4, a5, a6, a7, a8] t kd wv rv lp (.om m1 u1) (.om m2 u2))]⟩ :: ⟨.om m1 u1, 66, 2, exE (mpV st.1)⟩ :: ⟨.om m2 u2, 67, 2, exE ps⟩ :: (N ++ R)) →
   RC Tryz.prog (.loop bp7) S Q [(37, vi i), (36, vi (l.length : Int)), (35, rv), (0, .op ixi ixv 0)] h
 | 0, i, st, h, ps, N, hm, h0, h1, hB1, hB2, HT, hp, M => by
  refine bp ?_
  refine af (ah (ae (ay rfl rfl cj) (aw (ai (af (bf rfl (fun hc => ?_) fun hc => ?_))))))
  ·simp only [decide_eq_true_eq] at hc; omega
  ·have hp : st = res := hp
   subst hp
   exact db (dn (cq (wP (K HT hB1 hB2 M) rfl)))
 | m + 1, i, st, h, ps, N, hm, h0, h1, hB1, hB2, HT, hp, M => by
  have hlt : i < (l.length : Int) := by omega
  have hn := HB.n
  have hinc : wr (i + 1) = i + 1 := dg (by omega) (by omega)
  have b0 := HB.k i h0 hlt
  refine bp ?_
  refine af (ah (ae (ay rfl rfl cj) (aw (ai (af (bf rfl (fun hc => ?_) fun hc => ?_))))))
  ·obtain ⟨g, e0, q0⟩ := ct (i := i) rr h0 hlt
   obtain ⟨we, ge, re⟩ := av.g_Entry q0
   obtain ⟨c1, c2, rfl, qk, qa⟩ := q0
   refine ax (ai (af (bc (af (ah (mV rfl (ae (bg rfl rfl e0) (ae (br rfl rfl rfl) ?_))))))))
   refine dh (x := .agg [vi 0, nilS, vi 0, vi 0, nilS]) M rfl rfl (fun i3 w3 h3 M3 => mV rfl ?_)
   refine de (k := 0) (v := .agg [vi (ix l i).ID, c1, vi (ix l i).Entry.Priority, vi (ix l i).Entry.Call.Action, c2]) M3 rfl rfl rfl rfl (fun h4 M4 => aw (ai ?_))
   obtain ⟨kv, c0, rk⟩ := dp5 re b0
   have hvl : (px (ix l i).Entry).length ≤ 1000000 := by rw [bt4, List.length_map]; omega
   have he : ExB (bE lp (ix l i)) := pk_B _ _
   refine af (ah (ae (bm rfl) (ae (cm (k := 0) (off := 1) M4 rfl rfl ge) ?_)))
   refine cL c0 rfl rfl (aj (TR.clo _ re) bb) (mV rfl (ae (dt rfl rfl) (ae (bm rfl) (ae (cm (k := 1) (off := 13) (w := vi lp) M4 rfl rfl rfl) ?_))))
   refine cL (dp9 rk hvl) rfl rfl (aj (TR.clo _ rk) (aj rfl bb)) ?_
   refine dh (x := exV exz) M4 rfl rfl (fun i5 w5 h5 M5 => ?_)
   refine de (k := 0) (v := exV (bE lp (ix l i))) M5 rfl rfl rfl (ch6 he) (fun h6 M6 => aw (ai ?_))
   replace M6 : Mem h6 (⟨.op i5 w5 0, 90, 7, [exV (bE lp (ix l i))]⟩ :: ⟨.op i3 w3 0, 44, 5, [.agg [vi (ix l i).ID, c1, vi (ix l i).Entry.Priority, vi (ix l i).Entry.Call.Action, c2]]⟩ :: ⟨.op ixi ixv 0, 69, 16, [.agg (ixC [a0, a1, a2, a3, a4, a5, a6, a7, a8] t kd wv rv lp (.om m1 u1) (.om m2 u2))]⟩ :: ⟨.om m1 u1, 66, 2, exE (mpV st.1)⟩ :: ⟨.om m2 u2, 67, 2, exE ps⟩ :: (N ++ R)) := M6
   refine af (af (ah (mV rfl (ae (dt rfl rfl) (ae (bm rfl) (ae (cm (k := 2) (off := 13) (w := vi lp) M6 rfl rfl rfl) (ae (ay rfl rfl cj) (aw (ai (bf rfl (fun hc => ?_) fun hc => ?_))))))))))
   ·simp only [decide_eq_true_eq] at hc
    have hs : bS (ix W lp) lp (ix l i) i st = (wput st.1 (bE lp (ix l i)) i, st.2) := by unfold bS; rw [if_pos hc]
    rw [bL, hs] at hp
    refine af (ah (mV rfl (ae (dt rfl rfl) (ae (bm rfl) (ae (cm (k := 2) (off := 14) (w := .om m1 u1) M6 rfl rfl rfl) (ae (fe (k := 0) M6 rfl rfl rfl) (mV rfl ?_)))))))
    refine bp0 (k := 3) (v := vi i) M6 rfl rfl rfl rfl (er2 hB1) he rfl (fun h7 M7 => aw (ai ?_))
    rw [← bl9] at M7
    refine db (dn (dv (ai (ah (ae (ay rfl rfl dp) (mV rfl (aw (cf ?_))))))))
    refine mb ?_ (bg8 rw_ rr HB K m (i := i + 1) (st := (wput st.1 (bE lp (ix l i)) i, st.2)) (ps := ps) (N := N) (by omega) (by omega) (by omega) (hB1.put he i) hB2 HT hp (Mem.sub M7 (.cons _ (.cons _ (List.Sublist.refl _)))))
    exact ky (by show some (vi (wr (i + 1))) = _; rw [hinc]) (sB rfl)
   ·simp only [decide_eq_false_iff_not] at hc
    have hlp : 0 ≤ lp := by omega
    have hs : bS (ix W lp) lp (ix l i) i st = (st.1, wput st.2 (bE lp (ix l i)) (bT (ix W lp) lp (ix l i) i ((wget st.2 (bE lp (ix l i))).getD t0))) := by unfold bS; rw [if_neg (by omega)]
    obtain ⟨b6, c6, b2⟩ := HB.w hlp (by omega)
    obtain ⟨b9, c4⟩ := HB.lk i h0 hlt hlp
    rw [bL, hs] at hp
    refine ax (ai (af (ah (mV rfl (ae (dt rfl rfl) (ae (bm rfl) (ae (cm (k := 2) (off := 11) (w := wv) M6 rfl rfl (mk1 (TR.agg _ rw_))) (mV rfl (ae (dt rfl rfl) (ae (bm rfl) (ae (cm (k := 2) (off := 13) (w := vi lp) M6 rfl rfl rfl) ?_)))))))))))
    refine ae (bg rfl rfl (slI rw_ hlp b6)) (ae (br rfl rfl rfl) (mV rfl (aw (ai ?_))))
    refine af ?_
    refine wh (F := fun b S Q => ∀ {h : Heap} {ps : List (Ex × PV)} {N : List Ent} {ts : List (Ex × Tr)} {tr : Tr}, TsM (ix W lp) ts ps N → MapB ts → wget ts (bE lp (ix l i)) = some tr → bL (ix W lp) lp l m (i + 1) (st.1, wput ts (bE lp (ix l i)) (bT (ix W lp) lp (ix l i) i tr)) = res → Mem h (⟨.op i5 w5 0, 90, 7, [exV (bE lp (ix l i))]⟩ :: ⟨.op i3 w3 0, 44, 5, [.agg [vi (ix l i).ID, c1, vi (ix l i).Entry.Priority, vi (ix l i).Entry.Call.Action, c2]]⟩ :: ⟨.op ixi ixv 0, 69, 16, [.agg (ixC [a0, a1, a2, a3, a4, a5, a6, a7, a8] t kd wv rv lp (.om m1 u1) (.om m2 u2))]⟩ :: ⟨.om m1 u1, 66, 2, exE (mpV st.1)⟩ :: ⟨.om m2 u2, 67, 2, exE ps⟩ :: (N ++ R)) → RC Tryz.prog b S Q [(37, vi i), (36, vi (l.length : Int)), (35, rv), (5, vi (ix W lp)), (4, .op i5 w5 0), (3, .op i3 w3 0), (2, vi i), (0, .op ixi ixv 0)] h) ?_ ?_
    ·clear hp HT M M3 M4 M5 M6
     intro h ps N ts tr HT hBt hg hp M6
     obtain ⟨km, ek, qm⟩ := ct (i := lp) qk hlp b9
     refine af (ah (ae (bm rfl) (ae (bm rfl) (ae (cm (k := 1) (off := 1) (w := c1) M6 rfl rfl (mk1 (TR.agg _ qk))) (mV rfl (ae (dt rfl rfl) (ae (bm rfl) (ae (cm (k := 2) (off := 13) (w := vi lp) M6 rfl rfl rfl) ?_))))))))
     refine ae (bg rfl rfl ek) (ae (br rfl (TR.cnt _ qm) (TR.agg _ qm)) ?_)
     refine dh (x := .agg [dx 0#32, dx 0#32]) M6 rfl rfl (fun i8 w8 h8 M8 => ?_)
     refine de (k := 0) (v := km) M8 rfl rfl rfl (TR.cnt _ qm) (fun h9 M9 => aw (ai ?_))
     refine af (an1 (k := 0) (E' := [(37, vi i), (36, vi (l.length : Int)), (35, rv), (8, .fp km), (5, vi (ix W lp)), (4, .op i5 w5 0), (2, vi i), (0, .op ixi ixv 0)]) M9 rfl (ej rfl (ej rfl (ej rfl (qj rfl (ej rfl (ej rfl (ej rfl (ej rfl uf)))))))) (fun b1 a9 => ?_))
     replace a9 : Mem b1 (⟨.op i5 w5 0, 90, 7, [exV (bE lp (ix l i))]⟩ :: ⟨.op i3 w3 0, 44, 5, [.agg [vi (ix l i).ID, c1, vi (ix l i).Entry.Priority, vi (ix l i).Entry.Call.Action, c2]]⟩ :: ⟨.op ixi ixv 0, 69, 16, [.agg (ixC [a0, a1, a2, a3, a4, a5, a6, a7, a8] t kd wv rv lp (.om m1 u1) (.om m2 u2))]⟩ :: ⟨.om m1 u1, 66, 2, exE (mpV st.1)⟩ :: ⟨.om m2 u2, 67, 2, exE ps⟩ :: (N ++ R)) := a9
     refine ae (bz rfl (ba.g_Mask qm)) (ae (br rfl rfl rfl) (mV rfl ?_))
     refine cL cl2 rfl rfl (aj rfl (aj rfl bb)) (mV rfl (ae (fy rfl rfl) (ae (fy rfl rfl) (mV rfl (mV rfl (aw (ai ?_)))))))
     obtain ⟨pr, Nt, Nr, g1, g2, g3, g4, g5⟩ := HT.found hg
     cases tr with
     | nil => exact absurd rfl g2
     | node tl tr_ ts_ tv =>
     refine af (ah (mV rfl (aw (ai (bf rfl (fun hd => ?_) fun hd => ?_)))))
     ·refine am2 ?_
      have hBp := bp1 HT.B hBt
      refine iz (mV rfl (iy (iz (ae (dt rfl rfl) (iy (iz (ae (bm rfl) (iy ?_))))))))
      refine iz (ae (cm (k := 2) (off := 15) (w := .om m2 u2) a9 rfl rfl rfl) (iy (iz (ae (fe (k := 0) a9 rfl rfl rfl) (iy ?_)))))
      refine iz (az7 (k := 4) a9 rfl rfl rfl hBp he (iy ?_))
      rw [g1]
      refine iz (ae (bz rfl (ba.g_Value qm)) (iy (iz (ae (br rfl rfl rfl) (iy (iz (mV rfl (iy (iz (mV rfl (iy ?_)))))))))))
      have b3 : Mem b1 (Nt ++ (⟨.op i5 w5 0, 90, 7, [exV (bE lp (ix l i))]⟩ :: ⟨.op i3 w3 0, 44, 5, [.agg [vi (ix l i).ID, c1, vi (ix l i).Entry.Priority, vi (ix l i).Entry.Call.Action, c2]]⟩ :: ⟨.op ixi ixv 0, 69, 16, [.agg (ixC [a0, a1, a2, a3, a4, a5, a6, a7, a8] t kd wv rv lp (.om m1 u1) (.om m2 u2))]⟩ :: ⟨.om m1 u1, 66, 2, exE (mpV st.1)⟩ :: ⟨.om m2 u2, 67, 2, exE ps⟩ :: (Nr ++ R))) := a9.perm (by
       refine .trans (.cons _ (.cons _ (.cons _ (.cons _ (.cons _ (g4.append_right R)))))) ?_
       classical exact List.perm_iff_count.2 fun a => by simp only [List.count_append, List.count_cons, List.cons_append]; omega)
      obtain ⟨c7, b4, b7, L', k1, b8⟩ := do0 (x := (ix (ix l i).Entry.Keys lp).Value) (n := (ee (ix (ix l i).Entry.Keys lp).Mask (ix W lp)).1) (i := i) g3 b3 b2
      refine bt7 (cap := []) rfl rfl b7 (ch3 ?_)
      obtain ⟨N', k2, k3⟩ := g5 (bT (ix W lp) lp (ix l i) i (.node tl tr_ ts_ tv)) L' (cv8 (by simp)) k1
      have b5 : Mem b4 (⟨.op ixi ixv 0, 69, 16, [.agg (ixC [a0, a1, a2, a3, a4, a5, a6, a7, a8] t kd wv rv lp (.om m1 u1) (.om m2 u2))]⟩ :: ⟨.om m1 u1, 66, 2, exE (mpV st.1)⟩ :: ⟨.om m2 u2, 67, 2, exE ps⟩ :: (N' ++ R)) := by
       have c3 := b8.perm (L' := ⟨.op i5 w5 0, 90, 7, [exV (bE lp (ix l i))]⟩ :: ⟨.op i3 w3 0, 44, 5, [.agg [vi (ix l i).ID, c1, vi (ix l i).Entry.Priority, vi (ix l i).Entry.Call.Action, c2]]⟩ :: ⟨.op ixi ixv 0, 69, 16, [.agg (ixC [a0, a1, a2, a3, a4, a5, a6, a7, a8] t kd wv rv lp (.om m1 u1) (.om m2 u2))]⟩ :: ⟨.om m1 u1, 66, 2, exE (mpV st.1)⟩ :: ⟨.om m2 u2, 67, 2, exE ps⟩ :: (N' ++ R)) (by
        refine .trans ?_ (.cons _ (.cons _ (.cons _ (.cons _ (.cons _ (k3.append_right R))))))
        classical exact List.perm_iff_count.2 fun a => by simp only [List.count_append, List.count_cons, List.cons_append]; omega)
       exact Mem.sub c3 (.cons _ (.cons _ (List.Sublist.refl _)))
      refine da (ai (ah (ae (ay rfl rfl dp) (mV rfl (aw (cf ?_))))))
      refine mb ?_ (bg8 rw_ rr HB K m (i := i + 1) (st := (st.1, wput ts (bE lp (ix l i)) (bT (ix W lp) lp (ix l i) i (.node tl tr_ ts_ tv)))) (ps := ps) (N := N') (by omega) (by omega) (by omega) hB1 (hBt.put he _) k2 hp b5)
      exact ky (by show some (vi (wr (i + 1))) = _; rw [hinc]) (sB rfl)
     ·rw [c4] at hd; cases hd
    ·intro J
     have hBp := bp1 HT.B hB2
     refine af (ah (mV rfl (ae (dt rfl rfl) (ae (bm rfl) (ae (cm (k := 2) (off := 15) (w := .om m2 u2) M6 rfl rfl rfl) (ae (fe (k := 0) M6 rfl rfl rfl) ?_))))))
     refine az7 (k := 4) M6 rfl rfl rfl hBp he ?_
     cases hg : wget st.2 (bE lp (ix l i)) with
     | none =>
      rw [HT.absent hg]
      refine ae (v := vb true) (ay rfl rfl rfl) (aw (ai (bf rfl (fun hd => ?_) fun hd => by cases hd)))
      obtain ⟨c8, h7, c5, pr, Lt, rfl, k1, M7⟩ := dx6 c6 M6
      refine af (ol (dm (mV rfl (dl (ac2 rfl rfl c5 (dm (mV rfl (dl (dm (ae (fy rfl rfl) (dl (dm (ae (fy rfl rfl) (dl (dm (mV rfl (dl (dm (mV rfl (dl (tu (ai ?_))))))))))))))))))))))
      refine af (ah (mV rfl (ae (ay rfl rfl md) (aw (ai (bf rfl (fun hd => ?_) fun hd => by simp at hd))))))
      have M8 := M7.perm (L' := ⟨.op i5 w5 0, 90, 7, [exV (bE lp (ix l i))]⟩ :: ⟨.op i3 w3 0, 44, 5, [.agg [vi (ix l i).ID, c1, vi (ix l i).Entry.Priority, vi (ix l i).Entry.Call.Action, c2]]⟩ :: ⟨.op ixi ixv 0, 69, 16, [.agg (ixC [a0, a1, a2, a3, a4, a5, a6, a7, a8] t kd wv rv lp (.om m1 u1) (.om m2 u2))]⟩ :: ⟨.om m1 u1, 66, 2, exE (mpV st.1)⟩ :: ⟨.om m2 u2, 67, 2, exE ps⟩ :: (Lt ++ (N ++ R))) (by
       classical exact List.perm_iff_count.2 fun a => by simp only [List.count_append, List.count_cons, List.cons_append]; omega)
      refine ah (mV rfl (ae (dt rfl rfl) (ae (bm rfl) (ae (cm (k := 2) (off := 15) (w := .om m2 u2) M8 rfl rfl rfl) (ae (fe (k := 0) M8 rfl rfl rfl) (mV rfl ?_))))))
      refine bp0 (k := 4) (v := triP (ix W lp) pr) M8 rfl rfl rfl rfl hBp he (cz2 _ _) (fun h9 M9 => aw (ai ?_))
      obtain ⟨N', k2, k3⟩ := HT.new (t := t0) (by simp [t0]) k1 hg
      refine wC (J (ps := wput ps (bE lp (ix l i)) (triP (ix W lp) pr)) (N := N') (ts := wput st.2 (bE lp (ix l i)) t0) (tr := t0) k2 (hB2.put he _) (by rw [al4, if_pos rfl]) (by rw [bb8]; rw [hg] at hp; exact hp) (M9.perm ?_)) rfl
      ·refine .trans ?_ (.cons _ (.cons _ (.cons _ (.cons _ (.cons _ (k3.append_right R))))))
       show List.Perm (_ :: _ :: _ :: _ :: _ :: (Lt ++ (N ++ R))) _
       rw [List.append_assoc]
     | some tr =>
      obtain ⟨pr, Nt, Nr, g1, g2, g3, g4, g5⟩ := HT.found hg
      rw [g1]
      refine ae (v := vb false) (ay rfl rfl rfl) (aw (ai (bf rfl (fun hd => by cases hd) fun hd => ?_)))
      refine ax (ai ?_)
      exact wC (J (ps := ps) (N := N) (ts := st.2) (tr := tr) HT hB2 hg (by rw [hg] at hp; exact hp) M6) rfl
  ·simp only [decide_eq_false_iff_not] at hc; omega
theorem TsM.nil_ (w : Int) : TsM w [] [] [] := rfl
theorem ed3 {ixi ixv m1 u1 m2 u2 : Nat} {a0 a1 a2 a3 a4 a5 a6 a7 a8 wv rv : PV} {t kd : Int} {W : List Int} {l : List av} {R : List Ent} {h : Heap} {q : ab} (rq : ab.t.R q (.agg [a0, a1, a2, a3, a4, a5, a6, a7, a8])) (b1 : 0 ≤ t) (a9 : t < q.Tables.length) (rw_ : (tSl tI).R W wv) (rr : (tSl av.t).R l rv)
  (HB : kd ≠ 3 → RowB W (lpX (ix q.Tables t).Keys) l) (M : Mem h (⟨.op ixi ixv 0, 69, 16, [.agg (ixC [a0, a1, a2, a3, a4, a5, a6, a7, a8] t kd wv rv (-1) (.om m1 u1) (.om m2 u2))]⟩ :: ⟨.om m1 u1, 66, 2, []⟩ :: ⟨.om m2 u2, 67, 2, []⟩ :: R)) :
  ∃ r h', FnX Tryz.prog 46 [.op ixi ixv 0] h r h' ∧ r = .tup [] ∧ ∃ ps N, TsM (ix W (if kd = 3 then -1 else lpX (ix q.Tables t).Keys)) (bR kd W (lpX (ix q.Tables t).Keys) l).2 ps N ∧ MapB (bR kd W (lpX (ix q.Tables t).Keys) l).1 ∧ MapB (bR kd W (lpX (ix q.Tables t).Keys) l).2 ∧
   Mem h' (⟨.op ixi ixv 0, 69, 16, [.agg (ixC [a0, a1, a2, a3, a4, a5, a6, a7, a8] t kd wv rv (if kd = 3 then -1 else lpX (ix q.Tables t).Keys) (.om m1 u1) (.om m2 u2))]⟩ :: ⟨.om m1 u1, 66, 2, exE (mpV (bR kd W (lpX (ix q.Tables t).Keys) l).1)⟩ :: ⟨.om m2 u2, 67, 2, exE ps⟩ :: (N ++ R)) := by
 refine fnX cb0 (by simp) ?_
 refine af (af (ah (mV rfl (ae (dt rfl rfl) (ae (bm rfl) (ae (cm (k := 0) (off := 10) (w := vi kd) M rfl rfl rfl) (ae (ay rfl rfl md) (aw (ai (bf rfl (fun hc => ?_) fun hc => ?_))))))))))
 ·simp only [decide_eq_true_eq] at hc
  refine uc .nil ⟨rfl, [], [], ?_⟩
  unfold bR
  rw [if_pos hc, if_pos hc]
  exact ⟨rfl, MapB.nil, MapB.nil, M⟩
 ·simp only [decide_eq_false_iff_not] at hc
  obtain ⟨wt, gt, rt⟩ := ab.g_Tables rq
  obtain ⟨e0, b0, q0⟩ := ct (i := t) rt b1 a9
  obtain ⟨wk, gk, rk⟩ := az.g_Keys q0
  unfold bR
  rw [if_neg hc, if_neg hc]
  refine ax (ai (af (am2 ?_)))
  refine iz (mV rfl (iy (iz (mV rfl (iy (iz (ae (dt rfl rfl) (iy (iz (ae (bm rfl) (iy (iz (ae (bm rfl) (iy ?_))))))))))))))
  refine iz (ae (cm (k := 0) (off := 5) (w := wt) M rfl rfl gt) (iy ?_))
  refine iz (mV rfl (iy (iz (ae (dt rfl rfl) (iy (iz (ae (bm rfl) (iy ?_))))))))
  refine iz (ae (cm (k := 0) (off := 9) (w := vi t) M rfl rfl rfl) (iy ?_))
  refine iz (ae (bg rfl rfl b0) (iy (iz (ae (bz rfl gk) (iy (iz (ae (br rfl (TR.cnt _ rk) (TR.agg _ rk)) (iy ?_))))))))
  refine iz (cL (dz0 rk ev9) rfl rfl (aj (TR.clo _ rk) (aj rfl bb)) (iy ?_))
  refine iz (ae (dt rfl rfl) (iy (iz (ae (bm rfl) (iy ?_)))))
  refine iz (gw (off := 13) (k := 0) (v := vi (lpX (ix q.Tables t).Keys)) M rfl rfl rfl rfl rfl (by simp [ixC]) (fun h2 M2 => iy (ch3 (ai ?_))))
  replace M2 : Mem h2 (⟨.op ixi ixv 0, 69, 16, [.agg (ixC [a0, a1, a2, a3, a4, a5, a6, a7, a8] t kd wv rv (lpX (ix q.Tables t).Keys) (.om m1 u1) (.om m2 u2))]⟩ :: ⟨.om m1 u1, 66, 2, []⟩ :: ⟨.om m2 u2, 67, 2, []⟩ :: R) := M2
  refine af (ah (mV rfl (ae (dt rfl rfl) (ae (bm rfl) (ae (cm (k := 0) (off := 12) (w := rv) M2 rfl rfl (mk1 (TR.agg _ rr))) (ae (cg rfl (bq rr Tryz.underlying32 _)) (ae (v := vi 0) (aq rfl) (aw (ai (bc ?_))))))))))
  refine wC (bg8 rw_ rr (HB hc) (t := t) (kd := kd) (R := R) ?_ l.length (i := 0) (st := ([], [])) (ps := []) (N := []) (by omega) (by omega) (by omega) MapB.nil MapB.nil (TsM.nil_ _) rfl M2) rfl
  ·intro h3 ps N k1 k2 k3 M3
   exact dv (cx5 .nil ⟨rfl, ps, N, k1, k2, k3, M3⟩)
theorem cf0 {S : List Fr} {p : ab} {t : Int} {l : List av} {v0 v2 : PV} {R : List Ent} {mi mv : Nat} {res : Int} {Φ : PV → Heap → Prop} (r0 : ab.t.R p v0) (r2 : (tSl av.t).R l v2)
  (Kb : ∀ {h : Heap}, res ≠ 0 → Mem h R → Φ (.tup [nilP, vi res]) h)
  (K : ∀ {h : Heap}, res = 0 → Mem h R → PX Tryz.prog 0 S (retPost Tryz.prog [(6, none), (7, none)] Φ) [(3, .fp v0), (2, v2), (1, vi t)] h) :
  ∀ (m : Nat) {i : Int} {z : List (Int × Bool)} {es : List PV} {h : Heap}, m = Int.toNat ((l.length : Int) - i) → 0 ≤ i → i ≤ l.length → All2 (tKV tB).R z es → newL p t l m i z = res → Mem h (⟨.om mi mv, 82, 2, es⟩ :: R) →
   RC Tryz.prog (.loop cy5) S (retPost Tryz.prog [(6, none), (7, none)] Φ) [(31, vi i), (30, vi (l.length : Int)), (29, v2), (10, .om mi mv), (3, .fp v0), (2, v2), (1, vi t)] h
 | 0, i, z, es, h, hm, h0, h1, hz, hp, M => by
  refine bp ?_
  refine af (ah (ae (ay rfl rfl cj) (aw (ai (af (bf rfl (fun hc => ?_) fun hc => ?_))))))
  ·simp only [decide_eq_true_eq] at hc; omega
  ·have hp : (0 : Int) = res := hp
   exact db (dn (cq (wP (K hp.symm (Mem.sub M (.cons _ (List.Sublist.refl _)))) rfl)))
 | m + 1, i, z, es, h, hm, h0, h1, hz, hp, M => by
  have hlt : i < (l.length : Int) := by omega
  have hb := df r2
  have hinc : wr (i + 1) = i + 1 := dg (by omega) (by omega)
  refine bp ?_
  refine af (ah (ae (ay rfl rfl cj) (aw (ai (af (bf rfl (fun hc => ?_) fun hc => ?_))))))
  ·obtain ⟨g, e0, q0⟩ := ct (i := i) r2 h0 hlt
   obtain ⟨we, ge, re⟩ := av.g_Entry q0
   refine ax (ai (af (bc (af (ah (mV rfl (ae (bg rfl rfl e0) (ae (br rfl (TR.cnt _ q0) (TR.agg _ q0)) ?_))))))))
   refine dh (x := .agg [vi 0, nilS, vi 0, vi 0, nilS]) M rfl rfl (fun i3 w3 h3 M3 => mV rfl ?_)
   refine de (k := 0) (v := g) M3 rfl rfl rfl (TR.cnt _ q0) (fun h4 M4 => aw (ai ?_))
   refine af (af (an1 (k := 0) (E' := [(31, vi i), (30, vi (l.length : Int)), (29, v2), (12, .fp g), (11, vi i), (10, .om mi mv), (3, .fp v0), (2, v2), (1, vi t)]) M4 rfl (ej rfl (ej rfl (ej rfl (qj rfl (ej rfl (ej rfl (ej rfl (ej rfl (ej rfl uf))))))))) (fun h5 M5 => ?_)))
   replace M5 : Mem h5 (⟨.om mi mv, 82, 2, es⟩ :: R) := M5
   refine ae (br rfl (TR.cnt _ r0) (TR.agg _ r0)) (mV rfl (ae (bz rfl ge) (ae (br rfl (TR.cnt _ re) (TR.agg _ re)) ?_)))
   refine cL (ds8 r0 re) rfl rfl (aj (TR.clo _ r0) (aj rfl (aj (TR.clo _ re) bb))) (mV rfl (aw (ai ?_)))
   rw [newL] at hp
   refine af (ah (mV rfl (ae (ay rfl rfl jq) (aw (ai (bf rfl (fun hc => ?_) fun hc => ?_))))))
   ·replace hc : (!decide (od p t (ix l i).Entry = 0)) = true := hc
    rw [if_pos hc] at hp
    have a2 : od p t (ix l i).Entry ≠ 0 := by simpa using hc
    refine af (ah (mV rfl (ae (v := nilP) (aq rfl) (mV rfl (aw (ai ?_))))))
    refine uc (.tmp rfl (.tmp rfl .nil)) ?_
    show Φ (.tup [nilP, vi _]) h5
    rw [hp]
    exact Kb (by rw [← hp]; exact a2) (Mem.sub M5 (.cons _ (List.Sublist.refl _)))
   ·replace hc : (!decide (od p t (ix l i).Entry = 0)) = false := hc
    rw [if_neg (by rw [hc]; simp)] at hp
    have hsl : ∃ tg fs, v2 = .fs tg fs ∧ All2 av.t.R l fs := by
     obtain ⟨⟨fs, hv, hl⟩, _⟩ := r2
     rcases hv with ⟨ad, rfl, rfl⟩ | ⟨tg, rfl⟩
     ·cases l with
      | nil => simp at hlt; omega
      | cons _ _ => simp [All2] at hl
     ·exact ⟨tg, fs, rfl, hl⟩
    obtain ⟨tg, fs, rfl, hfs⟩ := hsl
    have hsub : (tSl av.t).R (l.take i.toNat) (.fs (tg && (i.toNat == fs.length)) ((fs.drop 0).take (i.toNat - 0))) := by
     rw [List.drop_zero, Nat.sub_zero]
     exact rh (All2.take _ hfs) (by rw [List.length_take]; omega)
    obtain ⟨d, a1, a0⟩ := ds6 hsub (ew0 q0)
    have hfl := hfs.length
    refine ax (ai (af (af (ah (mV rfl (mV rfl (ae (ca1 (l := 0) (u := i.toNat) rfl (vl := none) (vu := some (vi i)) rfl rfl rfl (by show (if 0 ≤ i then some i.toNat else none) = _; rw [if_pos h0]) (by omega) (by omega) (List.all_eq_true.2 fun x hx => by rw [hfs.cnt x hx]; rfl)) ?_)))))))
    refine ae (v := .fn (.func 41) [] [.fp g]) (bv3 rfl rfl) ?_
    refine cL a1 rfl rfl (aj (TR.clo _ hsub) (aj (by simp [closedL, closed, TR.clo _ q0]) bb)) (mV rfl (ae (fy rfl rfl) (ae (fy rfl rfl) ?_)))
    refine dh (x := .agg [vi 0, nilS, vi 0, vi 0, nilS]) M5 rfl rfl (fun i6 w6 h6 M6 => ?_)
    refine de (k := 0) (v := d) M6 rfl rfl rfl (TR.cnt _ a0) (fun h7 M7 => mV rfl (aw (ai ?_)))
    replace M7 : Mem h7 (⟨.op i6 w6 0, 44, 5, [d]⟩ :: ⟨.om mi mv, 82, 2, es⟩ :: R) := M7
    have gid : fieldR 0 1 false g = some (vi (ix l i).ID) := by obtain ⟨_, _, rfl, _⟩ := q0; rfl
    refine af (ah (mV rfl (mV rfl ?_)))
    refine bw 5 (d := 58) (v := vb ((ep (l.take i.toNat) fun x => jm x.Entry (ix l i).Entry).2 || (mget z (ix l i).ID).getD false)) ?_ ?_
    ·intro S Q r
     cases (ep (l.take i.toNat) fun x => jm x.Entry (ix l i).Entry).2
     ·intro k
      refine ak rfl rfl (aq rfl) (ak rfl rfl (bz rfl gid) (ak rfl rfl (br rfl rfl rfl) ?_))
      obtain ⟨v, k1, k2⟩ := ay2 (t := tB) (zero := false) (z := .bool false) (ix l i).ID false M7 (k := 1) rfl hz rfl
      have k2 : v = vb ((mget z (ix l i).ID).getD false) := k2
      subst k2
      refine db6 rfl rfl ⟨rfl, fun T hT => by show lookM h7 (.bool false) false (ev T (.tmp 54)) (ev T (.tmp 56)) = _; rw [dw hT rfl, dw hT rfl, k1]⟩ ?_
      exact gK rfl rfl rfl rfl rfl k
     ·exact gN 4 rfl rfl rfl rfl rfl rfl
    refine aw (ai (bf rfl (fun hd => ?_) fun hd => ?_))
    ·rw [if_pos hd] at hp
     refine af (ah (ae (v := nilP) (aq rfl) (ae (v := vi 7) (aq rfl) (aw (ai ?_)))))
     refine uc (.tmp rfl (.tmp rfl .nil)) ?_
     show Φ (.tup [nilP, vi 7]) h7
     rw [hp]
     exact Kb (by omega) (Mem.sub M7 (.cons _ (.cons _ (List.Sublist.refl _))))
    ·rw [if_neg (by rw [hd]; simp)] at hp
     refine ax (ai (ah (mV rfl (ae (bz rfl gid) (ae (br rfl rfl rfl) ?_)))))
     refine bj8 (t := tB) (k := 1) (b := true) M7 rfl rfl rfl rfl hz rfl (fun h8 es' M8 hz' => aw (da (ai ?_)))
     refine ah (ae (ay rfl rfl dp) (mV rfl (aw (cf ?_))))
     refine mb ?_ (cf0 r0 r2 Kb K m (i := i + 1) (by omega) (by omega) (by omega) hz' hp (Mem.sub M8 (.cons _ (List.Sublist.refl _))))
     exact ky (by show some (vi (wr (i + 1))) = _; rw [hinc]) (sB rfl)
  ·simp only [decide_eq_false_iff_not] at hc; omega
theorem cv3 {v d a0 a1 a2 a3 a4 a5 a6 a7 a8 wv m1 m2 : PV} {t kd lp : Int} : FrzL v d (ixC [a0, a1, a2, a3, a4, a5, a6, a7, a8] t kd wv v lp m1 m2) (ixC [a0, a1, a2, a3, a4, a5, a6, a7, a8] t kd wv d lp m1 m2) :=
 .cons (.same _) (.cons (.same _) (.cons (.same _) (.cons (.same _) (.cons (.same _) (.cons (.same _) (.cons (.same _) (.cons (.same _) (.cons (.same _) (.cons (.same _) (.cons (.same _) (.cons (.same _) (.cons .turn (.cons (.same _) (.cons (.same _) (.cons (.same _) .nil)))))))))))))))
theorem cd0 {S : List Fr} {Q : Post} {l : List av} {v2 wv : PV} {R : List Ent} {ixi ixv m1 u1 m2 u2 : Nat} {a0 a1 a2 a3 a4 a5 a6 a7 a8 : PV} {t kd : Int} (r2 : (tSl av.t).R l v2) (hs : ∀ r ∈ l, SR r) (hn : l.length ≤ 1000)
  (K : ∀ {h : Heap} {rv : PV} {es : List PV}, isL rv = true → All2 av.t.R l es → Mem h (⟨rv, 44, 5, es⟩ :: ⟨.op ixi ixv 0, 69, 16, [.agg (ixC [a0, a1, a2, a3, a4, a5, a6, a7, a8] t kd wv rv (-1) (.om m1 u1) (.om m2 u2))]⟩ :: ⟨.om m1 u1, 66, 2, []⟩ :: ⟨.om m2 u2, 67, 2, []⟩ :: R) → PX Tryz.prog 2 S Q [(16, .op ixi ixv 0)] h) :
  ∀ (m : Nat) {i : Int} {rv : PV} {es : List PV} {h : Heap}, m = Int.toNat ((l.length : Int) - i) → 0 ≤ i → i ≤ l.length → isL rv = true → Wri rv es → All2 av.t.R (l.take i.toNat) es →
   Mem h (⟨rv, 44, 5, es⟩ :: ⟨.op ixi ixv 0, 69, 16, [.agg (ixC [a0, a1, a2, a3, a4, a5, a6, a7, a8] t kd wv rv (-1) (.om m1 u1) (.om m2 u2))]⟩ :: ⟨.om m1 u1, 66, 2, []⟩ :: ⟨.om m2 u2, 67, 2, []⟩ :: R) →
   RC Tryz.prog (.loop cr7) S Q [(79, vi i), (78, vi (l.length : Int)), (77, v2), (16, .op ixi ixv 0)] h
 | 0, i, rv, es, h, hm, h0, h1, hne, hw, hl, M => by
  refine bp ?_
  refine af (ah (ae (ay rfl rfl cj) (aw (ai (af (bf rfl (fun hc => ?_) fun hc => ?_))))))
  ·simp only [decide_eq_true_eq] at hc; omega
  ·rw [List.take_of_length_le (by omega)] at hl
   exact db (dn (cq (wP (K hne hl M) rfl)))
 | m + 1, i, rv, es, h, hm, h0, h1, hne, hw, hl, M => by
  have hlt : i < (l.length : Int) := by omega
  have hinc : wr (i + 1) = i + 1 := dg (by omega) (by omega)
  refine bp ?_
  refine af (ah (ae (ay rfl rfl cj) (aw (ai (af (bf rfl (fun hc => ?_) fun hc => ?_))))))
  ·obtain ⟨g, e0, q0⟩ := ct (i := i) r2 h0 hlt
   refine ax (ai (af (bc (af (ah (ae (bg rfl rfl e0) (ae (br rfl (TR.cnt _ q0) (TR.agg _ q0)) ?_)))))))
   refine dh (x := .agg [vi 0, nilS, vi 0, vi 0, nilS]) M rfl rfl (fun i3 w3 h3 M3 => ?_)
   refine de (k := 0) (v := g) M3 rfl rfl rfl (TR.cnt _ q0) (fun h4 M4 => aw (ai ?_))
   replace M4 : Mem h4 (⟨.op i3 w3 0, 44, 5, [g]⟩ :: ⟨rv, 44, 5, es⟩ :: ⟨.op ixi ixv 0, 69, 16, [.agg (ixC [a0, a1, a2, a3, a4, a5, a6, a7, a8] t kd wv rv (-1) (.om m1 u1) (.om m2 u2))]⟩ :: ⟨.om m1 u1, 66, 2, []⟩ :: ⟨.om m2 u2, 67, 2, []⟩ :: R) := M4
   have hrow : SR (ix l i) := by rw [rx h0 hlt]; exact hs _ (List.getElem_mem _)
   obtain ⟨d, b1, a9⟩ := dw7 q0 hrow
   have b0 := (bk9 M4 (k := 1) rfl hne)
   refine ah (mV rfl (mV rfl (ae (dt rfl rfl) (ae (bm rfl) (ae (cm (k := 2) (off := 12) (w := rv) M4 rfl rfl (mk1 b0.2)) (ae (fe (k := 0) M4 rfl rfl (TR.agg _ q0)) ?_))))))
   refine cL b1 rfl rfl (aj (TR.clo _ q0) bb) (ae (v := .fs true [d]) (fm rfl (all_cons (TR.cnt _ a9) jn)) ?_)
   have hlen := hl.length
   have hti : (l.take i.toNat).length = i.toNat := by rw [List.length_take]; omega
   have ff : fits (es.length + [d].length) 72 = true := kx (by simp only [List.length_cons, List.length_nil]; omega) (by simp only [List.length_cons, List.length_nil]; omega)
   refine lh (k := 1) (es := es) (news := [d]) M4 rfl rfl rfl hne hw (am8 (.inr ⟨true, rfl⟩) (by intro y hy; rw [List.mem_singleton.1 hy]; exact TR.cnt _ a9)) ff (fun a h5 hna hwa M5 => ?_)
   replace M5 : Mem h5 (⟨.op i3 w3 0, 44, 5, [g]⟩ :: ⟨a, 44, 5, es ++ [d]⟩ :: ⟨.op ixi ixv 0, 69, 16, [.agg (ixC [a0, a1, a2, a3, a4, a5, a6, a7, a8] t kd wv rv (-1) (.om m1 u1) (.om m2 u2))]⟩ :: ⟨.om m1 u1, 66, 2, []⟩ :: ⟨.om m2 u2, 67, 2, []⟩ :: R) := M5
   refine ae (dt rfl rfl) (ae (bm rfl) ?_)
   refine gw (off := 12) (k := 2) (v := a) (ds := [a]) M5 rfl rfl rfl (bk9 M5 (k := 1) rfl hna).1 rfl (by simp [ixC]) (fun h6 M6 => aw (da (ai ?_)))
   replace M6 : Mem h6 (⟨.op i3 w3 0, 44, 5, [g]⟩ :: ⟨a, 44, 5, es ++ [d]⟩ :: ⟨.op ixi ixv 0, 69, 16, [.agg (ixC [a0, a1, a2, a3, a4, a5, a6, a7, a8] t kd wv a (-1) (.om m1 u1) (.om m2 u2))]⟩ :: ⟨.om m1 u1, 66, 2, []⟩ :: ⟨.om m2 u2, 67, 2, []⟩ :: R) := M6
   refine ah (ae (ay rfl rfl dp) (mV rfl (aw (cf ?_))))
   have hta : l.take (i + 1).toNat = l.take i.toNat ++ [ix l i] := by rw [show (i + 1).toNat = i.toNat + 1 by omega, List.take_succ_eq_append_getElem (by omega), rx h0 hlt]
   refine mb ?_ (cd0 r2 hs hn K m (i := i + 1) (by omega) (by omega) (by omega) hna hwa (by rw [hta]; exact All2.app hl ⟨a9, trivial⟩) (Mem.sub M6 (.cons _ (List.Sublist.refl _))))
   exact ky (by show some (vi (wr (i + 1))) = _; rw [hinc]) (sB rfl)
  ·simp only [decide_eq_false_iff_not] at hc; omega
def IsIx (p : ab) (t : Int) (l : List av) (x : PV) (L : List Ent) : Prop := ∃ a0 a1 a2 a3 a4 a5 a6 a7 a8 wv rv m1 u1 m2 u2 ps N, x = .fp (.agg (ixC [a0, a1, a2, a3, a4, a5, a6, a7, a8] t (iw p t) wv rv (lpN p t) (.om m1 u1) (.om m2 u2))) ∧
 ab.t.R (ownP p t) (.agg [a0, a1, a2, a3, a4, a5, a6, a7, a8]) ∧ (tSl tI).R (dj p t) wv ∧ (tSl av.t).R l rv ∧ TsM (ix (dj p t) (lpN p t)) (bNd p t l).2 ps N ∧ MapB (bNd p t l).1 ∧ MapB (bNd p t l).2 ∧ L = ⟨.om m1 u1, 66, 2, exE (mpV (bNd p t l).1)⟩ :: ⟨.om m2 u2, 67, 2, exE ps⟩ :: N
theorem dv8 {p : ab} {t : Int} {l : List av} {v0 v2 : PV} {h : Heap} {R : List Ent} (r0 : ab.t.R p v0) (r2 : (tSl av.t).R l v2) (hn : l.length ≤ 1000) (hs : ∀ r ∈ l, SR r) (hok : newE p t l = 0 → NewOK p t l) (M : Mem h R) :
  ∃ r h', FnX Tryz.prog 15 [v0, vi t, v2] h r h' ∧ ((newE p t l ≠ 0 ∧ r = .tup [nilP, vi (newE p t l)] ∧ Mem h' R) ∨ (newE p t l = 0 ∧ ∃ x L, r = .tup [x, vi 0] ∧ IsIx p t l x L ∧ Mem h' (L ++ R))) := by
 generalize hres : newE p t l = res at *
 refine fnX cp4 (by simp) ?_
 refine af (ah (ae (di rfl (TR.cnt _ r0)) (ae (v := nilP) (aq rfl) (ae (v := vi 0) (aq rfl) (aw (ai ?_))))))
 unfold newE at hres
 refine af (af (ah (ae (br rfl (TR.cnt _ r0) (TR.agg _ r0)) (mV rfl ?_))))
 refine cL (bh1 r0) rfl rfl (aj (TR.clo _ r0) (aj rfl bb)) (mV rfl (ae (fy rfl rfl) (ae (fy rfl rfl) (mV rfl (mV rfl (aw (ai ?_)))))))
 refine af (ah (mV rfl (ae (ay rfl rfl jq) (aw (ai (bf rfl (fun hc => ?_) fun hc => ?_))))))
 ·replace hc : (!decide ((gx p t).2 = 0)) = true := hc
  rw [if_pos hc] at hres
  refine af (ah (mV rfl (ae (v := nilP) (aq rfl) (mV rfl (aw (ai ?_))))))
  refine uc (.tmp rfl (.tmp rfl .nil)) (.inl ⟨by rw [← hres]; simpa using hc, ?_, M⟩)
  show PV.tup [nilP, vi _] = _
  rw [hres]
 ·replace hc : (!decide ((gx p t).2 = 0)) = false := hc
  rw [if_neg (by rw [hc]; simp)] at hres
  refine ax (ai (af (ah (aj1 M (fun mi mv h1 M1 => mV rfl (aw (ai ?_)))))))
  refine af (af (ah (mV rfl (ae (cg rfl (bq r2 Tryz.underlying32 _)) (ae (v := vi 0) (aq rfl) (aw (ai (bc ?_))))))))
  refine wC (cf0 r0 r2 (res := res) (R := R) (fun {h'} hr M' => .inl ⟨hr, rfl, M'⟩) ?_ l.length (i := 0) (z := []) (es := []) (by omega) (by omega) (by omega) trivial hres M1) rfl
  ·intro h2 hr M2
   have OK := hok hr
   have hb := OK.b
   obtain ⟨pr, a3, a0⟩ := dr9 r0 OK.a OK.b OK.c OK.d
   obtain ⟨wv, a4, rw_⟩ := av9 (x1 := t) r0
   refine dv (ai (af (ah (ae (br rfl (TR.cnt _ r0) (TR.agg _ r0)) (mV rfl ?_)))))
   refine cL a3 rfl rfl (aj (TR.clo _ r0) (aj rfl bb)) (mV rfl (ae (br rfl (TR.cnt _ r0) (TR.agg _ r0)) (mV rfl ?_)))
   refine cL (cn9 r0) rfl rfl (aj (TR.clo _ r0) (aj rfl bb)) (ae (br rfl (TR.cnt _ r0) (TR.agg _ r0)) (mV rfl ?_))
   refine cL a4 rfl rfl (aj (TR.clo _ r0) (aj rfl bb)) ?_
   refine aj1 M2 (fun m1 u1 h3 M3 => aj1 M3 (fun m2 u2 h4 M4 => ?_))
   have a1 := a0
   obtain ⟨c1, c2, c3, c4, c5, c6, c7, c8, rfl, _⟩ := a1
   have hwv := rw_.1
   refine ae (v := .agg (ixC [vs (ownP p t).Name, c1, c2, c3, c4, c5, c6, c7, c8] t (iw p t) wv nilS (-1) (.om m1 u1) (.om m2 u2))) (kh (cs := ixC [vs (ownP p t).Name, c1, c2, c3, c4, c5, c6, c7, c8] t (iw p t) wv nilS (-1) (.om m1 u1) (.om m2 u2)) rfl (by obtain ⟨es, he, _⟩ := hwv; rcases he with ⟨ad, rfl, _⟩ | ⟨tg, rfl⟩ <;> rfl)) ?_
   refine xh M4 rfl rfl (fun ixi ixv h5 M5 => mV rfl (aw (ai ?_)))
   refine af (af (ah (mV rfl (ae (cg rfl (bq r2 Tryz.underlying32 _)) (ae (v := vi 0) (aq rfl) (aw (ai (bc ?_))))))))
   have M6 : Mem h5 (⟨nilS, 44, 5, []⟩ :: ⟨.op ixi ixv 0, 69, 16, [.agg (ixC [vs (ownP p t).Name, c1, c2, c3, c4, c5, c6, c7, c8] t (iw p t) wv nilS (-1) (.om m1 u1) (.om m2 u2))]⟩ :: ⟨.om m1 u1, 66, 2, []⟩ :: ⟨.om m2 u2, 67, 2, []⟩ :: R) :=
    ml (M5.perm (.cons _ (.swap _ _ _))) 44 (.inl ⟨none, rfl, rfl⟩) (by simp)
   refine wC (cd0 r2 hs hn (R := R) ?_ l.length (i := 0) (rv := nilS) (es := []) (by omega) (by omega) (by omega) rfl (.inl rfl) trivial M6) rfl
   ·intro h7 rv es hne hl M7
    refine dv (ai (af (ol ?_)))
    refine bg6 (k := 0) (j := 1) (cs := fun v => ixC [vs (ownP p t).Name, c1, c2, c3, c4, c5, c6, c7, c8] t (iw p t) wv v (-1) (.om m1 u1) (.om m2 u2)) M7 rfl rfl hne (fun d => cv3) (fun d => rfl) (fun d h8 hd M8 => ?_)
    replace M8 : Mem h8 (⟨.op ixi ixv 0, 69, 16, [.agg (ixC [vs (ownP p t).Name, c1, c2, c3, c4, c5, c6, c7, c8] t (iw p t) wv d (-1) (.om m1 u1) (.om m2 u2))]⟩ :: ⟨.om m1 u1, 66, 2, []⟩ :: ⟨.om m2 u2, 67, 2, []⟩ :: R) := M8
    have rd : (tSl av.t).R l d := ⟨⟨es, hd, hl⟩, by omega⟩
    obtain ⟨a6, h9, a5, rfl, ps, N, k1, k2, k3, M9⟩ := ed3 a0 OK.a (bz7 p t OK.a) rw_ rd (by rw [ap7 p t OK.a]; exact OK.e) M8
    rw [ap7 p t OK.a] at k1 k2 k3 M9
    refine dm (mV rfl (dl (ac2 rfl rfl a5 (tu (ai ?_)))))
    refine af (ol ?_)
    refine bh0 (k := 0) (E' := [(16, .fp (.agg (ixC [vs (ownP p t).Name, c1, c2, c3, c4, c5, c6, c7, c8] t (iw p t) wv d (lpN p t) (.om m1 u1) (.om m2 u2))))]) M9 rfl (qj rfl uf) (fun a7 a2 => ?_)
    refine dm (mV rfl (dl (dm (mV rfl (dl (dm (ae (v := vi 0) (aq rfl) (dl (tu (ai ?_)))))))))) 
    exact uc (.tmp rfl (.tmp rfl .nil)) (.inr ⟨hr, _, _, rfl, ⟨_, _, _, _, _, _, _, _, _, wv, d, m1, u1, m2, u2, ps, N, rfl, a0, rw_, rd, k1, k2, k3, rfl⟩, a2⟩)
theorem ef7 {l : List Int} {a : PV} {es : List PV} {R : List Ent} {h : Heap} (q : All2 tI.R l es) (ne : isL a = true) (hl : l.length ≤ 1000000) (wi : Wri a es) (M : Mem h (⟨a, 3, 1, es⟩ :: R)) :
  ∃ h2 es', FnX Tryz.prog 56 [a] h (.tup []) h2 ∧ Mem h2 (⟨a, 3, 1, es'⟩ :: R) ∧ All2 tI.R (l.mergeSort fun x y => decide (x ≤ y)) es' := by
 obtain ⟨r, h2, X, es', M2, q2, w2, rfl⟩ := bi9 cd9.enters Go.Proofs.Tryz.sortI_calls Go.Proofs.Tryz.sortI_none q ne hl wi M
 exact ⟨h2, es', X, M2, q2⟩
theorem be4 {S : List Fr} {Q : Post} {p : ab} {t bits ib : Int} {W : List Int} {l : List av} {r : av} {v0 v2 wv ov g : PV} {a0 a1 : Nat} {eso : List PV} (r0 : ab.t.R p v0) (r2 : (tSl av.t).R l v2) (rw_ : (tSl tI).R W wv) (rg : av.t.R r g) (hn : l.length ≤ 30) (hk : ∀ j : Int, 0 ≤ j → j < l.length → (ix l j).Entry.Keys.length ≤ W.length) (hW : ∀ j : Int, 0 ≤ j → j < W.length → 0 ≤ ix W j)
  (K : ∀ {h : Heap} {bv : PV} {es : List PV}, isL bv = true → All2 aa.t.R (ot p t W l r) es → Mem h [⟨bv, 99, 2, es⟩, ⟨.op a0 a1 0, 44, 5, [g]⟩, ⟨ov, 3, 1, eso⟩] → PX Tryz.prog 2 S Q [(40, vi ib), (39, vi (l.length : Int)), (38, v2), (15, bv), (14, .op a0 a1 0), (12, ov), (11, vi bits), (10, wv), (3, .fp v0), (2, v2), (1, vi t)] h) :
  ∀ (m : Nat) {i : Int} {bv : PV} {es : List PV} {h : Heap}, m = Int.toNat ((l.length : Int) - i) → 0 ≤ i → i ≤ l.length → isL bv = true → Wri bv es → All2 aa.t.R (((l.take i.toNat).filter fun x => gi p t x r).map fun x => ji x.Entry W) es → Mem h [⟨bv, 99, 2, es⟩, ⟨.op a0 a1 0, 44, 5, [g]⟩, ⟨ov, 3, 1, eso⟩] →
   RC Tryz.prog (.loop ct2) S Q [(46, vi i), (45, vi (l.length : Int)), (44, v2), (40, vi ib), (39, vi (l.length : Int)), (38, v2), (15, bv), (14, .op a0 a1 0), (12, ov), (11, vi bits), (10, wv), (3, .fp v0), (2, v2), (1, vi t)] h
 | 0, i, bv, es, h, hm, h0, h1, hne, hw, ha, M => by
  refine bp ?_
  refine af (ah (ae (ay rfl rfl cj) (aw (ai (af (bf rfl (fun hc => ?_) fun hc => ?_))))))
  ·simp only [decide_eq_true_eq] at hc; omega
  ·rw [List.take_of_length_le (by omega)] at ha
   exact db (dn (cq (wP (K hne ha M) rfl)))
 | m + 1, i, bv, es, h, hm, h0, h1, hne, hw, ha, M => by
  have hlt : i < (l.length : Int) := by omega
  have hinc : wr (i + 1) = i + 1 := dg (by omega) (by omega)
  have hta : l.take (i + 1).toNat = l.take i.toNat ++ [ix l i] := by rw [show (i + 1).toNat = i.toNat + 1 by omega, List.take_succ_eq_append_getElem (by omega), rx h0 hlt]
  refine bp ?_
  refine af (ah (ae (ay rfl rfl cj) (aw (ai (af (bf rfl (fun hc => ?_) fun hc => ?_))))))
  ·obtain ⟨e, e0, q0⟩ := ct (i := i) r2 h0 hlt
   obtain ⟨we, ge, re⟩ := av.g_Entry q0
   refine ax (ai (af (bc (af (ah (ae (bg rfl rfl e0) (ae (br rfl (TR.cnt _ q0) (TR.agg _ q0)) ?_)))))))
   refine dh (x := .agg [vi 0, nilS, vi 0, vi 0, nilS]) M rfl rfl (fun i3 w3 h3 M3 => ?_)
   refine de (k := 0) (v := e) M3 rfl rfl rfl (TR.cnt _ q0) (fun h4 M4 => aw (ai ?_))
   replace M4 : Mem h4 [⟨.op i3 w3 0, 44, 5, [e]⟩, ⟨bv, 99, 2, es⟩, ⟨.op a0 a1 0, 44, 5, [g]⟩, ⟨ov, 3, 1, eso⟩] := M4
   refine af (ah (ae (br rfl (TR.cnt _ r0) (TR.agg _ r0)) (mV rfl (ae (fe (k := 0) M4 rfl rfl (TR.agg _ q0)) (ae (fe (k := 2) M4 rfl rfl (TR.agg _ rg)) ?_)))))
   refine cL (dq5 r0 q0 rg) rfl rfl (aj (TR.clo _ r0) (aj rfl (aj (TR.clo _ q0) (aj (TR.clo _ rg) bb)))) (aw (ai (bf rfl (fun hd => ?_) fun hd => ?_)))
   ·obtain ⟨c, a3, a2⟩ := co6 re rw_ (hk i h0 hlt) hW
    refine ah (mV rfl (ae (bm rfl) (ae (cm (k := 0) (off := 1) M4 rfl rfl ge) (mV rfl ?_))))
    refine cL a3 rfl rfl (aj (TR.clo _ re) (aj (TR.clo _ rw_) bb)) (ae (v := .fs true [c]) (fm rfl (all_cons (TR.cnt _ a2) jn)) ?_)
    have hlen := ha.length
    have hfl : (((l.take i.toNat).filter fun x => gi p t x r).map fun x => ji x.Entry W).length ≤ i.toNat := by
     rw [List.length_map]
     refine Nat.le_trans (List.length_filter_le _ _) ?_
     rw [List.length_take]; omega
    have ff : fits (es.length + [c].length) 16 = true := kx (by simp only [List.length_cons, List.length_nil]; omega) (by simp only [List.length_cons, List.length_nil]; omega)
    refine lh (k := 1) (es := es) (news := [c]) M4 rfl rfl rfl hne hw (am8 (.inr ⟨true, rfl⟩) (by intro y hy; rw [List.mem_singleton.1 hy]; exact TR.cnt _ a2)) ff (fun a h5 hna hwa M5 => mV rfl (aw (da (ai ?_))))
    replace M5 : Mem h5 [⟨.op i3 w3 0, 44, 5, [e]⟩, ⟨a, 99, 2, es ++ [c]⟩, ⟨.op a0 a1 0, 44, 5, [g]⟩, ⟨ov, 3, 1, eso⟩] := M5
    refine ah (ae (ay rfl rfl dp) (mV rfl (aw (cf ?_))))
    refine mb ?_ (be4 r0 r2 rw_ rg hn hk hW K m (i := i + 1) (by omega) (by omega) (by omega) hna hwa (by rw [hta, List.filter_append, List.map_append]; refine All2.app ha ?_; simp only [List.filter_cons, hd, if_true, List.filter_nil, List.map_cons, List.map_nil]; exact ⟨a2, trivial⟩) (Mem.sub M5 (.cons _ (List.Sublist.refl _))))
    exact ky (by show some (vi (wr (i + 1))) = _; rw [hinc]) (sB rfl)
   ·refine ax (da (ai (ah (ae (ay rfl rfl dp) (mV rfl (aw (cf ?_)))))))
    refine mb ?_ (be4 r0 r2 rw_ rg hn hk hW K m (i := i + 1) (by omega) (by omega) (by omega) hne hw (by rw [hta, List.filter_append, List.map_append]; simp only [List.filter_cons, hd, Bool.false_eq_true, if_false, List.filter_nil, List.map_nil, List.append_nil]; exact ha) (Mem.sub M4 (.cons _ (List.Sublist.refl _))))
    exact ky (by show some (vi (wr (i + 1))) = _; rw [hinc]) (sB rfl)
  ·simp only [decide_eq_false_iff_not] at hc; omega
abbrev RSh (res : List Int × Int) : PV → Prop := fun r => ∃ c, r = .tup [c, vi res.2] ∧ (tSl tI).R res.1 c
theorem bd9 {S : List Fr} {p : ab} {t bits : Int} {W : List Int} {l : List av} {v0 v2 wv : PV} {res : List Int × Int} (r0 : ab.t.R p v0) (r2 : (tSl av.t).R l v2) (rw_ : (tSl tI).R W wv) (hn : l.length ≤ 30) (hk : ∀ j : Int, 0 ≤ j → j < l.length → (ix l j).Entry.Keys.length ≤ W.length) (hW : ∀ j : Int, 0 ≤ j → j < W.length → 0 ≤ ix W j)
  (K : ∀ {h : Heap} {out : List Int} {ov : PV} {es : List PV}, isL ov = true → Wri ov es → All2 tI.R out es → out.length ≤ 30 → (out.mergeSort fun x y => decide (x ≤ y), 0) = res → Mem h [⟨ov, 3, 1, es⟩] → PX Tryz.prog 0 S (QR Tryz.prog [(6, none), (7, none)] (RSh res)) [(12, ov)] h) :
  ∀ (m : Nat) {i : Int} {out : List Int} {ov : PV} {es : List PV} {h : Heap}, m = Int.toNat ((l.length : Int) - i) → 0 ≤ i → i ≤ l.length → isL ov = true → Wri ov es → All2 tI.R out es → (out.length : Int) ≤ i → kn p t W bits l (l.drop i.toNat) out = res → Mem h [⟨ov, 3, 1, es⟩] →
   RC Tryz.prog (.loop da8) S (QR Tryz.prog [(6, none), (7, none)] (RSh res)) [(40, vi i), (39, vi (l.length : Int)), (38, v2), (12, ov), (11, vi bits), (10, wv), (3, .fp v0), (2, v2), (1, vi t)] h
 | 0, i, out, ov, es, h, hm, h0, h1, hne, hw, ha, hol, hp, M => by
  refine bp ?_
  refine af (ah (ae (ay rfl rfl cj) (aw (ai (af (bf rfl (fun hc => ?_) fun hc => ?_))))))
  ·simp only [decide_eq_true_eq] at hc; omega
  ·rw [List.drop_of_length_le (by omega)] at hp
   exact db (dn (cq (wP (K hne hw ha (by omega) hp M) rfl)))
 | m + 1, i, out, ov, es, h, hm, h0, h1, hne, hw, ha, hol, hp, M => by
  have hlt : i < (l.length : Int) := by omega
  have hinc : wr (i + 1) = i + 1 := dg (by omega) (by omega)
  refine bp ?_
  refine af (ah (ae (ay rfl rfl cj) (aw (ai (af (bf rfl (fun hc => ?_) fun hc => ?_))))))
  ·obtain ⟨g, e0, q0⟩ := ct (i := i) r2 h0 hlt
   obtain ⟨we, ge, re⟩ := av.g_Entry q0
   have gid : fieldR 0 1 false g = some (vi (ix l i).ID) := by obtain ⟨_, _, rfl, _⟩ := q0; rfl
   refine ax (ai (af (bc (af (ah (ae (bg rfl rfl e0) (ae (br rfl (TR.cnt _ q0) (TR.agg _ q0)) ?_)))))))
   refine dh (x := .agg [vi 0, nilS, vi 0, vi 0, nilS]) M rfl rfl (fun a0 a1 h3 M3 => ?_)
   refine de (k := 0) (v := g) M3 rfl rfl rfl (TR.cnt _ q0) (fun h4 M4 => aw (ai ?_))
   replace M4 : Mem h4 [⟨.op a0 a1 0, 44, 5, [g]⟩, ⟨ov, 3, 1, es⟩] := M4
   refine af (ah (ae (v := nilS) (aq rfl) (aw (ai ?_))))
   refine af (af (ah (mV rfl (ae (cg rfl (bq r2 Tryz.underlying32 _)) (ae (v := vi 0) (aq rfl) (aw (ai (bc ?_))))))))
   refine wC (be4 (t := t) (bits := bits) (ib := i) (r := ix l i) (bv := nilS) (es := []) r0 r2 rw_ q0 hn hk hW ?_ l.length (i := 0) (by omega) (by omega) (by omega) rfl (.inl rfl) trivial (ml M4 99 (.inl ⟨none, rfl, rfl⟩) (by simp))) rfl
   ·intro h5 bv esb hnb hab M5
    rw [List.drop_eq_getElem_cons (by omega), kn] at hp
    simp only [LET] at hp
    rw [← rx h0 hlt] at hp
    refine dv (ai (af (ol ?_)))
    refine vp (k := 0) (E' := fun d => [(40, vi i), (39, vi (l.length : Int)), (38, v2), (15, d), (14, .op a0 a1 0), (12, ov), (11, vi bits), (10, wv), (3, .fp v0), (2, v2), (1, vi t)]) M5 rfl hnb (fun d => ej rfl (ej rfl (ej rfl (qj rfl (ej rfl (ej rfl (ej rfl (ej rfl (ej rfl (ej rfl (ej rfl uf))))))))))) (fun d h6 hd M6 => ?_)
    replace M6 : Mem h6 [⟨.op a0 a1 0, 44, 5, [g]⟩, ⟨ov, 3, 1, es⟩] := M6
    have hbl : (ot p t W l (ix l i)).length ≤ 30 := by
     unfold ot
     rw [List.length_map]
     exact Nat.le_trans (List.length_filter_le _ _) hn
    have rd : (tSl aa.t).R (ot p t W l (ix l i)) d := ⟨⟨esb, hd, hab⟩, by omega⟩
    obtain ⟨c, a4, a2⟩ := co6 re rw_ (hk i h0 hlt) hW
    have a3 : (tSl aa.t).R [ji (ix l i).Entry W] (.fs true [c]) := rh ⟨a2, trivial⟩ (by simp)
    obtain ⟨c0, a5, a6⟩ := dz7 (x2 := bits) a3 rd (by simp)
    refine dm (ae (bm rfl) (dl (dm (ae (cm (k := 0) (off := 1) M6 rfl rfl ge) (dl (dm (mV rfl (dl ?_))))))))
    refine dm (cL a4 rfl rfl (aj (TR.clo _ re) (aj (TR.clo _ rw_) bb)) (dl (dm (ae (v := .fs true [c]) (fm rfl (all_cons (TR.cnt _ a2) jn)) (dl ?_)))))
    refine dm (mV rfl (dl (dm (mV rfl (dl (dm (cL a5 rfl rfl (aj (TR.clo _ a3) (aj (TR.clo _ rd) (aj rfl bb))) (dl ?_))))))))
    refine dm (mV rfl (dl (dm (ae (fy rfl rfl) (dl (dm (ae (fy rfl rfl) (dl (dm (mV rfl (dl (dm (mV rfl (dl (tu (ai ?_))))))))))))))))
    generalize jb [ji (ix l i).Entry W] (ot p t W l (ix l i)) bits = q at *
    refine af (af (ah (mV rfl (ae (ay rfl rfl jq) (aw (ai (bf rfl (fun hd => ?_) fun hd => ?_)))))))
    ·replace hd : (!decide (q.2 = 0)) = true := hd
     rw [if_pos hd] at hp
     refine af (ah (mV rfl (ae (v := nilS) (aq rfl) (mV rfl (aw (ai ?_))))))
     exact dk (.tmp rfl (.tmp rfl .nil)) (cd rfl) ⟨nilS, by rw [← hp]; rfl, by rw [← hp]; exact fg⟩
    ·replace hd : (!decide (q.2 = 0)) = false := hd
     rw [if_neg (by rw [hd]; simp)] at hp
     refine ax (ai (af (ah (mV rfl (ae (cg rfl (bq a6 Tryz.underlying96 _)) (ae (ay rfl rfl md) (aw (ai (bf rfl (fun he => ?_) fun he => ?_)))))))))
     ·replace he : decide ((q.1.length : Int) = 0) = true := he
      rw [if_pos he] at hp
      refine ah (mV rfl (ae (bm rfl) (ae (cm (k := 0) (off := 0) M6 rfl rfl gid) (ae (v := .fs true [vi (ix l i).ID]) (fm rfl (all_cons rfl jn)) ?_))))
      have hlen := ha.length
      have ff : fits (es.length + [vi (ix l i).ID].length) 8 = true := kx (by simp only [List.length_cons, List.length_nil]; omega) (by simp only [List.length_cons, List.length_nil]; omega)
      refine lh (k := 1) (es := es) (news := [vi (ix l i).ID]) M6 rfl rfl rfl hne hw (am8 (.inr ⟨true, rfl⟩) (by intro y hy; rw [List.mem_singleton.1 hy]; rfl)) ff (fun a h7 hna hwa M7 => mV rfl (aw (da (ai ?_))))
      replace M7 : Mem h7 [⟨.op a0 a1 0, 44, 5, [g]⟩, ⟨a, 3, 1, es ++ [vi (ix l i).ID]⟩] := M7
      refine ah (ae (ay rfl rfl dp) (mV rfl (aw (cf ?_))))
      refine mb ?_ (bd9 r0 r2 rw_ hn hk hW K m (i := i + 1) (out := out ++ [(ix l i).ID]) (by omega) (by omega) (by omega) hna hwa (All2.app ha ⟨rfl, trivial⟩) (by rw [List.length_append, List.length_singleton]; omega) (by rw [show (i + 1).toNat = i.toNat + 1 by omega]; exact hp) (Mem.sub M7 (.cons _ (List.Sublist.refl _))))
      exact ky (by show some (vi (wr (i + 1))) = _; rw [hinc]) (sB rfl)
     ·replace he : decide ((q.1.length : Int) = 0) = false := he
      rw [if_neg (by rw [he]; simp)] at hp
      refine ax (da (ai (ah (ae (ay rfl rfl dp) (mV rfl (aw (cf ?_)))))))
      refine mb ?_ (bd9 r0 r2 rw_ hn hk hW K m (i := i + 1) (by omega) (by omega) (by omega) hne hw ha (by omega) (by rw [show (i + 1).toNat = i.toNat + 1 by omega]; exact hp) (Mem.sub M6 (.cons _ (List.Sublist.refl _))))
      exact ky (by show some (vi (wr (i + 1))) = _; rw [hinc]) (sB rfl)
  ·simp only [decide_eq_false_iff_not] at hc; omega
theorem dt1 {x0 : ab} {x1 : Int} {x2 : List av} {v0 v2 : PV} (r0 : ab.t.R x0 v0) (r2 : (tSl av.t).R x2 v2) (hs : ∀ r ∈ x2, SR r) (hn : x2.length ≤ 30) (hT : x0.Tables.length ≤ 16) : ∃ c0, FnR Tryz.prog 19 [v0, vi x1, v2] (.tup [c0, vi (kr x0 x1 x2).2]) ∧ (tSl tI).R (kr x0 x1 x2).1 c0 := by
 generalize hres : kr x0 x1 x2 = res
 obtain ⟨r, h1, c0, rfl, hr⟩ : ∃ r, FnR Tryz.prog 19 [v0, vi x1, v2] r ∧ RSh res r := by
  unfold kr at hres
  simp only [LET] at hres
  have hOK : newE x0 x1 x2 = 0 → NewOK x0 x1 x2 := fun h => ej2 ((an2 _ _ _).1 (by rw [← bl8]; exact h)) (by omega) (by omega)
  obtain ⟨a3, h2, a2, D⟩ := dv8 (t := x1) (R := []) r0 r2 (by omega) hs hOK (Mem.nil ⟨0, []⟩)
  rw [bl8] at D
  refine fnE bw8 (by simp) ?_
  refine af (ah (ae (di rfl (TR.cnt ab.t r0)) (ae (v := nilS) (aq rfl) (ae (v := vi 0) (aq rfl) (aw (ai ?_))))))
  refine af (af (ol ?_))
  refine dm (ae (br rfl (TR.cnt ab.t r0) (TR.agg ab.t r0)) (dl (dm (mV rfl (dl (dm (mV rfl (dl ?_))))))))
  refine ac2 rfl rfl a2 ?_
  rcases D with ⟨hne, rfl, M2⟩ | ⟨he, x, L, rfl, I, M2⟩
  ·rw [if_pos (by simpa using hne)] at hres
   generalize gz x0 x1 x2 = c at *
   refine dm (mV rfl (dl (dm (ae (fy rfl rfl) (dl (dm (ae (fy rfl rfl) (dl (dm (mV rfl (dl (dm (mV rfl (dl (tu (ai ?_))))))))))))))))
   refine af (ah (mV rfl (ae (ay rfl rfl jq) (aw (ai (bf rfl (fun hd => ?_) fun hd => ?_))))))
   ·refine af (ah (mV rfl (ae (v := nilS) (aq rfl) (mV rfl (aw (ai ?_))))))
    exact dk (.tmp rfl (.tmp rfl .nil)) (cd rfl) ⟨nilS, by rw [← hres]; rfl, by rw [← hres]; exact fg⟩
   ·have : c = 0 := by simpa using hd
    exact absurd this hne
  ·have G := (an2 _ _ _).1 he
   rw [he, if_neg (by simp)] at hres
   refine dm (mV rfl (dl (dm (ae (fy rfl rfl) (dl (dm (ae (fy rfl rfl) (dl (dm (mV rfl (dl (dm (mV rfl (dl (tu (ai ?_))))))))))))))))
   refine af (ah (mV rfl (ae (v := vb false) (ay rfl rfl dy1) (aw (ai (bf rfl (fun hd => by cases hd) fun hd => ?_))))))
   obtain ⟨wv, a0, rw_⟩ := av9 (x1 := x1) r0
   refine ax (ai (af (ah (ae (br rfl (TR.cnt ab.t r0) (TR.agg ab.t r0)) (mV rfl ?_)))))
   refine cL a0 rfl rfl (aj (TR.clo _ r0) (aj rfl bb)) (ae (br rfl (TR.cnt ab.t r0) (TR.agg ab.t r0)) (mV rfl ?_))
   refine cL (ec7 r0) rfl rfl (aj (TR.clo _ r0) (aj rfl bb)) (mV rfl (mV rfl (aw (ai ?_))))
   refine af (af (ah (mV rfl (ae (ay rfl rfl md) (aw (ai (bf rfl (fun hd => ?_) fun hd => ?_)))))))
   ·replace hd : decide (ld x0 x1 = 0) = true := hd
    rw [if_pos hd] at hres
    refine af (ah (ae (v := nilS) (aq rfl) (ae (v := vi 0) (aq rfl) (aw (ai ?_)))))
    exact dk (.tmp rfl (.tmp rfl .nil)) (cd rfl) ⟨nilS, by rw [← hres]; rfl, by rw [← hres]; exact fg⟩
   ·replace hd : decide (ld x0 x1 = 0) = false := hd
    rw [if_neg (by rw [hd]; simp)] at hres
    have hwl : (dj x0 x1).length = (ix x0.Tables x1).Keys.length := by rw [Widths_eq]; exact g_w G
    refine ax (ai (af (ah (ae (v := nilS) (aq rfl) (aw (ai ?_))))))
    refine af (af (ah (mV rfl (ae (cg rfl (bq r2 Tryz.underlying32 _)) (ae (v := vi 0) (aq rfl) (aw (ai (bc ?_))))))))
    refine wC (bd9 (t := x1) (bits := ld x0 x1) (res := res) (out := []) (ov := nilS) (es := []) r0 r2 rw_ hn (fun j j0 j1 => by rw [(ak4 G j0 j1).n, hwl]; omega) (fun j j0 j1 => by rw [Widths_eq] at j1 ⊢; exact (rwp rfl j0 j1).1) ?_ x2.length (i := 0) (by omega) (by omega) (by omega) rfl (.inl rfl) trivial (by simp) hres (ml (Mem.nil _) 3 (.inl ⟨none, rfl, rfl⟩) (by simp))) rfl
    ·intro h3 out ov es hne hw ha hol hp M3
     obtain ⟨h4, es', a1, M4, ha'⟩ := ef7 ha hne (by omega) hw M3
     refine dv (ai (af (ol (dm (mV rfl (dl (ac2 rfl rfl a1 (tu (ai ?_)))))))))
     refine af (ol ?_)
     refine vp (k := 0) (E' := fun d => [(12, d)]) M4 rfl hne (fun d => qj rfl uf) (fun d h5 hd M5 => ?_)
     refine dm (mV rfl (dl (dm (mV rfl (dl (dm (ae (v := vi 0) (aq rfl) (dl (tu (ai ?_))))))))))
     subst hp
     have rd : (tSl tI).R (out.mergeSort fun x y => decide (x ≤ y)) d := ⟨⟨es', hd, ha'⟩, by rw [List.length_mergeSort]; omega⟩
     exact dk (.tmp rfl (.tmp rfl .nil)) (cd (show closed (.tup _) = true from aj (TR.clo _ rd) (aj rfl bb))) ⟨d, rfl, rd⟩
 exact ⟨c0, h1, hr⟩

end Go.Proofs.YthdnpgpnodgicaaGreat
